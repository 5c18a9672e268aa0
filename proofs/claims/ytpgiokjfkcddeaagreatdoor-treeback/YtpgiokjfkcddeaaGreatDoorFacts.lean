/- Parts of the proof: contracts of functions of the program, and plain lemmas. No condition. -/
import Derived.Test.YtpgiokjfkcddeaaGreatDoorProg
import Derived.Test.YtpgiokjfkcddeaaGreatDoorEng2
import Derived.KernelRfl
import Derived.Test.YtpgiokjfkcddeaaGreatDoorRows
import Derived.Shelf.LaysM
import Derived.Shelf.Strings.SplitShaped
import Derived.Shelf.Unicode.Decode
import Derived.Shelf.Unicode.DecodeAny
import Derived.Below
import Derived.Lib.Fields
set_option maxHeartbeats 64000000
set_option maxRecDepth 100000
namespace Go.Proofs.YtpgiokjfkcddeaaGreatDoor
open Go.Eng
section
abbrev cc (t : Nat) : Prop := callable Tryz.prog t = true
abbrev sn (t : Nat) : Prop := single Tryz.prog t = true
abbrev c1 (t : Nat) : Prop := cells1 Tryz.prog t = true
abbrev az (t q : Nat) : Prop := aggSize Tryz.prog t = some q
theorem mixed : Tryz.prog.follows .mixedOrders = true := by kernel_rfl
theorem st9 : isStr Tryz.prog 9 = true := by kernel_rfl
theorem cl6 : cc 6 := by decide +kernel
theorem cl7 : cc 7 := by decide +kernel
theorem zl26 : zeroL Tryz.prog 26 = some [.slice none 0 0, .slice none 0 0] := by kernel_rfl
theorem zl29 : zeroL Tryz.prog 29 = some [.int .i64 0, .int .i64 0] := by kernel_rfl
theorem ag26 : az 26 2 := by decide +kernel
theorem ag29 : az 29 2 := by decide +kernel
theorem fg29 : flatG Tryz.prog 29 = some [.i .i64, .i .i64] := by kernel_rfl
theorem cl9 : cc 9 := by decide +kernel
theorem cl11 : cc 11 := by decide +kernel
theorem cl12 : cc 12 := by decide +kernel
theorem sg23 : sn 23 := by decide +kernel
theorem ez23 : esz Tryz.prog 23 = some 12 := by kernel_rfl
theorem ag40 : az 40 12 := by decide +kernel
theorem cl14 : cc 14 := by decide +kernel
theorem sg27 : sn 27 := by decide +kernel
theorem sg24 : sn 24 := by decide +kernel
theorem sg3 : sn 3 := by decide +kernel
theorem sg38 : sn 38 := by decide +kernel
theorem ez38 : esz Tryz.prog 38 = some 14 := by kernel_rfl
theorem sg42 : sn 42 := by decide +kernel
theorem sg43 : sn 43 := by decide +kernel
theorem ez43 : esz Tryz.prog 43 = some 4 := by kernel_rfl
theorem pl29 : placesL Tryz.prog 29 = some [(0, 1), (1, 1)] := by kernel_rfl
theorem cl16 : cc 16 := by decide +kernel
theorem pl26 : placesL Tryz.prog 26 = some [(0, 1), (1, 1)] := by kernel_rfl
theorem zl56 : zeroL Tryz.prog 56 = some [.slice none 0 0, .int .i64 0, .int .i64 0, .int .i64 0] := by kernel_rfl
theorem pl56 : placesL Tryz.prog 56 = some [(0, 1), (1, 1), (2, 1), (3, 1)] := by kernel_rfl
theorem sg51 : sn 51 := by decide +kernel
theorem ez51 : esz Tryz.prog 51 = some 4 := by kernel_rfl
theorem cl18 : cc 18 := by decide +kernel
theorem cl19 : cc 19 := by decide +kernel
theorem co3 : c1 3 := by decide +kernel
theorem cl20 : cc 20 := by decide +kernel
theorem sl23 : slInfo Tryz.prog 23 = some (40, 12, 152, [.string ByteArray.empty, .bool false, .int .i64 0, .int .i64 0, .int .i64 0, .int .i64 0, .int .i64 0, .int .i64 0, .slice none 0 0, .slice none 0 0, .slice none 0 0, .int .i64 0]) := by kernel_rfl
theorem co23 : c1 23 := by decide +kernel
theorem cl21 : cc 21 := by decide +kernel
theorem sl24 : slInfo Tryz.prog 24 = some (63, 7, 96, [.string ByteArray.empty, .int .i64 0, .int .i64 0, .int .i64 0, .slice none 0 0, .slice none 0 0, .int .i64 0]) := by kernel_rfl
theorem co24 : c1 24 := by decide +kernel
theorem zl40 : zeroL Tryz.prog 40 = some [.string ByteArray.empty, .bool false, .int .i64 0, .int .i64 0, .int .i64 0, .int .i64 0, .int .i64 0, .int .i64 0, .slice none 0 0, .slice none 0 0, .slice none 0 0, .int .i64 0] := by kernel_rfl
theorem zl63 : zeroL Tryz.prog 63 = some [.string ByteArray.empty, .int .i64 0, .int .i64 0, .int .i64 0, .slice none 0 0, .slice none 0 0, .int .i64 0] := by kernel_rfl
theorem ag63 : az 63 7 := by decide +kernel
theorem cl28 : cc 28 := by decide +kernel
theorem ez24 : esz Tryz.prog 24 = some 7 := by kernel_rfl
theorem sg9 : sn 9 := by decide +kernel
theorem fo63_1 : foff Tryz.prog 63 1 = some 1 := by kernel_rfl
theorem fo63_2 : foff Tryz.prog 63 2 = some 2 := by kernel_rfl
theorem fo63_3 : foff Tryz.prog 63 3 = some 3 := by kernel_rfl
theorem fo63_4 : foff Tryz.prog 63 4 = some 4 := by kernel_rfl
theorem sg61 : sn 61 := by decide +kernel
theorem cl29 : cc 29 := by decide +kernel
theorem fo63_5 : foff Tryz.prog 63 5 = some 5 := by kernel_rfl
theorem cl30 : cc 30 := by decide +kernel
theorem zl4 : zeroL Tryz.prog 4 = some [.bool false] := by kernel_rfl
theorem co4 : c1 4 := by decide +kernel
theorem cl32 : cc 32 := by decide +kernel
theorem cl31 : cc 31 := by decide +kernel
theorem sg4 : sn 4 := by decide +kernel
theorem cl40 : cc 40 := by decide +kernel
theorem cl49 : cc 49 := by decide +kernel
theorem cl50 : cc 50 := by decide +kernel
theorem cl51 : cc 51 := by decide +kernel
theorem zl58 : zeroL Tryz.prog 58 = some [.int .i8 0, .string ByteArray.empty, .int .i64 0, .int .i64 0] := by kernel_rfl
theorem pl58 : placesL Tryz.prog 58 = some [(0, 1), (1, 1), (2, 1), (3, 1)] := by kernel_rfl
theorem sl51 : slInfo Tryz.prog 51 = some (58, 4, 40, [.int .i8 0, .string ByteArray.empty, .int .i64 0, .int .i64 0]) := by kernel_rfl
theorem cl52 : cc 52 := by decide +kernel
theorem us5 : (Tryz.prog.underlying 5).isSome = true := by kernel_rfl
theorem ik21 : isIntT Tryz.prog 21 .i32 = true := by kernel_rfl
theorem ik3 : isIntT Tryz.prog 3 .i64 = true := by kernel_rfl
theorem cl53 : cc 53 := by decide +kernel
theorem us29 : (Tryz.prog.underlying 29).isSome = true := by kernel_rfl
theorem ni29 : isIface Tryz.prog 29 = false := by kernel_rfl
theorem ag58 : az 58 4 := by decide +kernel
theorem cl54 : cc 54 := by decide +kernel
theorem sg54 : sn 54 := by decide +kernel
theorem cl55 : cc 55 := by decide +kernel
theorem co9 : c1 9 := by decide +kernel
theorem cl56 : cc 56 := by decide +kernel
theorem cl57 : cc 57 := by decide +kernel
theorem sl61 : slInfo Tryz.prog 61 = some (9, 1, 16, [.string ByteArray.empty]) := by kernel_rfl
theorem cl58 : cc 58 := by decide +kernel
theorem cl60 : cc 60 := by decide +kernel
theorem cl62 : cc 62 := by decide +kernel
theorem cl63 : cc 63 := by decide +kernel
theorem cl64 : cc 64 := by decide +kernel
theorem cl65 : cc 65 := by decide +kernel
theorem cl59 : cc 59 := by decide +kernel
theorem cl66 : cc 66 := by decide +kernel
theorem cl68 : cc 68 := by decide +kernel
theorem cl71 : cc 71 := by decide +kernel
theorem cl72 : cc 72 := by decide +kernel
theorem cl74 : cc 74 := by decide +kernel
theorem ez61 : esz Tryz.prog 61 = some 1 := by kernel_rfl
theorem co38 : c1 38 := by decide +kernel
theorem co61 : c1 61 := by decide +kernel
theorem bo4 : isBoolT Tryz.prog 4 = true := by kernel_rfl
theorem cl84 : cc 84 := by decide +kernel
theorem ag45 : az 45 4 := by decide +kernel
theorem cl85 : cc 85 := by decide +kernel
theorem ag48 : az 48 5 := by decide +kernel
theorem cl86 : cc 86 := by decide +kernel
theorem zl9 : zeroL Tryz.prog 9 = some [.string ByteArray.empty] := by kernel_rfl
theorem zl27 : zeroL Tryz.prog 27 = some [.int .i64 0] := by kernel_rfl
theorem co27 : c1 27 := by decide +kernel
theorem cl33 : cc 33 := by decide +kernel
theorem zl76 : zeroL Tryz.prog 76 = some [.pointer none, .slice none 0 0] := by kernel_rfl
theorem cl34 : cc 34 := by decide +kernel
theorem cl37 : cc 37 := by decide +kernel
theorem cl38 : cc 38 := by decide +kernel
theorem zl120 : zeroL Tryz.prog 120 = some [] := by kernel_rfl
theorem pl120 : placesL Tryz.prog 120 = some [] := by kernel_rfl
theorem us120 : (Tryz.prog.underlying 120).isSome = true := by kernel_rfl
theorem ni120 : isIface Tryz.prog 120 = false := by kernel_rfl
theorem cl35 : cc 35 := by decide +kernel
theorem cl36 : cc 36 := by decide +kernel
theorem sg74 : sn 74 := by decide +kernel
theorem cl88 : cc 88 := by decide +kernel
theorem sl74 : slInfo Tryz.prog 74 = some (5, 1, 1, [.int .u8 0]) := by kernel_rfl
theorem co74 : c1 74 := by decide +kernel
theorem cl41 : cc 41 := by decide +kernel
theorem sl121 : slInfo Tryz.prog 121 = some (3, 1, 8, [.int .i64 0]) := by kernel_rfl
theorem cl42 : cc 42 := by decide +kernel
theorem ez121 : esz Tryz.prog 121 = some 1 := by kernel_rfl
theorem cl43 : cc 43 := by decide +kernel
theorem sl122 : slInfo Tryz.prog 122 = some (61, 1, 24, [.slice none 0 0]) := by kernel_rfl
theorem ez122 : esz Tryz.prog 122 = some 1 := by kernel_rfl
theorem cl89 : cc 89 := by decide +kernel
theorem zl91 : zeroL Tryz.prog 91 = some [.int .i64 0, .int .i64 0] := by kernel_rfl
theorem pl91 : placesL Tryz.prog 91 = some [(0, 1), (1, 1)] := by kernel_rfl
theorem sl92 : slInfo Tryz.prog 92 = some (38, 1, 24, [.slice none 0 0]) := by kernel_rfl
theorem ez92 : esz Tryz.prog 92 = some 1 := by kernel_rfl
theorem cl44 : cc 44 := by decide +kernel
theorem cl92 : cc 92 := by decide +kernel
theorem ag50 : az 50 14 := by decide +kernel
theorem zl50 : zeroL Tryz.prog 50 = some [.int .i8 0, .int .i8 0, .int .i8 0, .int .i64 0, .int .i8 0, .slice none 0 0, .string ByteArray.empty, .int .i8 0, .int .i8 0, .string ByteArray.empty, .slice none 0 0, .slice none 0 0, .slice none 0 0, .slice none 0 0] := by kernel_rfl
theorem cl94 : cc 94 := by decide +kernel
theorem us3 : (Tryz.prog.underlying 3).isSome = true := by kernel_rfl
theorem zl128 : zeroL Tryz.prog 128 = some [.string ByteArray.empty, .string ByteArray.empty, .string ByteArray.empty, .string ByteArray.empty, .string ByteArray.empty, .string ByteArray.empty, .string ByteArray.empty, .string ByteArray.empty, .string ByteArray.empty, .string ByteArray.empty, .string ByteArray.empty, .string ByteArray.empty, .string ByteArray.empty] := by kernel_rfl
theorem ar128 : arrInfo Tryz.prog 128 = some (13, 9, 1) := by kernel_rfl
theorem ars128 : sn 9 := by decide +kernel
theorem cl98 : cc 98 := by decide +kernel
theorem ms108 : mapStr Tryz.prog 108 = some 1 := by kernel_rfl
theorem mz108 : zero1 Tryz.prog 1 (.nilFunc) := YU (i := _) rfl (by kernel_rfl)
theorem ms129 : mapStr Tryz.prog 129 = some 4 := by kernel_rfl
theorem mz129 : zero1 Tryz.prog 4 (.bool false) := YU (i := _) rfl (by kernel_rfl)
theorem cl61 : cc 61 := by decide +kernel
theorem cl99 : cc 99 := by decide +kernel
theorem sl38 : slInfo Tryz.prog 38 = some (50, 14, 192, [.int .i8 0, .int .i8 0, .int .i8 0, .int .i64 0, .int .i8 0, .slice none 0 0, .string ByteArray.empty, .int .i8 0, .int .i8 0, .string ByteArray.empty, .slice none 0 0, .slice none 0 0, .slice none 0 0, .slice none 0 0]) := by kernel_rfl
theorem cl67 : cc 67 := by decide +kernel
theorem sg109 : sn 109 := by decide +kernel
theorem cl69 : cc 69 := by decide +kernel
theorem sg111 : sn 111 := by decide +kernel
theorem cl70 : cc 70 := by decide +kernel
theorem cl103 : cc 103 := by decide +kernel
theorem cl104 : cc 104 := by decide +kernel
theorem sg46 : sn 46 := by decide +kernel
theorem ez46 : esz Tryz.prog 46 = some 5 := by kernel_rfl
theorem ag120 : az 120 0 := by decide +kernel
theorem cl107 : cc 107 := by decide +kernel
theorem sg89 : sn 89 := by decide +kernel
theorem cl109 : cc 109 := by decide +kernel
theorem pl50 : placesL Tryz.prog 50 = some [(0, 1), (1, 1), (2, 4), (6, 1), (7, 5), (12, 1), (13, 1)] := by kernel_rfl
theorem cl110 : cc 110 := by decide +kernel
theorem cl111 : cc 111 := by decide +kernel
theorem co42 : c1 42 := by decide +kernel
theorem zl48 : zeroL Tryz.prog 48 = some [.int .i8 0, .int .i8 0, .string ByteArray.empty, .slice none 0 0, .slice none 0 0] := by kernel_rfl
theorem pl48 : placesL Tryz.prog 48 = some [(0, 1), (1, 1), (2, 1), (3, 1), (4, 1)] := by kernel_rfl
theorem cl112 : cc 112 := by decide +kernel
theorem cl114 : cc 114 := by decide +kernel
theorem cl113 : cc 113 := by decide +kernel
theorem zl45 : zeroL Tryz.prog 45 = some [.int .i8 0, .int .i64 0, .int .i8 0, .slice none 0 0] := by kernel_rfl
theorem pl45 : placesL Tryz.prog 45 = some [(0, 1), (1, 1), (2, 1), (3, 1)] := by kernel_rfl
theorem cl125 : cc 125 := by decide +kernel
theorem cl126 : cc 126 := by decide +kernel
theorem cl127 : cc 127 := by decide +kernel
theorem cl128 : cc 128 := by decide +kernel
theorem cl129 : cc 129 := by decide +kernel
theorem cl130 : cc 130 := by decide +kernel
theorem cl137 : cc 137 := by decide +kernel
theorem cl142 : cc 142 := by decide +kernel
theorem cl143 : cc 143 := by decide +kernel
theorem cl115 : cc 115 := by decide +kernel
theorem cl144 : cc 144 := by decide +kernel
theorem cl145 : cc 145 := by decide +kernel
theorem sl168 : slInfo Tryz.prog 168 = some (42, 1, 1, [.int .i8 0]) := by kernel_rfl
theorem cl150 : cc 150 := by decide +kernel
theorem cl149 : cc 149 := by decide +kernel
theorem cl153 : cc 153 := by decide +kernel
theorem cl152 : cc 152 := by decide +kernel
theorem sl46 : slInfo Tryz.prog 46 = some (48, 5, 72, [.int .i8 0, .int .i8 0, .string ByteArray.empty, .slice none 0 0, .slice none 0 0]) := by kernel_rfl
theorem cl166 : cc 166 := by decide +kernel
theorem cl169 : cc 169 := by decide +kernel
theorem cl168 : cc 168 := by decide +kernel
theorem cl170 : cc 170 := by decide +kernel
theorem ez168 : esz Tryz.prog 168 = some 1 := by kernel_rfl
theorem cl173 : cc 173 := by decide +kernel
theorem sl43 : slInfo Tryz.prog 43 = some (45, 4, 48, [.int .i8 0, .int .i64 0, .int .i8 0, .slice none 0 0]) := by kernel_rfl
theorem cl174 : cc 174 := by decide +kernel
theorem cl167 : cc 167 := by decide +kernel
theorem cl180 : cc 180 := by decide +kernel
theorem cl181 : cc 181 := by decide +kernel
theorem ik42 : isIntT Tryz.prog 42 .i8 = true := by kernel_rfl
theorem cl151 : cc 151 := by decide +kernel
theorem cl182 : cc 182 := by decide +kernel
end
section
def tz : Tab := ⟨[(26, 0, 0), (26, 1, 1), (29, 0, 0), (29, 1, 1), (40, 0, 0), (40, 1, 1), (40, 2, 2), (40, 3, 3), (40, 4, 4), (40, 5, 5), (40, 6, 6), (40, 7, 7), (40, 8, 8), (40, 9, 9), (40, 10, 10), (40, 11, 11), (45, 0, 0), (45, 1, 1), (45, 2, 2), (45, 3, 3), (48, 0, 0), (48, 1, 1), (48, 2, 2), (48, 3, 3), (48, 4, 4), (50, 0, 0), (50, 1, 1), (50, 2, 2), (50, 3, 6), (50, 4, 7), (50, 5, 12), (50, 6, 13), (56, 0, 0), (56, 1, 1), (56, 2, 2), (56, 3, 3), (58, 0, 0), (58, 1, 1), (58, 2, 2), (58, 3, 3), (63, 0, 0), (63, 1, 1), (63, 2, 2), (63, 3, 3), (63, 4, 4), (63, 5, 5), (63, 6, 6), (67, 0, 0), (67, 1, 1), (67, 2, 2), (67, 3, 3), (76, 0, 0), (76, 1, 1), (91, 0, 0), (91, 1, 1), (97, 0, 0), (97, 1, 1), (97, 2, 2), (150, 0, 0), (150, 1, 1), (183, 0, 0), (183, 1, 1), (192, 0, 0), (192, 1, 1), (192, 2, 2), (195, 0, 0), (195, 1, 1), (195, 2, 2), (198, 0, 0), (198, 1, 1), (198, 2, 2)], [23, 24, 38, 43, 46, 51, 61, 74, 92, 121, 122, 181, 189, 190]⟩
theorem tzOk : TabOk Tryz.prog tz := ⟨by kernel_rfl, by kernel_rfl⟩
theorem tr (k : Nat) {n : Nat} {c : Code} {env : Env} {m : Mp} {L : List Ent} {Q Q0 : Post} {fs : List Fm} {g' : Go1} {fs' : List Fm} {env' : Env} [r : Reif Tryz.prog n Q fs Q0] (hk : Holds Tryz.prog n g' fs' env' m L Q0) (h : runG tz n k (.code c) fs env = (g', fs', env') := by exact rfl) : TS Tryz.prog n c env m L Q := runTS tzOk k h hk
theorem vr (k : Nat) {n : Nat} {l0 l : List Oper} {env : Env} {m : Mp} {L : List Ent} {Q Q0 : Post} {fs : List Fm} {g' : Go1} {fs' : List Fm} {env' : Env} [r : Reif Tryz.prog n Q fs Q0] (hk : Holds Tryz.prog n g' fs' env' m L Q0) (h : runG tz n k (.ops l0 l) fs env = (g', fs', env') := by exact rfl) : VS Tryz.prog n l0 l env m L Q := runVS tzOk k h hk
theorem lr (k : Nat) {v : Value} {n d : Nat} {o : Oper} {l0 l : List Oper} {env : Env} {m : Mp} {L : List Ent} {Q Q0 : Post} {fs : List Fm} {g' : Go1} {fs' : List Fm} {env' : Env} [r : Reif Tryz.prog n Q fs Q0] (hr : ∀ h, HS m L h → ReadV Tryz.prog n o env h v) (hk : Holds Tryz.prog n g' fs' env' m L Q0) (hd : o.dst = some d := by exact rfl) (hn : Nat.blt d n = true := by exact rfl) (hw : wanted l0 env o = some true := by exact rfl) (h : runG tz n k (.ops l0 l) fs ((d, v) :: env) = (g', fs', env') := by exact rfl) : VS Tryz.prog n l0 (o :: l) env m L Q := readVS tzOk k hr hk hd hn hw h
theorem pe (k : Nat) {v : Value} {n d : Nat} {o : Oper} {l0 l : List Oper} {env : Env} {m : Mp} {L : List Ent} {Q Q0 : Post} {fs : List Fm} {g' : Go1} {fs' : List Fm} {env' : Env} [r : Reif Tryz.prog n Q fs Q0] (hr : PureV Tryz.prog n o env v) (hk : Holds Tryz.prog n g' fs' env' m L Q0) (hd : o.dst = some d := by exact rfl) (hn : Nat.blt d n = true := by exact rfl) (hw : wanted l0 env o = some true := by exact rfl) (h : runG tz n k (.ops l0 l) fs ((d, v) :: env) = (g', fs', env') := by exact rfl) : VS Tryz.prog n l0 (o :: l) env m L Q := pureVS tzOk k hr hk hd hn hw h
theorem ct (k : Nat) {p : Prop} {n d : Nat} {o : Oper} {l0 l : List Oper} {env : Env} {m : Mp} {L : List Ent} {Q Q0 : Post} {fs : List Fm} {g' : Go1} {fs' : List Fm} {env' : Env} [r : Reif Tryz.prog n Q fs Q0] (hc : cmpO env o.op = some p) (hp : p) (hk : Holds Tryz.prog n g' fs' env' m L Q0) (hd : o.dst = some d := by exact rfl) (hn : Nat.blt d n = true := by exact rfl) (hw : wanted l0 env o = some true := by exact rfl) (h : runG tz n k (.ops l0 l) fs ((d, .bool true) :: env) = (g', fs', env') := by exact rfl) : VS Tryz.prog n l0 (o :: l) env m L Q := pureVS tzOk k ((xX hc).1 hp) hk hd hn hw h
theorem cf (k : Nat) {p : Prop} {n d : Nat} {o : Oper} {l0 l : List Oper} {env : Env} {m : Mp} {L : List Ent} {Q Q0 : Post} {fs : List Fm} {g' : Go1} {fs' : List Fm} {env' : Env} [r : Reif Tryz.prog n Q fs Q0] (hc : cmpO env o.op = some p) (hp : ¬ p) (hk : Holds Tryz.prog n g' fs' env' m L Q0) (hd : o.dst = some d := by exact rfl) (hn : Nat.blt d n = true := by exact rfl) (hw : wanted l0 env o = some true := by exact rfl) (h : runG tz n k (.ops l0 l) fs ((d, .bool false) :: env) = (g', fs', env') := by exact rfl) : VS Tryz.prog n l0 (o :: l) env m L Q := pureVS tzOk k ((xX hc).2 hp) hk hd hn hw h
section
variable {n d b i q : Nat} {v : Value} {l0 l : List Oper} {env : Env} {m : Mp} {L r L' : List Ent} {Q Q0 : Post} {fs : List Fm} {g' : Go1} {fs' : List Fm} {env' : Env} {ty t yt e : TypeId} {pos : String} {aft : Array Edge} {gd : Option (Nat × Bool)} {x y : Operand} {a : Addr} {vl vl' vs : List Value}
theorem Lo (k : Nat) [Reif Tryz.prog n Q fs Q0] (ht : single Tryz.prog t = true) (hx : ev env x = some (.pointer (some a))) (hc : mc m a = some v) (hk : Holds Tryz.prog n g' fs' env' m L Q0) (hn : Nat.blt d n = true := by exact rfl) (hw : wanted l0 env ⟨some d, .load t x, ty, pos, aft, gd⟩ = some true := by exact rfl) (h : runG tz n k (.ops l0 l) fs ((d, v) :: env) = (g', fs', env') := by exact rfl) : VS Tryz.prog n l0 (⟨some d, .load t x, ty, pos, aft, gd⟩ :: l) env m L Q := lr k (zF ht hx hc) hk rfl hn hw h
theorem Lb (k : Nat) [Reif Tryz.prog n Q fs Q0] (ht : single Tryz.prog t = true) (hT : Tk L (cel b vl e) r) (hk : Holds Tryz.prog n g' fs' env' m L Q0) (hx : ev env x = some (.pointer (some ⟨b, i, none⟩)) := by exact rfl) (hv : vnth vl i = some v := by exact rfl) (hn : Nat.blt d n = true := by exact rfl) (hw : wanted l0 env ⟨some d, .load t x, ty, pos, aft, gd⟩ = some true := by exact rfl) (h : runG tz n k (.ops l0 l) fs ((d, v) :: env) = (g', fs', env') := by exact rfl) : VS Tryz.prog n l0 (⟨some d, .load t x, ty, pos, aft, gd⟩ :: l) env m L Q := lr k (zZ ht hx hT hv) hk rfl hn hw h
theorem Lc (k : Nat) [Reif Tryz.prog n Q fs Q0] (ht : aggSize Tryz.prog t = some q) (hT : Tk L (cel b vl e) r) (hk : Holds Tryz.prog n g' fs' env' m L Q0) (hx : ev env x = some (.pointer (some ⟨b, 0, none⟩)) := by exact rfl) (hl : vl.length = q := by exact rfl) (hn : Nat.blt d n = true := by exact rfl) (hw : wanted l0 env ⟨some d, .load t x, ty, pos, aft, gd⟩ = some true := by exact rfl) (h : runG tz n k (.ops l0 l) fs ((d, .agg vl.toArray) :: env) = (g', fs', env') := by exact rfl) : VS Tryz.prog n l0 (⟨some d, .load t x, ty, pos, aft, gd⟩ :: l) env m L Q := lr k (ye ht hx hT hl) hk rfl hn hw h
theorem La (k : Nat) [Reif Tryz.prog n Q fs Q0] (ht : aggSize Tryz.prog t = some q) (hc : At m a vl) (hk : Holds Tryz.prog n g' fs' env' m L Q0) (hx : ev env x = some (.pointer (some a)) := by exact rfl) (hl : vl.length = q := by exact rfl) (hn : Nat.blt d n = true := by exact rfl) (hw : wanted l0 env ⟨some d, .load t x, ty, pos, aft, gd⟩ = some true := by exact rfl) (h : runG tz n k (.ops l0 l) fs ((d, .agg vl.toArray) :: env) = (g', fs', env') := by exact rfl) : VS Tryz.prog n l0 (⟨some d, .load t x, ty, pos, aft, gd⟩ :: l) env m L Q := lr k (zJ ht hx hl hc) hk rfl hn hw h
theorem Pa (k : Nat) {a1 b1 : Int} [Reif Tryz.prog n Q fs Q0] (hk : Holds Tryz.prog n g' fs' env' m L Q0) (hx : ev env x = some (.int .i64 a1) := by exact rfl) (hy : ev env y = some (.int .i64 b1) := by exact rfl) (h1 : -9223372036854775808 ≤ a1 + b1 := by omega) (h2 : a1 + b1 ≤ 9223372036854775807 := by omega) (hn : Nat.blt d n = true := by exact rfl) (hw : wanted l0 env ⟨some d, .binOp .add t x y yt, ty, pos, aft, gd⟩ = some true := by exact rfl) (h : runG tz n k (.ops l0 l) fs ((d, .int .i64 (a1 + b1)) :: env) = (g', fs', env') := by exact rfl) : VS Tryz.prog n l0 (⟨some d, .binOp .add t x y yt, ty, pos, aft, gd⟩ :: l) env m L Q := pe k (vS hx hy (w64 h1 h2)) hk rfl hn hw h
theorem Ps (k : Nat) {s u : List UInt8} [Reif Tryz.prog n Q fs Q0] (hk : Holds Tryz.prog n g' fs' env' m L Q0) (hx : ev env x = some (.string (bs s)) := by exact rfl) (hy : ev env y = some (.string (bs u)) := by exact rfl) (h1 : s.length + u.length ≤ 9223372036854775807 := by (simp <;> omega)) (hn : Nat.blt d n = true := by exact rfl) (hw : wanted l0 env ⟨some d, .binOp .add t x y yt, ty, pos, aft, gd⟩ = some true := by exact rfl) (h : runG tz n k (.ops l0 l) fs ((d, .string (bs (s ++ u))) :: env) = (g', fs', env') := by exact rfl) : VS Tryz.prog n l0 (⟨some d, .binOp .add t x y yt, ty, pos, aft, gd⟩ :: l) env m L Q := pe k (WV hx hy h1) hk rfl hn hw h
theorem Sg (k : Nat) [Reif Tryz.prog n Q fs Q0] (ht : aggSize Tryz.prog t = some q) (hT : Sel L (cel b vl e) (cel b vs e) L') (hk : Holds Tryz.prog n g' fs' env' m L' Q0) (hx : ev env x = some (.pointer (some ⟨b, 0, none⟩)) := by exact rfl) (hy : ev env y = some (.agg vs.toArray) := by exact rfl) (hq : Nat.beq vs.length q = true := by exact rfl) (hl : Nat.beq vl.length q = true := by exact rfl) (h1 : vs.all oneV = true := by exact rfl) (hw : wanted l0 env ⟨none, .store t x y, ty, pos, aft, gd⟩ = some true := by exact rfl) (h : runG tz n k (.ops l0 l) fs env = (g', fs', env') := by exact rfl) : VS Tryz.prog n l0 (⟨none, .store t x y, ty, pos, aft, gd⟩ :: l) env m L Q := zE (zS ht hx hy hq hT hl h1 (runVS tzOk k h hk)) hw
theorem Sr (k : Nat) [Reif Tryz.prog n Q fs Q0] (ht : cells1 Tryz.prog t = true) (hT : Sel L (cel b vl e) (cel b vl' e) L') (hu : USet vl i v vl') (hk : Holds Tryz.prog n g' fs' env' m L' Q0) (hx : ev env x = some (.pointer (some ⟨b, i, none⟩)) := by exact rfl) (hy : ev env y = some v := by exact rfl) (hv : oneV v = true := by exact rfl) (hw : wanted l0 env ⟨none, .store t x y, ty, pos, aft, gd⟩ = some true := by exact rfl) (h : runG tz n k (.ops l0 l) fs env = (g', fs', env') := by exact rfl) : VS Tryz.prog n l0 (⟨none, .store t x y, ty, pos, aft, gd⟩ :: l) env m L Q := zE (yB ht hx hy hv hT hu (runVS tzOk k h hk)) hw
theorem Al (k : Nat) {z : List Value} {g' : Nat → Go1} {fs' : Nat → List Fm} {env' : Nat → Env} [Reif Tryz.prog n Q fs Q0] (hz : zeroL Tryz.prog t = some z) (hk : ∀ b, Holds Tryz.prog n (g' b) (fs' b) (env' b) m (cel b z t :: L) Q0) (hn : Nat.blt d n = true := by exact rfl) (hw : wanted l0 env ⟨some d, .alloc t, ty, pos, aft, gd⟩ = some true := by exact rfl) (h : ∀ b, runG tz n k (.ops l0 l) fs ((d, .pointer (some ⟨b, 0, none⟩)) :: env) = (g' b, fs' b, env' b) := by exact fun _ => rfl) : VS Tryz.prog n l0 (⟨some d, .alloc t, ty, pos, aft, gd⟩ :: l) env m L Q := zE (yH hz hn fun b => runVS tzOk k (h b) (hk b)) hw
theorem Bx (k : Nat) {g' : Nat → Go1} {fs' : Nat → List Fm} {env' : Nat → Env} [Reif Tryz.prog n Q fs Q0] (hx : ev env x = some v) (hk : ∀ b, Holds Tryz.prog n (g' b) (fs' b) (env' b) m (cel b v.cells.toList t :: L) Q0) (hn : Nat.blt d n = true := by exact rfl) (hw : wanted l0 env ⟨some d, .box t x, ty, pos, aft, gd⟩ = some true := by exact rfl) (h : ∀ b, runG tz n k (.ops l0 l) fs ((d, .pointer (some ⟨b, 0, none⟩)) :: env) = (g' b, fs' b, env' b) := by exact fun _ => rfl) : VS Tryz.prog n l0 (⟨some d, .box t x, ty, pos, aft, gd⟩ :: l) env m L Q := zE (S_box hx hn fun b => runVS tzOk k (h b) (hk b)) hw
theorem Bs (k : Nat) {len sz by_ : Nat} {z cs : List Value} {parts : List (Nat × Operand)} {ps : List (Nat × Value)} {g' : Nat → Go1} {fs' : Nat → List Fm} {env' : Nat → Env} [Reif Tryz.prog n Q fs Q0] (hs : slInfo Tryz.prog t = some (e, sz, by_, z)) (hk : ∀ b, Holds Tryz.prog n (g' b) (fs' b) (env' b) m (cel b cs e :: L) Q0) (hx : evp env parts = some ps := by exact rfl) (hsmall : Nat.ble (len * sz) 16777216 = true := by exact rfl) (hf : fillS sz (rowZ (if len * sz = 0 then [] else z) (len * sz)) ps = some cs := by exact rfl) (hn : Nat.blt d n = true := by exact rfl) (hw : wanted l0 env ⟨some d, .buildSlice t len parts.toArray, ty, pos, aft, gd⟩ = some true := by exact rfl) (h : ∀ b, runG tz n k (.ops l0 l) fs ((d, .slice (some ⟨b, 0, none⟩) len len) :: env) = (g' b, fs' b, env' b) := by exact fun _ => rfl) : VS Tryz.prog n l0 (⟨some d, .buildSlice t len parts.toArray, ty, pos, aft, gd⟩ :: l) env m L Q := zE (zQ hs hx hsmall hf hn fun b => runVS tzOk k (h b) (hk b)) hw
variable {f : FuncId} {args : List Operand} {ats : Array TypeId} {pre : List Ent} {post ppost : Value → List Ent → Prop} {ee : Ent} {R : Value → Prop}
theorem Cp (hcl : callable Tryz.prog f = true) (hx : evs env args = some vs) (hT : Tks L pre r) (hc : ∀ m', Le m m' → HE r m' → CSP Tryz.prog f vs m' pre post ppost) (hp : ∀ v L', ppost v L' → QS Q (.panic (pan v)) env m (L' ++ r)) (hk : ∀ v L', post v L' → VS Tryz.prog n l0 l ((d, v) :: env) m (L' ++ r) Q) (hn : Nat.blt d n = true := by exact rfl) (hw : wanted l0 env ⟨some d, .call ⟨.value (.func f), args.toArray, ats⟩, ty, pos, aft, gd⟩ = some true := by exact rfl) : VS Tryz.prog n l0 (⟨some d, .call ⟨.value (.func f), args.toArray, ats⟩, ty, pos, aft, gd⟩ :: l) env m L Q := zE (zR hcl hx hT hc hn hp hk) hw
theorem Cn (hcl : callable Tryz.prog f = true) (hx : evs env args = some vs) (hc : ∀ {m'}, CSP Tryz.prog f vs m' [] post ppost) (hp : ∀ v L', ppost v L' → QS Q (.panic (pan v)) env m (L' ++ L)) (hk : ∀ v L', post v L' → VS Tryz.prog n l0 l ((d, v) :: env) m (L' ++ L) Q) (hn : Nat.blt d n = true := by exact rfl) (hw : wanted l0 env ⟨some d, .call ⟨.value (.func f), args.toArray, ats⟩, ty, pos, aft, gd⟩ = some true := by exact rfl) : VS Tryz.prog n l0 (⟨some d, .call ⟨.value (.func f), args.toArray, ats⟩, ty, pos, aft, gd⟩ :: l) env m L Q := zE (zR hcl hx .nil (fun _ _ _ => hc) hn hp hk) hw
theorem C1 (hcl : callable Tryz.prog f = true) (hx : evs env args = some vs) (hT : Tk L ee r) (hc : ∀ m', Le m m' → HE r m' → CS Tryz.prog f vs m' [ee] post) (hk : ∀ v L', post v L' → VS Tryz.prog n l0 l ((d, v) :: env) m (L' ++ r) Q) (hn : Nat.blt d n = true := by exact rfl) (hw : wanted l0 env ⟨some d, .call ⟨.value (.func f), args.toArray, ats⟩, ty, pos, aft, gd⟩ = some true := by exact rfl) : VS Tryz.prog n l0 (⟨some d, .call ⟨.value (.func f), args.toArray, ats⟩, ty, pos, aft, gd⟩ :: l) env m L Q := zE (S_call1 hcl hx hT hc hn hk) hw
theorem Cr (hcl : callable Tryz.prog f = true) (hx : evs env args = some vs) (hc : ∀ m', Le m m' → HE L m' → CS Tryz.prog f vs m' [] fun v L' => R v ∧ L' = []) (hk : ∀ v, R v → VS Tryz.prog n l0 l ((d, v) :: env) m L Q) (hn : Nat.blt d n = true := by exact rfl) (hw : wanted l0 env ⟨some d, .call ⟨.value (.func f), args.toArray, ats⟩, ty, pos, aft, gd⟩ = some true := by exact rfl) : VS Tryz.prog n l0 (⟨some d, .call ⟨.value (.func f), args.toArray, ats⟩, ty, pos, aft, gd⟩ :: l) env m L Q := zE (zl hcl hx hc hn hk) hw
variable {o : Oper} {tB tB' : OB} {tT tT' : OT} {wild : Nat → Bool}
theorem vB (k : Nat) (hk : VBS Tryz.prog n l tB' env' m L Q) (h : runOB tz n l k tB env = (tB', env') := by exact rfl) : VBS Tryz.prog n l tB env m L Q := wg tzOk k h hk
theorem Vb (k : Nat) (ho : nth l i = some o) (hr : PureV Tryz.prog n o env v) (hk : VBS Tryz.prog n l tB' env' m L Q) (hd : o.dst = some d := by exact rfl) (hn : Nat.blt d n = true := by exact rfl) (hw : wanted l env o = some true := by exact rfl) (h : runOB tz n l k tB ((d, v) :: env) = (tB', env') := by exact rfl) : VBS Tryz.prog n l (.step i true tB) env m L Q := XS ho hr hd hn hw (wg tzOk k h hk)
theorem Vr (k : Nat) (ho : nth l i = some o) (hr : ∀ h, HS m [] h → ReadV Tryz.prog n o env h v) (hk : VBS Tryz.prog n l tB' env' m L Q) (hd : o.dst = some d := by exact rfl) (hn : Nat.blt d n = true := by exact rfl) (hw : wanted l env o = some true := by exact rfl) (h : runOB tz n l k tB ((d, v) :: env) = (tB', env') := by exact rfl) : VBS Tryz.prog n l (.step i true tB) env m L Q := Qs ho hr hd hn hw (wg tzOk k h hk)
theorem Ve (k : Nat) (ho : nth l i = some o) (hr : ∀ h, HS m L h → ReadV Tryz.prog n o env h v) (hk : VBS Tryz.prog n l tB' env' m L Q) (hd : o.dst = some d := by exact rfl) (hn : Nat.blt d n = true := by exact rfl) (hw : wanted l env o = some true := by exact rfl) (h : runOB tz n l k tB ((d, v) :: env) = (tB', env') := by exact rfl) : VBS Tryz.prog n l (.step i false tB) env m L Q := V4 ho hr hd hn hw (wg tzOk k h hk)
theorem vt (k : Nat) (hk : VTS Tryz.prog n l wild tT' env' m L Q) (h : runOT tz n l k tT env = (tT', env') := by exact rfl) : VTS Tryz.prog n l wild tT env m L Q := vw tzOk k h hk
theorem Vt (k : Nat) (ho : nth l i = some o) (hr : PureV Tryz.prog n o env v) (hk : VTS Tryz.prog n l wild tT' env' m L Q) (hd : o.dst = some d := by exact rfl) (hn : Nat.blt d n = true := by exact rfl) (hw : wanted l env o = some true := by exact rfl) (h : runOT tz n l k tT ((d, v) :: env) = (tT', env') := by exact rfl) : VTS Tryz.prog n l wild (.step i .pure tT) env m L Q := XR ho hr hd hn hw (vw tzOk k h hk)
theorem Vu (k : Nat) (ho : nth l i = some o) (hr : ∀ h, HS m L h → ReadV Tryz.prog n o env h v) (hk : VTS Tryz.prog n l wild tT' env' m L Q) (hd : o.dst = some d := by exact rfl) (hn : Nat.blt d n = true := by exact rfl) (hw : wanted l env o = some true := by exact rfl) (h : runOT tz n l k tT ((d, v) :: env) = (tT', env') := by exact rfl) : VTS Tryz.prog n l wild (.step i .read tT) env m L Q := Qp ho hr hd hn hw (vw tzOk k h hk)
theorem Vn (k : Nat) [Reif Tryz.prog n Q fs Q0] (hk : Holds Tryz.prog n g' fs' env' m L Q0) (h : runG tz n k (.exit .normal) fs env = (g', fs', env') := by exact rfl) : VBS Tryz.prog n l .done env m L Q := VBS_nil (runQS tzOk k h hk)
theorem Vm (k : Nat) [Reif Tryz.prog n Q fs Q0] (hk : Holds Tryz.prog n g' fs' env' m L Q0) (h : runG tz n k (.exit .normal) fs env = (g', fs', env') := by exact rfl) : VTS Tryz.prog n l wild .done env m L Q := VTS_nil (runQS tzOk k h hk)
theorem qt (k : Nat) {c : Code} {ex : Exit} [Reif Tryz.prog n Q fs Q0] (hk : Holds Tryz.prog n g' fs' env' m L Q0) (h : runG tz n k (.exit ex) (.thn c :: fs) env = (g', fs', env') := by exact rfl) : QS (thenQ Tryz.prog n c Q) ex env m L := runQS (Q := thenQ Tryz.prog n c Q) tzOk k h hk
theorem Db {id : Nat} (t : OB) (hv : VBS Tryz.prog n l t env m L Q) (hQ : ∀ c env env' h, Q (.panic c) env h → Q (.panic c) env' h := by exact fun _ _ _ _ hq => hq) (hck : checkB l t = true := by kernel_rfl) : TS Tryz.prog n (.region id l.toArray true) env m L Q := Qz t mixed hck hQ hv
theorem cto (k : Nat) {p : Prop} {n d : Nat} {o : Oper} {l0 l : List Oper} {env : Env} {m : Mp} {L : List Ent} {Q Q0 : Post} {fs : List Fm} {g' : Go1} {fs' : List Fm} {env' : Env} [r : Reif Tryz.prog n Q fs Q0] (hk : Holds Tryz.prog n g' fs' env' m L Q0) (hc : cmpO env o.op = some p := by exact rfl) (hp : p := by omega) (hd : o.dst = some d := by exact rfl) (hn : Nat.blt d n = true := by exact rfl) (hw : wanted l0 env o = some true := by exact rfl) (h : runG tz n k (.ops l0 l) fs ((d, .bool true) :: env) = (g', fs', env') := by exact rfl) : VS Tryz.prog n l0 (o :: l) env m L Q := pureVS tzOk k ((xX hc).1 hp) hk hd hn hw h
theorem cta (k : Nat) {p : Prop} {n d : Nat} {o : Oper} {l0 l : List Oper} {env : Env} {m : Mp} {L : List Ent} {Q Q0 : Post} {fs : List Fm} {g' : Go1} {fs' : List Fm} {env' : Env} [r : Reif Tryz.prog n Q fs Q0] (hk : Holds Tryz.prog n g' fs' env' m L Q0) (hc : cmpO env o.op = some p := by exact rfl) (hp : p := by assumption) (hd : o.dst = some d := by exact rfl) (hn : Nat.blt d n = true := by exact rfl) (hw : wanted l0 env o = some true := by exact rfl) (h : runG tz n k (.ops l0 l) fs ((d, .bool true) :: env) = (g', fs', env') := by exact rfl) : VS Tryz.prog n l0 (o :: l) env m L Q := pureVS tzOk k ((xX hc).1 hp) hk hd hn hw h
theorem ctr (k : Nat) {p : Prop} {n d : Nat} {o : Oper} {l0 l : List Oper} {env : Env} {m : Mp} {L : List Ent} {Q Q0 : Post} {fs : List Fm} {g' : Go1} {fs' : List Fm} {env' : Env} [r : Reif Tryz.prog n Q fs Q0] (hk : Holds Tryz.prog n g' fs' env' m L Q0) (hc : cmpO env o.op = some p := by exact rfl) (hp : p := by exact rfl) (hd : o.dst = some d := by exact rfl) (hn : Nat.blt d n = true := by exact rfl) (hw : wanted l0 env o = some true := by exact rfl) (h : runG tz n k (.ops l0 l) fs ((d, .bool true) :: env) = (g', fs', env') := by exact rfl) : VS Tryz.prog n l0 (o :: l) env m L Q := pureVS tzOk k ((xX hc).1 hp) hk hd hn hw h
theorem cfo (k : Nat) {p : Prop} {n d : Nat} {o : Oper} {l0 l : List Oper} {env : Env} {m : Mp} {L : List Ent} {Q Q0 : Post} {fs : List Fm} {g' : Go1} {fs' : List Fm} {env' : Env} [r : Reif Tryz.prog n Q fs Q0] (hk : Holds Tryz.prog n g' fs' env' m L Q0) (hc : cmpO env o.op = some p := by exact rfl) (hp : ¬ p := by omega) (hd : o.dst = some d := by exact rfl) (hn : Nat.blt d n = true := by exact rfl) (hw : wanted l0 env o = some true := by exact rfl) (h : runG tz n k (.ops l0 l) fs ((d, .bool false) :: env) = (g', fs', env') := by exact rfl) : VS Tryz.prog n l0 (o :: l) env m L Q := pureVS tzOk k ((xX hc).2 hp) hk hd hn hw h
theorem cfa (k : Nat) {p : Prop} {n d : Nat} {o : Oper} {l0 l : List Oper} {env : Env} {m : Mp} {L : List Ent} {Q Q0 : Post} {fs : List Fm} {g' : Go1} {fs' : List Fm} {env' : Env} [r : Reif Tryz.prog n Q fs Q0] (hk : Holds Tryz.prog n g' fs' env' m L Q0) (hc : cmpO env o.op = some p := by exact rfl) (hp : ¬ p := by assumption) (hd : o.dst = some d := by exact rfl) (hn : Nat.blt d n = true := by exact rfl) (hw : wanted l0 env o = some true := by exact rfl) (h : runG tz n k (.ops l0 l) fs ((d, .bool false) :: env) = (g', fs', env') := by exact rfl) : VS Tryz.prog n l0 (o :: l) env m L Q := pureVS tzOk k ((xX hc).2 hp) hk hd hn hw h
theorem Vs (k : Nat) {s u : List UInt8} (ho : nth l i = some ⟨some d, .binOp .add t x y yt, ty, pos, aft, gd⟩) (hk : VBS Tryz.prog n l tB' env' m L Q) (hx : ev env x = some (.string (bs s)) := by exact rfl) (hy : ev env y = some (.string (bs u)) := by exact rfl) (h1 : s.length + u.length ≤ 9223372036854775807 := by (simp <;> omega)) (hn : Nat.blt d n = true := by exact rfl) (hw : wanted l env ⟨some d, .binOp .add t x y yt, ty, pos, aft, gd⟩ = some true := by exact rfl) (h : runOB tz n l k tB ((d, .string (bs (s ++ u))) :: env) = (tB', env') := by exact rfl) : VBS Tryz.prog n l (.step i true tB) env m L Q := Vb k ho (WV hx hy h1) hk rfl hn hw h
theorem Vl (k : Nat) (ho : nth l i = some ⟨some d, .load t x, ty, pos, aft, gd⟩) (ht : single Tryz.prog t = true) (hT : Tk L (cel b vl e) r) (hk : VTS Tryz.prog n l wild tT' env' m L Q) (hx : ev env x = some (.pointer (some ⟨b, q, none⟩)) := by exact rfl) (hv : vnth vl q = some v := by exact rfl) (hn : Nat.blt d n = true := by exact rfl) (hw : wanted l env ⟨some d, .load t x, ty, pos, aft, gd⟩ = some true := by exact rfl) (h : runOT tz n l k tT ((d, v) :: env) = (tT', env') := by exact rfl) : VTS Tryz.prog n l wild (.step i .read tT) env m L Q := Vu k ho (zZ ht hx hT hv) hk rfl hn hw h
end
end
namespace Wd
open Go Go.Eng
def cont (s : List UInt8) (i : Nat) : Bool := decide (i < s.length) && by_ s i / 64 == 2
def rn (s : List UInt8) (p : Nat) : Option (Nat × Nat) :=
 if by_ s p < 128 then some (by_ s p, 1)
 else if by_ s p / 32 == 6 && cont s (p + 1) then
  if by_ s p % 32 * 64 + by_ s (p + 1) % 64 ≥ 128 then some (by_ s p % 32 * 64 + by_ s (p + 1) % 64, 2) else none
 else if by_ s p / 16 == 14 && cont s (p + 1) && cont s (p + 2) then
  if by_ s p % 16 * 4096 + by_ s (p + 1) % 64 * 64 + by_ s (p + 2) % 64 ≥ 2048 && Utf8.valid (by_ s p % 16 * 4096 + by_ s (p + 1) % 64 * 64 + by_ s (p + 2) % 64 : Nat) then
   some (by_ s p % 16 * 4096 + by_ s (p + 1) % 64 * 64 + by_ s (p + 2) % 64, 3) else none
 else if by_ s p / 8 == 30 && cont s (p + 1) && cont s (p + 2) && cont s (p + 3) then
  if by_ s p % 8 * 262144 + by_ s (p + 1) % 64 * 4096 + by_ s (p + 2) % 64 * 64 + by_ s (p + 3) % 64 ≥ 65536 && Utf8.valid (by_ s p % 8 * 262144 + by_ s (p + 1) % 64 * 4096 + by_ s (p + 2) % 64 * 64 + by_ s (p + 3) % 64 : Nat) then
   some (by_ s p % 8 * 262144 + by_ s (p + 1) % 64 * 4096 + by_ s (p + 2) % 64 * 64 + by_ s (p + 3) % 64, 4) else none
 else none
def dec (s : List UInt8) (p : Nat) : Nat × Nat := (rn s p).getD (65533, 1)
theorem get_bs (s : List UInt8) (i : Nat) : ((bs s).get! i).toNat = by_ s i := by
 unfold by_
 have : (bs s).get! i = s.getD i 0 := by
  show (bs s).data[i]! = _;simp only [bs];rw [List.getD_eq_getElem?_getD, getElem!_def]
  simp
  cases s[i]? <;> rfl
 rw [this]
theorem Vk (c0 c1 c2 c3 d1 d2 d3 : Prop) [Decidable c0] [Decidable c1] [Decidable c2] [Decidable c3] [Decidable d1] [Decidable d2] [Decidable d3] (v0 v1 v2 v3 e : Nat × Nat) :
  (if c0 then v0 else if c1 then (if d1 then v1 else e) else if c2 then (if d2 then v2 else e) else if c3 then (if d3 then v3 else e) else e) =
  (if c0 then some v0 else if c1 then (if d1 then some v1 else none) else if c2 then (if d2 then some v2 else none) else if c3 then (if d3 then some v3 else none) else none).getD e := by
 by_cases h0 : c0 <;> by_cases h1 : c1 <;> by_cases h2 : c2 <;> by_cases h3 : c3 <;> by_cases k1 : d1 <;> by_cases k2 : d2 <;> by_cases k3 : d3 <;> simp [*]
theorem vL (s : List UInt8) (p : Nat) : Utf8.decode (bs s) p = dec s p := by
 have h0 : (bs s).size = s.length := xR s;have h1 : ∀ k, ((bs s).get! (p + k)).toNat = by_ s (p + k) := fun k => get_bs s _;unfold Utf8.decode dec rn cont;rw [h0, show (fun k => ((bs s).get! (p + k)).toNat) = fun k => by_ s (p + k) from funext h1];exact Vk _ _ _ _ _ _ _ _ _ _ _ _
theorem Ui {c0 c1 c2 c3 d1 d2 d3 : Prop} [Decidable c0] [Decidable c1] [Decidable c2] [Decidable c3] [Decidable d1] [Decidable d2] [Decidable d3] {v0 v1 v2 v3 r : Nat × Nat}
  (h : (if c0 then some v0 else if c1 then (if d1 then some v1 else none) else if c2 then (if d2 then some v2 else none) else if c3 then (if d3 then some v3 else none) else none) = some r) :
  (c0 ∧ v0 = r) ∨ (¬ c0 ∧ c1 ∧ d1 ∧ v1 = r) ∨ (¬ c0 ∧ ¬ c1 ∧ c2 ∧ d2 ∧ v2 = r) ∨ (¬ c0 ∧ ¬ c1 ∧ ¬ c2 ∧ c3 ∧ d3 ∧ v3 = r) := by
 by_cases h0 : c0 <;> by_cases h1 : c1 <;> by_cases h2 : c2 <;> by_cases h3 : c3 <;> by_cases k1 : d1 <;> by_cases k2 : d2 <;> by_cases k3 : d3 <;> simp_all
theorem zz {s : List UInt8} {i : Nat} : cont s i = true ↔ i < s.length ∧ by_ s i / 64 = 2 := by simp [cont]
theorem uR (c : Nat) : Utf8.valid (c : Int) = true ↔ c < 55296 ∨ (57344 ≤ c ∧ c ≤ 1114111) := by simp [Utf8.valid]; omega
inductive RnK (s : List UInt8) (p : Nat) : Nat → Nat → Prop
 | one (h : by_ s p < 128) : RnK s p (by_ s p) 1
 | two (x : Nat) (h : by_ s p / 32 = 6) (l1 : p + 1 < s.length) (k1 : by_ s (p + 1) / 64 = 2) (hx : x = by_ s p % 32 * 64 + by_ s (p + 1) % 64) (h1 : 128 ≤ x) : RnK s p x 2
 | three (x : Nat) (h : by_ s p / 16 = 14) (l1 : p + 2 < s.length) (k1 : by_ s (p + 1) / 64 = 2) (k2 : by_ s (p + 2) / 64 = 2) (hx : x = by_ s p % 16 * 4096 + by_ s (p + 1) % 64 * 64 + by_ s (p + 2) % 64) (h1 : 2048 ≤ x) (hv : x < 55296 ∨ (57344 ≤ x ∧ x ≤ 1114111)) : RnK s p x 3
 | four (x : Nat) (h : by_ s p / 8 = 30) (l1 : p + 3 < s.length) (k1 : by_ s (p + 1) / 64 = 2) (k2 : by_ s (p + 2) / 64 = 2) (k3 : by_ s (p + 3) / 64 = 2)
   (hx : x = by_ s p % 8 * 262144 + by_ s (p + 1) % 64 * 4096 + by_ s (p + 2) % 64 * 64 + by_ s (p + 3) % 64) (h1 : 65536 ≤ x) (hv : x < 55296 ∨ (57344 ≤ x ∧ x ≤ 1114111)) : RnK s p x 4
theorem uW {s : List UInt8} {p x k : Nat} (h : rn s p = some (x, k)) : RnK s p x k := by
 unfold rn at h;rcases Ui h with ⟨h0, e⟩ | ⟨h0, h1, h2, e⟩ | ⟨h0, h1, h2, h3, e⟩ | ⟨h0, h1, h2, h3, h4, e⟩
 ·injection e with e1 e2; subst e1 e2; exact .one h0
 ·obtain ⟨a, b⟩ := Bool.and_eq_true_iff.1 h1;obtain ⟨b1, b2⟩ := zz.1 b
  injection e with e1 e2; subst e2; exact .two x (beq_iff_eq.1 a) b1 b2 e1.symm (e1 ▸ h2)
 ·obtain ⟨a, c⟩ := Bool.and_eq_true_iff.1 h2;obtain ⟨a, b⟩ := Bool.and_eq_true_iff.1 a;obtain ⟨b1, b2⟩ := zz.1 b;obtain ⟨c1, c2⟩ := zz.1 c;obtain ⟨d1, d2⟩ := Bool.and_eq_true_iff.1 h3
  injection e with e1 e2; subst e2; exact .three x (beq_iff_eq.1 a) c1 b2 c2 e1.symm (e1 ▸ of_decide_eq_true d1) (e1 ▸ (uR _).1 d2)
 ·obtain ⟨a, d⟩ := Bool.and_eq_true_iff.1 h3;obtain ⟨a, c⟩ := Bool.and_eq_true_iff.1 a;obtain ⟨a, b⟩ := Bool.and_eq_true_iff.1 a;obtain ⟨b1, b2⟩ := zz.1 b;obtain ⟨c1, c2⟩ := zz.1 c;obtain ⟨d1, d2⟩ := zz.1 d;obtain ⟨f1, f2⟩ := Bool.and_eq_true_iff.1 h4
  injection e with e1 e2; subst e2; exact .four x (beq_iff_eq.1 a) d1 b2 c2 d2 e1.symm (e1 ▸ of_decide_eq_true f1) (e1 ▸ (uR _).1 f2)
theorem yh {s : List UInt8} {p x k : Nat} (h : rn s p = some (x, k)) : 1 ≤ k ∧ k ≤ 4 ∧ x ≤ 1114111 ∧ (k = 1 → x = by_ s p ∧ x < 128) ∧ (2 ≤ k → 128 ≤ x ∧ 192 ≤ by_ s p ∧ p + k ≤ s.length) := by
 have b0 := kf s p;cases uW h <;> omega
theorem uh (s : List UInt8) (p : Nat) : 1 ≤ (dec s p).2 ∧ (dec s p).2 ≤ 4 ∧ (dec s p).1 ≤ 1114111 := by
 unfold dec;cases h : rn s p with
 | none => simp
 | some r =>
   obtain ⟨x, k⟩ := r;have := yh h
   simp
   omega
end Wd
namespace Wd
open Go Go.Eng
theorem xT {s : List UInt8} {p x k : Nat} (h : RnK s p x k) : rn s p = some (x, k) := by
 have hl := kf s p;unfold rn;cases h with
 | one h => rw [if_pos h]
 | two x h l1 k1 hx h1 =>
   rw [if_neg (by omega), if_pos (by rw [Bool.and_eq_true_iff]; exact ⟨beq_iff_eq.2 h, zz.2 ⟨l1, k1⟩⟩), if_pos (by omega), hx]
 | three x h l1 k1 k2 hx h1 hv =>
   rw [if_neg (by omega), if_neg (by rw [Bool.and_eq_true_iff]; rintro ⟨a, _⟩; have := beq_iff_eq.1 a; omega), if_pos (by rw [Bool.and_eq_true_iff, Bool.and_eq_true_iff]; exact ⟨⟨beq_iff_eq.2 h, zz.2 ⟨by omega, k1⟩⟩, zz.2 ⟨l1, k2⟩⟩), if_pos (by rw [Bool.and_eq_true_iff]; exact ⟨decide_eq_true (by omega), (uR _).2 (by omega)⟩), hx]
 | four x h l1 k1 k2 k3 hx h1 hv =>
   rw [if_neg (by omega), if_neg (by rw [Bool.and_eq_true_iff]; rintro ⟨a, _⟩; have := beq_iff_eq.1 a; omega), if_neg (by rw [Bool.and_eq_true_iff, Bool.and_eq_true_iff]; rintro ⟨⟨a, _⟩, _⟩; have := beq_iff_eq.1 a; omega),
    if_pos (by rw [Bool.and_eq_true_iff, Bool.and_eq_true_iff, Bool.and_eq_true_iff]; exact ⟨⟨⟨beq_iff_eq.2 h, zz.2 ⟨by omega, k1⟩⟩, zz.2 ⟨by omega, k2⟩⟩, zz.2 ⟨l1, k3⟩⟩), if_pos (by rw [Bool.and_eq_true_iff]; exact ⟨decide_eq_true (by omega), (uR _).2 (by omega)⟩), hx]
theorem jk {s : List UInt8} {p : Nat} (h : ∀ x k, ¬ RnK s p x k) : rn s p = none := by
 cases hr : rn s p with
 | none => rfl
 | some r => exact absurd (uW (x := r.1) (k := r.2) hr) (h _ _)
theorem yM (s : List UInt8) (a i : Nat) : by_ (s.drop a) i = by_ s (a + i) := by
 unfold by_
 simp [List.getD_eq_getElem?_getD, List.getElem?_drop]
theorem ZF {s : List UInt8} {a p x k : Nat} : RnK (s.drop a) p x k ↔ RnK s (a + p) x k := by
 constructor
 ·intro h;cases h with
  | one h => rw [yM] at h ⊢; exact .one h
  | two x h l1 k1 hx h1 => simp only [yM, List.length_drop] at *; exact .two x h (by omega) k1 hx h1
  | three x h l1 k1 k2 hx h1 hv => simp only [yM, List.length_drop] at *; exact .three x h (by omega) k1 k2 hx h1 hv
  | four x h l1 k1 k2 k3 hx h1 hv => simp only [yM, List.length_drop] at *; exact .four x h (by omega) k1 k2 k3 hx h1 hv
 ·intro h;cases h with
  | one h => rw [← yM] at h ⊢; exact .one h
  | two x h l1 k1 hx h1 => exact .two x (by rw [yM]; exact h) (by rw [List.length_drop]; omega) (by rw [yM]; exact k1) (by rw [yM, yM]; exact hx) h1
  | three x h l1 k1 k2 hx h1 hv => exact .three x (by rw [yM]; exact h) (by rw [List.length_drop]; omega) (by rw [yM]; exact k1) (by rw [yM]; exact k2) (by rw [yM, yM, yM]; exact hx) h1 hv
  | four x h l1 k1 k2 k3 hx h1 hv => exact .four x (by rw [yM]; exact h) (by rw [List.length_drop]; omega) (by rw [yM]; exact k1) (by rw [yM]; exact k2) (by rw [yM]; exact k3) (by rw [yM, yM, yM, yM]; exact hx) h1 hv
theorem qQ (s : List UInt8) (a p : Nat) : rn (s.drop a) p = rn s (a + p) := by
 cases h : rn s (a + p) with
 | some r => exact xT (ZF.2 (uW (x := r.1) (k := r.2) h))
 | none => exact jk fun x k hk => by rw [xT (ZF.1 hk)] at h; cases h
theorem yY {s : List UInt8} {e i : Nat} (h : i < e) : by_ (s.take e) i = by_ s i := by
 unfold by_
 simp [List.getD_eq_getElem?_getD, h]
theorem rn_take {s : List UInt8} {e p x k : Nat} (h : rn s p = some (x, k)) (he : p + k ≤ e) : rn (s.take e) p = some (x, k) := by
 refine xT ?_;cases uW h with
 | one hb => rw [← yY (e := e) (by omega)] at hb ⊢; exact .one hb
 | two x hb l1 k1 hx h1 => exact .two x (by rw [yY (by omega)]; exact hb) (by rw [List.length_take]; omega) (by rw [yY (by omega)]; exact k1) (by rw [yY (by omega), yY (by omega)]; exact hx) h1
 | three x hb l1 k1 k2 hx h1 hv => exact .three x (by rw [yY (by omega)]; exact hb) (by rw [List.length_take]; omega) (by rw [yY (by omega)]; exact k1) (by rw [yY (by omega)]; exact k2) (by rw [yY (by omega), yY (by omega), yY (by omega)]; exact hx) h1 hv
 | four x hb l1 k1 k2 k3 hx h1 hv => exact .four x (by rw [yY (by omega)]; exact hb) (by rw [List.length_take]; omega) (by rw [yY (by omega)]; exact k1) (by rw [yY (by omega)]; exact k2) (by rw [yY (by omega)]; exact k3) (by rw [yY (by omega), yY (by omega), yY (by omega), yY (by omega)]; exact hx) h1 hv
def letterP (x : Nat) : Bool := decide (97 ≤ x ∧ x ≤ 122 ∨ 65 ≤ x ∧ x ≤ 90 ∨ 192 ≤ x ∧ x ≤ 591 ∧ x ≠ 215 ∧ x ≠ 247)
def digitP (x : Nat) : Bool := decide (48 ≤ x ∧ x ≤ 57)
def stopP (x : Nat) (first : Bool) : Bool := !letterP x && (first || (!digitP x && decide (x ≠ 39)))
def nameGo (s : List UInt8) (p n : Nat) : Nat × Nat :=
 if p < s.length then
  match h : rn s p with
  | none => (p, n)
  | some (x, k) => if stopP x (n == 0) then (p, n) else nameGo s (p + k) (n + 1)
 else (p, n)
termination_by s.length - p
decreasing_by have := yh h; omega
def lengthGo (t : List UInt8) (i n : Nat) : Nat × Nat :=
 if i < t.length then
  if stopP (dec t i).1 (i == 0) then (i, n) else lengthGo t (i + (dec t i).2) (n + 1)
 else (t.length, n)
termination_by t.length - i
decreasing_by have := uh t i; omega
def digGo (s : List UInt8) (q n : Nat) : Nat × Nat :=
 if q < s.length ∧ digitP (by_ s q) then digGo s (q + 1) (min (n * 10 + (by_ s q - 48)) 1000) else (q, n)
termination_by s.length - q
def marks : List (List UInt8) := [[60, 61], [61, 61], [123], [125], [40], [41], [47], [44], [59], [43], [45], [42], [60]]
def markP (t : List UInt8) : Option (List UInt8) := marks.find? (·.isPrefixOf t)
def remGo (s : List UInt8) (p : Nat) : Nat ⊕ Nat :=
 if p < s.length ∧ by_ s p ≠ 10 then
  match h : rn s p with
  | none => .inl p
  | some (_, k) => remGo s (p + k)
 else .inr p
termination_by s.length - p
decreasing_by have := yh h; omega
structure Wrd where
 kind : Int
 text : List UInt8
 n : Int
 at_ : Int
deriving DecidableEq
def seg (s : List UInt8) (a b : Nat) : List UInt8 := (s.drop a).take (b - a)
inductive St where
 | err (e : Int) (a : Nat)
 | next (q : Nat) (ws : List Wrd)
def isSp (x : Nat) : Bool := decide (x = 32 ∨ x = 10 ∨ x = 13 ∨ x = 9)
def stepN (s : List UInt8) (p : Nat) (r : Nat × Nat) : St := if 24 < r.2 ∨ 40 < r.1 - p then .err 3 p else .next r.1 [⟨1, seg s p r.1, 0, p⟩]
def stepD (s : List UInt8) (p : Nat) (r : Nat × Nat) : St := if by_ s p = 48 ∧ p + 1 < r.1 then .err 110 p else if 999 < r.2 then .err 3 p else .next r.1 [⟨2, [], r.2, p⟩]
def stepM (s : List UInt8) (p : Nat) : St := match markP (s.drop p) with
 | none => .err 110 p
 | some m => .next (p + m.length) [⟨3, m, 0, p⟩]
def stepR (s : List UInt8) (p : Nat) : St :=
 match rn s p with
 | none => .err 110 p
 | some (x, _) =>
   if isSp x then .next (p + 1) []
   else if x = 35 then (match remGo s p with | .inl a => .err 110 a | .inr q => .next q [])
   else if letterP x then stepN s p (nameGo s p 0)
   else if digitP x then stepD s p (digGo s p 0)
   else stepM s p
abbrev Res := Except (Int × Nat) (List Wrd)
def goR (s : List UInt8) (p : Nat) (acc : List Wrd) : Res :=
 if p < s.length then
  match stepR s p with
  | .err e a => .error (e, a)
  | .next q ws => if p < q then goR s q (acc ++ ws) else .ok []
 else .ok (acc ++ [⟨0, [], 0, s.length⟩])
termination_by s.length - p
def stepI (s : List UInt8) (p : Nat) (x : Nat) : St ⊕ Bool :=
 if isSp x then .inr false
 else if x = 35 then .inr true
 else if letterP x then .inl (let r := lengthGo (s.drop p) 0 0; stepN s p (p + r.1, r.2))
 else if digitP x then .inl (stepD s p (digGo s p 0))
 else .inl (stepM s p)
def goI (s : List UInt8) (p skip : Nat) (rem : Bool) (acc : List Wrd) : Res :=
 if p < s.length then
  if p < skip then goI s (p + (dec s p).2) skip rem acc
  else match rn s p with
   | none => .error (110, p)
   | some (x, _) =>
     if rem then goI s (p + (dec s p).2) skip (decide (x ≠ 10)) acc
     else match stepI s p x with
      | .inr b => goI s (p + (dec s p).2) skip b acc
      | .inl (.err e a) => .error (e, a)
      | .inl (.next q ws) => goI s (p + (dec s p).2) q false (acc ++ ws)
 else .ok (acc ++ [⟨0, [], 0, s.length⟩])
termination_by s.length - p
decreasing_by all_goals (have := uh s p; omega)
theorem vM {s : List UInt8} {p x k : Nat} (h : rn s p = some (x, k)) : dec s p = (x, k) := by simp [dec, h]
inductive Tiles (s : List UInt8) : Nat → Nat → Prop
 | refl (p : Nat) : Tiles s p p
 | step {p q x k : Nat} (h : rn s p = some (x, k)) (hp : p < s.length) (t : Tiles s (p + k) q) : Tiles s p q
theorem Tiles.le {s : List UInt8} {p q : Nat} (h : Tiles s p q) : p ≤ q := by
 induction h with
 | refl => exact Nat.le_refl _
 | step h _ _ ih => have := yh h; omega
theorem Tiles.trans {s : List UInt8} {p q r : Nat} (h : Tiles s p q) (k : Tiles s q r) : Tiles s p r := by
 induction h with
 | refl => exact k
 | step h hp _ ih => exact .step h hp (ih k)
theorem Tiles.len {s : List UInt8} {p q : Nat} (h : Tiles s p q) (hp : p ≤ s.length) : q ≤ s.length := by
 induction h with
 | refl => exact hp
 | step h hlt _ ih =>
   exact ih (by have := yh h; omega)
theorem y6 {s : List UInt8} {p : Nat} (h : by_ s p < 128) : rn s p = some (by_ s p, 1) := xT (.one h)
theorem yw (s : List UInt8) (p n : Nat) : Tiles s p (nameGo s p n).1 := by
 fun_induction nameGo s p n with
 | case1 => exact .refl _
 | case2 => exact .refl _
 | case3 p n hp x k h hs ih => exact .step h hp ih
 | case4 => exact .refl _
theorem qf {x : Nat} (h : digitP x = true) : x < 128 := by simp [digitP] at h; omega
theorem je (s : List UInt8) (q n : Nat) : Tiles s q (digGo s q n).1 := by
 fun_induction digGo s q n with
 | case1 q n h ih => exact .step (y6 (qf h.2)) h.1 ih
 | case2 => exact .refl _
theorem jW {s : List UInt8} {p q : Nat} (h : remGo s p = .inr q) : Tiles s p q := by
 revert h
 fun_induction remGo s p with
 | case1 => intro h; cases h
 | case2 p hp x k h ih => intro h'; exact .step h hp.1 (ih h')
 | case3 => intro h; cases h; exact .refl _
end Wd
namespace Wd
open Go Go.Eng
theorem QK {s : List UInt8} {p q : Nat} (h : Tiles s p q) (acc : List Wrd) : goI s p q false acc = goI s q q false acc := by
 induction h with
 | refl => rfl
 | @step p q x k h hp t ih =>
   have h1 := t.le;have h2 := yh h;rw [goI, if_pos hp, if_pos (by omega), vM h];exact ih
theorem xC {s : List UInt8} {p q : Nat} {ws : List Wrd} (hp : p < s.length) (h : stepR s p = .next q ws) : p < q ∧ Tiles s p q := by
 unfold stepR at h
 split at h
 ·cases h
 ·rename_i x k hr
  have hpos := yh hr
  split at h
  ·rename_i hsp
   injection h with h1 h2
   subst h1;have hx : x < 128 := by simp [isSp] at hsp; omega
   have hk : k = 1 := by omega
   subst hk;exact ⟨by omega, .step hr hp (.refl _)⟩
  ·split at h
   ·rename_i hx
    split at h
    ·cases h
    ·rename_i q' hq
     injection h with h1 h2
     subst h1;have hk : k = 1 := by omega
     subst hk;refine ⟨?_, jW hq⟩;rw [remGo, if_pos ⟨hp, by omega⟩] at hq
     split at hq
     ·cases hq
     ·rename_i x' k' hr'
      have := (jW hq).le;have := yh hr';omega
   ·split at h
    ·rename_i hl
     unfold stepN at h
     split at h
     ·cases h
     ·injection h with h1 h2
      subst h1;refine ⟨?_, yw _ _ _⟩;rw [nameGo, if_pos hp]
      split
      ·rename_i hn; rw [hn] at hr; cases hr
      ·rename_i x' k' hr'
       rw [hr] at hr'
       injection hr' with e
       injection e with e1 e2
       subst e1 e2;rw [if_neg (by simp [stopP, hl])];have := (yw s (p + k) (0 + 1)).le;omega
    ·split at h
     ·rename_i hl hd
      unfold stepD at h
      split at h
      ·cases h
      ·split at h
       ·cases h
       ·injection h with h1 h2
        subst h1;refine ⟨?_, je _ _ _⟩;have hlt := qf hd;have hx : x = by_ s p := by omega
        rw [digGo, if_pos ⟨hp, by rw [← hx]; exact hd⟩];have := (je s (p + 1) (min (0 * 10 + (by_ s p - 48)) 1000)).le;omega
     ·unfold stepM at h
      split at h
      ·cases h
      ·rename_i m hm
       injection h with h1 h2
       subst h1;unfold markP at hm;have hmem := List.mem_of_find?_eq_some hm;have hpre : m.isPrefixOf (s.drop p) = true := List.find?_some (p := fun (m : List UInt8) => m.isPrefixOf (s.drop p)) hm;have hpre := List.isPrefixOf_iff_prefix.1 hpre;obtain ⟨t, ht⟩ := hpre
       have hb : ∀ i, i < m.length → by_ s (p + i) = (m.getD i 0).toNat := fun i hi => by
        rw [← yM, ← ht];unfold by_
        simp [List.getD_eq_getElem?_getD, List.getElem?_append_left hi]
       have hlen : p + m.length ≤ s.length := by
        have := congrArg List.length ht
        simp at this
        omega
       simp only [marks, List.mem_cons, List.not_mem_nil, or_false] at hmem
       have one : ∀ j, p ≤ j → j < p + m.length → by_ s j < 128 := fun j h1 h2 => by
        have := hb (j - p) (by omega);rw [show p + (j - p) = j by omega] at this;rw [this];have hj : j - p < m.length := by omega
        rcases hmem with rfl | rfl | rfl | rfl | rfl | rfl | rfl | rfl | rfl | rfl | rfl | rfl | rfl
        all_goals
         simp only [List.length_cons, List.length_nil] at hj
         first
          | (have e : j - p = 0 := by omega
             rw [e]; decide)
          | (rcases (show j - p = 0 ∨ j - p = 1 by omega) with e | e <;> rw [e] <;> decide)
       have hm1 : 1 ≤ m.length := by
        rcases hmem with rfl | rfl | rfl | rfl | rfl | rfl | rfl | rfl | rfl | rfl | rfl | rfl | rfl <;> decide
       have key : ∀ d j, j + d = p + m.length → p ≤ j → Tiles s j (p + m.length) := by
        intro d
        induction d with
        | zero => intro j hj _; rw [show j = p + m.length by omega]; exact .refl _
        | succ d ih => intro j hj hpj; exact .step (y6 (one j hpj (by omega))) (by omega) (ih (j + 1) (by omega) (by omega))
       exact ⟨by omega, key m.length p (by omega) (Nat.le_refl _)⟩
end Wd
namespace Wd
open Go Go.Eng
theorem yP {s : List UInt8} {p n x k : Nat} (hp : p < s.length) (h : rn s p = some (x, k)) : nameGo s p n = if stopP x (n == 0) then (p, n) else nameGo s (p + k) (n + 1) := by
 rw [nameGo, if_pos hp]
 split
 ·rename_i hn; rw [hn] at h; cases h
 ·rename_i x' k' hr'
  rw [h] at hr'; injection hr' with e; injection e with e1 e2; subst e1 e2; rfl
theorem xE {s : List UInt8} {p n : Nat} (hp : p < s.length) (h : rn s p = none) : nameGo s p n = (p, n) := by
 rw [nameGo, if_pos hp]
 split
 ·rfl
 ·rename_i x' k' hr'
  rw [h] at hr'; cases hr'
theorem Yy (s : List UInt8) (a : Nat) : ∀ (d i n : Nat), (s.drop a).length - i = d → i ≤ (s.drop a).length → (i = 0 ↔ n = 0) →
  (a + (lengthGo (s.drop a) i n).1, (lengthGo (s.drop a) i n).2) = (if a ≤ s.length then nameGo s (a + i) n else (a, n)) := by
 intro d
 induction d using Nat.strongRecOn with
 | _ d ih =>
   intro i n hd hi hin;rw [List.length_drop] at hd hi;by_cases ha : a ≤ s.length
   ·rw [if_pos ha];rw [lengthGo];rw [List.length_drop];by_cases hlt : i < s.length - a
    ·rw [if_pos hlt];have hdr := qQ s a i;have hdec : dec (s.drop a) i = dec s (a + i) := by unfold dec; rw [hdr]
     rw [hdec];cases h : rn s (a + i) with
     | none =>
       rw [xE (by omega) h]
       have : stopP (dec s (a + i)).1 (i == 0) = true := by
        simp only [dec, h, Option.getD_none];cases hi0 : (i == 0) <;> rfl
       rw [if_pos this]
     | some r =>
       obtain ⟨x, k⟩ := r;rw [yP (by omega) h]
       have hb : (i == 0) = (n == 0) := by
        rw [Bool.eq_iff_iff]; simp [hin]
       have h2 := yh h;rw [vM h, hb]
       split
       ·rfl
       ·have h3 : i + k ≤ s.length - a := by omega
        have := ih (s.length - a - (i + k)) (by omega) (i + k) (n + 1) (by rw [List.length_drop]) (by rw [List.length_drop]; omega) (by omega);rw [if_pos ha, ← Nat.add_assoc] at this;exact this
    ·rw [if_neg hlt, nameGo, if_neg (show ¬ a + i < s.length by omega)];have : i = s.length - a := by omega
     subst this
     rfl
   ·rw [if_neg ha];have h0 : s.drop a = [] := List.drop_eq_nil_of_le (by omega);rw [h0, lengthGo]
    simp
theorem Zq {s : List UInt8} {p : Nat} (hp : p ≤ s.length) : (p + (lengthGo (s.drop p) 0 0).1, (lengthGo (s.drop p) 0 0).2) = nameGo s p 0 := by
 have := Yy s p _ 0 0 rfl (Nat.zero_le _) Iff.rfl;rwa [if_pos hp, Nat.add_zero] at this
theorem uC {s : List UInt8} {p q : Nat} {ws acc : List Wrd} (hp : p < s.length) (h : stepR s p = .next q ws) : goR s p acc = goR s q (acc ++ ws) := by
 rw [goR, if_pos hp, h];simp only;rw [if_pos (xC hp h).1]
theorem Zy {s : List UInt8} {p a : Nat} {e : Int} {acc : List Wrd} (hp : p < s.length) (h : stepR s p = .err e a) : goR s p acc = .error (e, a) := by
 rw [goR, if_pos hp, h]
theorem Zz {s : List UInt8} {p : Nat} {acc : List Wrd} (hp : ¬ p < s.length) : goR s p acc = .ok (acc ++ [⟨0, [], 0, s.length⟩]) := by
 rw [goR, if_neg hp]
theorem Z0 {s : List UInt8} {p k : Nat} {b : Bool} {acc : List Wrd} (hp : ¬ p < s.length) : goI s p k b acc = .ok (acc ++ [⟨0, [], 0, s.length⟩]) := by
 rw [goI, if_neg hp]
theorem goI_goR (s : List UInt8) : ∀ (d p skip : Nat) (acc : List Wrd), s.length - p = d → skip ≤ p →
  (goI s p skip false acc = goR s p acc) ∧ (goI s p skip true acc = match remGo s p with | .inl a => .error (110, a) | .inr q => goR s q acc) := by
 intro d
 induction d using Nat.strongRecOn with
 | _ d ih =>
   intro p skip acc hd hsk;by_cases hp : p < s.length
   ·have hpos := uh s p;have hns : ¬ p < skip := by omega
    constructor
    ·rw [goI, if_pos hp, if_neg hns]
     split
     ·rename_i hr
      have : stepR s p = .err 110 p := by unfold stepR; rw [hr]
      rw [Zy hp this]
     ·rename_i x k hr
      rw [vM hr] at hpos ⊢;simp only at hpos ⊢;have hpos2 := yh hr;rw [if_neg (by simp)]
      have hstep : stepR s p = if isSp x then .next (p + 1) [] else if x = 35 then (match remGo s p with | .inl a => .err 110 a | .inr q => .next q []) else if letterP x then stepN s p (nameGo s p 0) else if digitP x then stepD s p (digGo s p 0) else stepM s p := by
       unfold stepR; rw [hr]
      unfold stepI;by_cases h1 : isSp x = true
      ·rw [if_pos h1] at hstep;rw [if_pos h1];have hk : k = 1 := by simp [isSp] at h1; omega
       subst hk;simp only;rw [uC hp hstep, List.append_nil];exact (ih _ (by omega) (p + 1) skip acc rfl (by omega)).1
      ·rw [if_neg h1] at hstep;rw [if_neg h1];by_cases h2 : x = 35
       ·rw [if_pos h2] at hstep;rw [if_pos h2];have hk : k = 1 := by omega
        subst hk;simp only;rw [(ih _ (by omega) (p + 1) skip acc rfl (by omega)).2]
        have hrem : remGo s p = remGo s (p + 1) := by
         rw [remGo, if_pos ⟨hp, by omega⟩]
         split
         ·rename_i hn; rw [hn] at hr; cases hr
         ·rename_i x' k' hr'
          rw [hr] at hr'; injection hr' with e; injection e with e1 e2; subst e2; rfl
        rw [← hrem]
        split
        ·rename_i a ha
         rw [ha] at hstep;rw [Zy hp hstep]
        ·rename_i q hq
         rw [hq] at hstep;rw [uC hp hstep, List.append_nil]
       ·rw [if_neg h2] at hstep;rw [if_neg h2]
        have fin : ∀ st : St, stepR s p = st → (match (Sum.inl st : St ⊕ Bool) with
          | .inr b => goI s (p + k) skip b acc
          | .inl (.err e a) => Except.error (e, a)
          | .inl (.next q ws) => goI s (p + k) q false (acc ++ ws)) = goR s p acc := by
         intro st hst;cases st with
         | err e a => simp only; rw [Zy hp hst]
         | next q ws =>
           simp only;rw [uC hp hst];obtain ⟨g1, g2⟩ := xC hp hst;cases g2 with
           | refl => omega
           | step h' hp' t =>
             rw [hr] at h'; injection h' with e; injection e with e1 e2; subst e2
             rw [QK t];exact (ih _ (by omega) q q _ rfl (Nat.le_refl _)).1
        by_cases h3 : letterP x = true
        ·rw [if_pos h3] at hstep;rw [if_pos h3];refine fin _ ?_;simp only;rw [hstep, ← Zq (by omega)]
        ·rw [if_neg h3] at hstep;rw [if_neg h3];by_cases h4 : digitP x = true
         ·rw [if_pos h4] at hstep;rw [if_pos h4];exact fin _ hstep
         ·rw [if_neg h4] at hstep;rw [if_neg h4];exact fin _ hstep
    ·rw [goI, if_pos hp, if_neg hns]
     split
     ·rename_i hr
      have h10 : by_ s p ≠ 10 := by
       intro e;have := y6 (s := s) (p := p) (by omega);rw [hr] at this;cases this
      have hrem : remGo s p = .inl p := by
       rw [remGo, if_pos ⟨hp, h10⟩]
       split
       ·rfl
       ·rename_i hr'; rw [hr] at hr'; cases hr'
      rw [hrem]
     ·rename_i x k hr
      rw [vM hr] at hpos ⊢;simp only at hpos ⊢;have hpos2 := yh hr;rw [if_pos trivial];by_cases h10 : x = 10
      ·have hk : k = 1 := by omega
       subst hk;rw [decide_eq_false (by omega), (ih _ (by omega) (p + 1) skip acc rfl (by omega)).1, remGo, if_neg (by omega)];simp only
       have hst : stepR s p = .next (p + 1) [] := by
        unfold stepR;rw [hr];simp only;rw [if_pos (by simp [isSp, h10])]
       rw [uC hp hst, List.append_nil]
      ·rw [decide_eq_true h10, (ih _ (by omega) (p + k) skip acc rfl (by omega)).2]
       have hb : by_ s p ≠ 10 := by
        intro e;have := y6 (s := s) (p := p) (by omega);rw [hr] at this
        injection this with e'
        injection e' with e1 e2
        omega
       have : remGo s p = remGo s (p + k) := by
        rw [remGo, if_pos ⟨hp, hb⟩]
        split
        ·rename_i hn; rw [hn] at hr; cases hr
        ·rename_i x' k' hr'
         rw [hr] at hr'; injection hr' with e; injection e with e1 e2; subst e2; rfl
       rw [this]
   ·constructor
    ·rw [Z0 hp, Zz hp]
    ·rw [Z0 hp, remGo, if_neg (by omega)];simp only;rw [Zz hp]
def cutP (s : List UInt8) : Res := if 65536 < s.length then .error (3, 0) else goR s 0 []
theorem cut_eq (s : List UInt8) : goI s 0 0 false [] = goR s 0 [] := (goI_goR s _ 0 0 [] rfl (Nat.le_refl _)).1
end Wd
section
open Wd
abbrev Gives (w : Value) : Value → List Ent → Prop := fun v L' => v = w ∧ L' = []
theorem ud {m : Mp} (x : Nat) : CS Tryz.prog 50 [.int .i32 x] m [] (Gives (.bool (letterP x))) := by
 refine yI [.tmp 2] Tryz.func50 rfl rfl rfl ?_;refine tr 11 ?_;refine yU (uv rfl rfl) rfl rfl rfl (fun hc1 => ?_) (fun hc1 => ?_);refine vr 2 ?_;refine yU (uO rfl rfl) rfl rfl rfl (fun hc2 => ?_) (fun hc2 => ?_);refine vr 16 ?_
 (exact rt1 ⟨rfl, trivial⟩ ⟨congrArg Value.bool (by simp [letterP] <;> omega), rfl⟩)
 refine vr 7 ?_;refine cto 2 ?_;refine cfo 9 ?_;refine yU (yn rfl rfl) rfl rfl rfl (fun hc3 => ?_) (fun hc3 => ?_);refine vr 15 ?_
 (exact rt1 ⟨rfl, trivial⟩ ⟨congrArg Value.bool (by simp [letterP] <;> omega), rfl⟩)
 refine vr 6 ?_;refine yU (yn rfl rfl) rfl rfl rfl (fun hc4 => ?_) (fun hc4 => ?_);refine vr 12 ?_
 (exact rt1 ⟨rfl, trivial⟩ ⟨congrArg Value.bool (by simp [letterP] <;> omega), rfl⟩)
 refine vr 10 ?_;refine yU (uv rfl rfl) rfl rfl rfl (fun hc5 => ?_) (fun hc5 => ?_);refine vr 2 ?_;refine yU (uO rfl rfl) rfl rfl rfl (fun hc6 => ?_) (fun hc6 => ?_);refine vr 5 ?_
 (exact rt1 ⟨rfl, trivial⟩ ⟨congrArg Value.bool (by simp [letterP] <;> omega), rfl⟩)
 refine vr 5 ?_
 (exact rt1 ⟨rfl, trivial⟩ ⟨congrArg Value.bool (by simp [letterP] <;> omega), rfl⟩)
 refine vr 8 ?_
 (exact rt1 ⟨rfl, trivial⟩ ⟨congrArg Value.bool (by simp [letterP] <;> omega), rfl⟩)
 refine vr 10 ?_;refine yU (uv rfl rfl) rfl rfl rfl (fun hc2 => ?_) (fun hc2 => ?_);refine vr 2 ?_;refine yU (uO rfl rfl) rfl rfl rfl (fun hc3 => ?_) (fun hc3 => ?_);refine vr 13 ?_
 (exact rt1 ⟨rfl, trivial⟩ ⟨congrArg Value.bool (by simp [letterP] <;> omega), rfl⟩)
 refine vr 9 ?_;refine cfo 6 ?_;refine cfo 10 ?_;refine cfo 8 ?_
 (exact rt1 ⟨rfl, trivial⟩ ⟨congrArg Value.bool (by simp [letterP] <;> omega), rfl⟩)
 refine vr 12 ?_;refine cfo 6 ?_;refine cfo 10 ?_;refine cfo 8 ?_
 (exact rt1 ⟨rfl, trivial⟩ ⟨congrArg Value.bool (by simp [letterP] <;> omega), rfl⟩)
theorem wT {m : Mp} (x : Nat) : CS Tryz.prog 52 [.int .i32 x] m [] (Gives (.bool (digitP x))) := by
 refine yI [.tmp 2] Tryz.func52 rfl rfl rfl ?_;refine tr 8 ?_;refine yU (uv rfl rfl) rfl rfl rfl (fun hc1 => ?_) (fun hc1 => ?_);refine vr 2 ?_;refine yU (uO rfl rfl) rfl rfl rfl (fun hc2 => ?_) (fun hc2 => ?_);refine vr 5 ?_
 (exact rt1 ⟨rfl, trivial⟩ ⟨congrArg Value.bool (by simp [digitP] <;> omega), rfl⟩)
 refine vr 5 ?_
 (exact rt1 ⟨rfl, trivial⟩ ⟨congrArg Value.bool (by simp [digitP] <;> omega), rfl⟩)
 refine vr 8 ?_
 (exact rt1 ⟨rfl, trivial⟩ ⟨congrArg Value.bool (by simp [digitP] <;> omega), rfl⟩)
theorem X8 {m : Mp} (x : Nat) : CS Tryz.prog 72 [.int .i64 x] m [] (Gives (.bool (letterP x))) := by
 refine yI [.tmp 2] Tryz.func72 rfl rfl rfl ?_;refine tr 8 ?_;refine yU (uv rfl rfl) rfl rfl rfl (fun hc1 => ?_) (fun hc1 => ?_);refine vr 2 ?_;refine yU (uO rfl rfl) rfl rfl rfl (fun hc2 => ?_) (fun hc2 => ?_);refine vr 29 ?_
 (exact rt1 ⟨rfl, trivial⟩ ⟨congrArg Value.bool (by simp [letterP] <;> omega), rfl⟩)
 refine vr 3 ?_;refine cto 2 ?_;refine cfo 4 ?_;refine yU (uv rfl rfl) rfl rfl rfl (fun hc3 => ?_) (fun hc3 => ?_);refine vr 2 ?_;refine yU (uO rfl rfl) rfl rfl rfl (fun hc4 => ?_) (fun hc4 => ?_);refine vr 3 ?_;refine yU (kl rfl rfl) rfl rfl rfl (fun hc5 => ?_) (fun hc5 => ?_);refine vr 3 ?_;refine yU (kl rfl rfl) rfl rfl rfl (fun hc6 => ?_) (fun hc6 => ?_);refine vr 6 ?_
 (exact rt1 ⟨rfl, trivial⟩ ⟨congrArg Value.bool (by simp [letterP] <;> omega), rfl⟩)
 refine vr 6 ?_
 (exact rt1 ⟨rfl, trivial⟩ ⟨congrArg Value.bool (by simp [letterP] <;> omega), rfl⟩)
 refine vr 10 ?_
 (exact rt1 ⟨rfl, trivial⟩ ⟨congrArg Value.bool (by simp [letterP] <;> omega), rfl⟩)
 refine vr 14 ?_
 (exact rt1 ⟨rfl, trivial⟩ ⟨congrArg Value.bool (by simp [letterP] <;> omega), rfl⟩)
 refine vr 17 ?_
 (exact rt1 ⟨rfl, trivial⟩ ⟨congrArg Value.bool (by simp [letterP] <;> omega), rfl⟩)
 refine vr 6 ?_;refine yU (uv rfl rfl) rfl rfl rfl (fun hc2 => ?_) (fun hc2 => ?_);refine vr 2 ?_;refine yU (uO rfl rfl) rfl rfl rfl (fun hc3 => ?_) (fun hc3 => ?_);refine vr 22 ?_
 (exact rt1 ⟨rfl, trivial⟩ ⟨congrArg Value.bool (by simp [letterP] <;> omega), rfl⟩)
 refine vr 4 ?_;refine cfo 17 ?_
 (exact rt1 ⟨rfl, trivial⟩ ⟨congrArg Value.bool (by simp [letterP] <;> omega), rfl⟩)
 refine vr 7 ?_;refine cfo 17 ?_
 (exact rt1 ⟨rfl, trivial⟩ ⟨congrArg Value.bool (by simp [letterP] <;> omega), rfl⟩)
theorem Vi {m : Mp} (x : Nat) : CS Tryz.prog 74 [.int .i64 x] m [] (Gives (.bool (digitP x))) := by
 refine yI [.tmp 2] Tryz.func74 rfl rfl rfl ?_;refine tr 8 ?_;refine yU (uv rfl rfl) rfl rfl rfl (fun hc1 => ?_) (fun hc1 => ?_);refine vr 2 ?_;refine yU (uO rfl rfl) rfl rfl rfl (fun hc2 => ?_) (fun hc2 => ?_);refine vr 5 ?_
 (exact rt1 ⟨rfl, trivial⟩ ⟨congrArg Value.bool (by simp [digitP] <;> omega), rfl⟩)
 refine vr 5 ?_
 (exact rt1 ⟨rfl, trivial⟩ ⟨congrArg Value.bool (by simp [digitP] <;> omega), rfl⟩)
 refine vr 8 ?_
 (exact rt1 ⟨rfl, trivial⟩ ⟨congrArg Value.bool (by simp [digitP] <;> omega), rfl⟩)
end
section
open Wd
def pairV (r : Nat × Nat) : Value := .tuple [.int .i64 r.1, .int .i64 r.2].toArray
def runeR (s : List UInt8) (p : Nat) : Nat × Nat := (rn s p).getD (0, 0)
inductive Cls : Nat → Nat → Nat → Nat → Prop
 | one {b : Nat} (h : b < 128) : Cls b 1 b 0
 | two {b : Nat} (h : b / 32 = 6) : Cls b 2 (b % 32) 128
 | three {b : Nat} (h : b / 16 = 14) : Cls b 3 (b % 16) 2048
 | four {b : Nat} (h : b / 8 = 30) : Cls b 4 (b % 8) 65536
theorem Uc {s : List UInt8} {p : Nat} (h : 128 ≤ by_ s p) (h1 : ¬ by_ s p / 32 = 6) (h2 : ¬ by_ s p / 16 = 14) (h3 : ¬ by_ s p / 8 = 30) : runeR s p = (0, 0) := by
 unfold runeR;rw [jk]
 ·rfl
 ·intro x k hk; cases hk <;> omega
def valI (s : List UInt8) (p x0 : Nat) : Nat → Nat
 | 0 => x0
 | i + 1 => valI s p x0 i * 64 + by_ s (p + (i + 1)) % 64
theorem cls_end {s : List UInt8} {p n x0 le : Nat} (hc : Cls (by_ s p) n x0 le) (hk : ∀ j, 1 ≤ j → j < n → cont s (p + j) = true) :
  runeR s p = if valI s p x0 (n - 1) < le ∨ 1114111 < valI s p x0 (n - 1) ∨ (55296 ≤ valI s p x0 (n - 1) ∧ valI s p x0 (n - 1) ≤ 57343) then (0, 0) else (valI s p x0 (n - 1), n) := by
 have hb := kf s p
 have one : ∀ x k, RnK s p x k → k = n ∧ x = valI s p x0 (n - 1) := fun x k h => by
  cases h <;> cases hc <;> (try omega) <;> (first | exact ⟨rfl, rfl⟩ | (refine ⟨rfl, ?_⟩; simp only [valI, Nat.reduceSub, Nat.reduceAdd]; omega))
 split
 ·rename_i hno
  unfold runeR;rw [jk]
  ·rfl
  ·intro x k h;obtain ⟨e1, e2⟩ := one x k h;rw [← e2] at hno;cases h <;> cases hc <;> omega
 ·rename_i hyes
  unfold runeR
  have hK : RnK s p (valI s p x0 (n - 1)) n := by
   cases hc with
   | one h => exact .one h
   | two h =>
     obtain ⟨l1, k1⟩ := zz.1 (hk 1 (by omega) (by omega));exact .two _ h l1 k1 rfl (by omega)
   | three h =>
     obtain ⟨l1, k1⟩ := zz.1 (hk 1 (by omega) (by omega));obtain ⟨l2, k2⟩ := zz.1 (hk 2 (by omega) (by omega));refine .three _ h l2 k1 k2 ?_ (by omega) (by omega);simp only [valI, Nat.reduceSub, Nat.reduceAdd]; omega
   | four h =>
     obtain ⟨l1, k1⟩ := zz.1 (hk 1 (by omega) (by omega));obtain ⟨l2, k2⟩ := zz.1 (hk 2 (by omega) (by omega));obtain ⟨l3, k3⟩ := zz.1 (hk 3 (by omega) (by omega));refine .four _ h l3 k1 k2 k3 ?_ (by omega) (by omega);simp only [valI, Nat.reduceSub, Nat.reduceAdd]; omega
  rw [xT hK]
  rfl
theorem Qd {s : List UInt8} {p n x0 le i : Nat} (hc : Cls (by_ s p) n x0 le) (h1 : 1 ≤ i) (h2 : i < n) (hk : cont s (p + i) = false) : runeR s p = (0, 0) := by
 have hb := kf s p;unfold runeR;rw [jk]
 ·rfl
 ·intro x k h
  have hcc : ∀ j, j < k → 1 ≤ j → cont s (p + j) = true := fun j a b => by
   cases h with
   | one => omega
   | two _ _ l1 k1 => exact zz.2 (by rcases (show j = 1 by omega) with rfl; exact ⟨l1, k1⟩)
   | three _ _ l1 k1 k2 => exact zz.2 (by rcases (show j = 1 ∨ j = 2 by omega) with rfl | rfl; exact ⟨by omega, k1⟩; exact ⟨by omega, k2⟩)
   | four _ _ l1 k1 k2 k3 => exact zz.2 (by rcases (show j = 1 ∨ j = 2 ∨ j = 3 by omega) with rfl | rfl | rfl; exact ⟨by omega, k1⟩; exact ⟨by omega, k2⟩; exact ⟨by omega, k3⟩)
  have hkn : k = n := by cases h <;> cases hc <;> omega
  rw [hcc i (by omega) h1] at hk;cases hk
theorem VI {m : Mp} {s : List UInt8} {p : Nat} (hp : p < s.length) (hs : s.length ≤ 140737488355328) : CS Tryz.prog 71 [.string (bs s), .int .i64 p] m [] (Gives (pairV (runeR s p))) := by
 refine yI [.tmp 4, .tmp 5] Tryz.func71 rfl rfl rfl ?_;have hb := kf s p;have a5 : bits .and .i64 (by_ s p : Nat) 31 = ((by_ s p % 32 : Nat) : Int) := jC 5 (by decide) (by_ s p) (by omega);have a4 : bits .and .i64 (by_ s p : Nat) 15 = ((by_ s p % 16 : Nat) : Int) := jC 4 (by decide) (by_ s p) (by omega)
 have a3 : bits .and .i64 (by_ s p : Nat) 7 = ((by_ s p % 8 : Nat) : Int) := jC 3 (by decide) (by_ s p) (by omega);refine tr 10 ?_;refine pe 0 (xL rfl rfl st9 (by omega)) ?_;refine pe 21 (vo us5 ik3 rfl (w64 (by omega) (by omega))) ?_
 refine qm (fun y : Nat × Nat × Nat => [(0, .string (bs s)), (1, .int .i64 p), (4, .int .i64 0), (5, .int .i64 0), (7, .int .i64 (y.1 : Nat)), (8, .int .i64 (y.2.1 : Nat)), (9, .int .i64 (y.2.2 : Nat))]) (fun _ => []) (fun y => Cls (by_ s p) y.1 y.2.1 y.2.2) ?_ ?_
 ·have sub : ∀ (n x0 le : Nat) (env : Env), Cls (by_ s p) n x0 le → lk env 0 = some (.string (bs s)) → True := fun _ _ _ _ _ _ => trivial;clear sub;by_cases h0 : by_ s p < 128
  ·refine tr 2 ?_;refine cfo 10 ?_;refine cfo 10 ?_;refine cfo 10 ?_;refine cfo 4 ?_;exact QR (1, by_ s p, 0) (Pick.refl _) (.one h0) Nat.zero_lt_one
  ·by_cases h1 : by_ s p / 32 = 6
   ·refine tr 2 ?_;refine cto 2 ?_;refine cto 12 ?_;refine pe 6 (ZZ rfl rfl (by with_reducible assumption)) ?_;exact QR (2, by_ s p % 32, 128) (Pick.refl _) (.two h1) Nat.zero_lt_one
   ·by_cases h2 : by_ s p / 16 = 14
    ·refine tr 2 ?_;refine cto 2 ?_;refine cfo 7 ?_;refine cto 2 ?_;refine cto 12 ?_;refine pe 6 (ZZ rfl rfl (by with_reducible assumption)) ?_;exact QR (3, by_ s p % 16, 2048) (Pick.refl _) (.three h2) Nat.zero_lt_one
    ·by_cases h3 : by_ s p / 8 = 30
     ·refine tr 2 ?_;refine cto 2 ?_;refine cfo 7 ?_;refine cto 2 ?_;refine cfo 7 ?_;refine cto 2 ?_;refine cto 12 ?_;refine pe 6 (ZZ rfl rfl (by with_reducible assumption)) ?_;exact QR (4, by_ s p % 8, 65536) (Pick.refl _) (.four h3) Nat.zero_lt_one
     ·have hno := Uc (by omega) h1 h2 h3;by_cases h4 : by_ s p < 192
      ·refine tr 2 ?_;refine cfo 10 ?_;refine cfo 10 ?_;refine cfo 10 ?_;refine cto 10 ?_;refine zN ?_;exact zm [_, _] ⟨rfl, rfl, trivial⟩ [] (Pick.nil _) ⟨by rw [hno]; rfl, rfl⟩
      ·refine tr 2 ?_;refine cto 2 ?_;refine cfo 7 ?_;refine cto 2 ?_;refine cfo 7 ?_;refine cto 2 ?_;refine cfo 7 ?_;refine cto 10 ?_;refine zN ?_;exact zm [_, _] ⟨rfl, rfl, trivial⟩ [] (Pick.nil _) ⟨by rw [hno]; rfl, rfl⟩
 ·rintro ⟨n, x0, le⟩ hc;simp only at hc ⊢;refine tr 7 ?_;have hn : 1 ≤ n ∧ n ≤ 4 ∧ x0 < 128 ∧ le ≤ 65536 := by cases hc <;> omega
  refine zj (fun i : Nat => [(0, .string (bs s)), (1, .int .i64 p), (7, .int .i64 (n : Nat)), (8, .int .i64 (valI s p x0 i : Nat)), (9, .int .i64 (le : Nat)), (10, .int .i64 ((i + 1 : Nat) : Int))]) (fun _ => [])
   (fun i => i + 1 ≤ n ∧ (∀ j, 1 ≤ j → j < i + 1 → cont s (p + j) = true) ∧ ((i = 0 ∧ valI s p x0 i < 128) ∨ (i = 1 ∧ valI s p x0 i < 8256) ∨ (i = 2 ∧ valI s p x0 i < 528448) ∨ (i = 3 ∧ valI s p x0 i < 33820736))) (fun i => n - i) 0
   ⟨rfl, rfl, rfl, rfl, rfl, rfl, trivial⟩ (Pick.refl _) ⟨by omega, (fun j h1 h2 => by omega), .inl ⟨rfl, hn.2.2.1⟩⟩ ?_
  rintro i ⟨hi, hk, hv⟩;by_cases hlt : i + 1 < n
  ·have hbi := kf s (p + (i + 1));have u1 := VC (by_ s (p + (i + 1))) hbi;have u2 : bits .and .u8 (by_ s (p + (i + 1)) : Nat) 63 = ((by_ s (p + (i + 1)) % 64 : Nat) : Int) := UM 6 (by decide) _ hbi
   have hsh : IntKind.i64.wrap ((valI s p x0 i : Nat) * 2 ^ (6 : Int).toNat) = ((valI s p x0 i * 64 : Nat) : Int) := by
    rw [show ((valI s p x0 i : Nat) : Int) * 2 ^ (6 : Int).toNat = ((valI s p x0 i * 64 : Nat) : Int) by simp];exact w64 (by omega) (by omega)
   have hor : bits .or .i64 ((valI s p x0 i * 64 : Nat) : Int) ((by_ s (p + (i + 1)) % 64 : Nat) : Int) = ((valI s p x0 (i + 1) : Nat) : Int) := VX 6 _ _ (by omega) (by omega) (by omega) (by omega);by_cases hle : p + (i + 1) < s.length
   ·by_cases h64 : by_ s (p + (i + 1)) / 64 = 2
    ·refine tr 5 ?_;refine cto 12 ?_;refine pe 1 (zi rfl rfl (by omega)) ?_;refine pe 0 (zg rfl st9) ?_;refine cfo 4 ?_;refine pe 0 (zi rfl rfl (by omega)) ?_;refine pe 0 (xL rfl rfl st9 (by omega)) ?_;refine pe 0 (ZZ rfl rfl (by with_reducible assumption)) ?_;refine cfo 8 ?_;refine pe 3 ((P_shl rfl rfl (by decide) (by decide) hsh)) ?_
     refine pe 0 (zi rfl rfl (by omega)) ?_;refine pe 0 (xL rfl rfl st9 (by omega)) ?_;refine pe 0 (ZZ rfl rfl (by with_reducible assumption)) ?_;refine pe 0 (vo us5 ik3 rfl (w64 (by omega) (by omega))) ?_;refine pe 6 (P_or rfl rfl (by with_reducible assumption)) ?_;refine Pa 2 ?_;refine QR (i + 1) (Pick.refl _) ⟨by omega, (fun j h1 h2 => ?_), ?_⟩ (by omega)
     ·by_cases hj : j < i + 1
      ·exact hk j h1 hj
      ·have : j = i + 1 := by omega
       subst this;exact zz.2 ⟨hle, h64⟩
     ·simp only [valI];omega
    ·have hno := Qd hc (i := i + 1) (by omega) hlt (by cases hcc : cont s (p + (i + 1)) with | false => rfl | true => exact absurd (zz.1 hcc).2 h64);refine tr 5 ?_;refine cto 12 ?_;refine pe 1 (zi rfl rfl (by omega)) ?_;refine pe 0 (zg rfl st9) ?_;refine cfo 4 ?_;refine pe 0 (zi rfl rfl (by omega)) ?_;refine pe 0 (xL rfl rfl st9 (by omega)) ?_
     refine pe 0 (ZZ rfl rfl (by with_reducible assumption)) ?_;refine cto 14 ?_;refine zN ?_;refine zP ?_;refine zY ?_;exact zm [_, _] ⟨rfl, rfl, trivial⟩ [] (Pick.nil _) ⟨by rw [hno]; rfl, rfl⟩
   ·have hno := Qd hc (i := i + 1) (by omega) hlt (by cases hcc : cont s (p + (i + 1)) with | false => rfl | true => exact absurd (zz.1 hcc).1 hle);refine tr 5 ?_;refine cto 12 ?_;refine pe 1 (zi rfl rfl (by omega)) ?_;refine pe 0 (zg rfl st9) ?_;refine cto 22 ?_;refine zN ?_;refine zP ?_;refine zY ?_
    exact zm [_, _] ⟨rfl, rfl, trivial⟩ [] (Pick.nil _) ⟨by rw [hno]; rfl, rfl⟩
  ·have hin : i = n - 1 := by omega
   have hend := cls_end hc (fun j h1 h2 => hk j h1 (by omega));rw [← hin] at hend;refine tr 5 ?_;refine cfo 5 ?_;refine zC ?_;refine zB ?_;refine qt 6 ?_;refine yU (P_lss rfl rfl) rfl rfl rfl (fun hc1 => ?_) (fun hc1 => ?_);refine vr 23 ?_
   (exact zm [_, _] ⟨rfl, rfl, trivial⟩ [] (Pick.nil _) ⟨by rw [hend]; first | rw [if_pos (by omega)]; rfl | (rw [if_neg (by omega)]; rfl), rfl⟩)
   refine vr 2 ?_;refine yU (W8 rfl rfl) rfl rfl rfl (fun hc2 => ?_) (fun hc2 => ?_);refine vr 20 ?_
   (exact zm [_, _] ⟨rfl, rfl, trivial⟩ [] (Pick.nil _) ⟨by rw [hend]; first | rw [if_pos (by omega)]; rfl | (rw [if_neg (by omega)]; rfl), rfl⟩)
   refine vr 3 ?_;refine yU (uv rfl rfl) rfl rfl rfl (fun hc3 => ?_) (fun hc3 => ?_);refine vr 2 ?_;refine yU (uO rfl rfl) rfl rfl rfl (fun hc4 => ?_) (fun hc4 => ?_);refine vr 13 ?_
   (exact zm [_, _] ⟨rfl, rfl, trivial⟩ [] (Pick.nil _) ⟨by rw [hend]; first | rw [if_pos (by omega)]; rfl | (rw [if_neg (by omega)]; rfl), rfl⟩)
   refine vr 16 ?_
   (exact zm [_, _] ⟨rfl, rfl, trivial⟩ [] (Pick.nil _) ⟨by rw [hend]; first | rw [if_pos (by omega)]; rfl | (rw [if_neg (by omega)]; rfl), rfl⟩)
   refine vr 19 ?_
   (exact zm [_, _] ⟨rfl, rfl, trivial⟩ [] (Pick.nil _) ⟨by rw [hend]; first | rw [if_pos (by omega)]; rfl | (rw [if_neg (by omega)]; rfl), rfl⟩)
end
section
open Wd
theorem Xl {s : List UInt8} {p x k : Nat} (h : rn s p = some (x, k)) : runeR s p = (x, k) := by simp [runeR, h]
theorem Xm {s : List UInt8} {p : Nat} (h : rn s p = none) : runeR s p = (0, 0) := by simp [runeR, h]
theorem X5 {s : List UInt8} {p n : Nat} (hp : ¬ p < s.length) : nameGo s p n = (p, n) := by rw [nameGo, if_neg hp]
theorem ua {m : Mp} {s : List UInt8} {p : Nat} (hp : p ≤ s.length) (hs : s.length ≤ 140737488355328) : CS Tryz.prog 73 [.string (bs s), .int .i64 p] m [] (Gives (pairV (nameGo s p 0))) := by
 refine yI [.tmp 4, .tmp 5] Tryz.func73 rfl rfl rfl ?_;refine tr 13 ?_
 refine zj (fun y : Nat × Nat => [(0, .string (bs s)), (1, .int .i64 (y.1 : Nat)), (6, .int .i64 (y.2 : Nat))]) (fun _ => []) (fun y => y.1 ≤ s.length ∧ y.2 ≤ y.1 ∧ nameGo s y.1 y.2 = nameGo s p 0) (fun y => s.length - y.1) (p, 0)
  ⟨rfl, rfl, rfl, trivial⟩ (Pick.refl _) ⟨hp, Nat.zero_le _, rfl⟩ ?_
 rintro ⟨q, n⟩ ⟨hq, hnq, he⟩;simp only at hq hnq he ⊢;by_cases hlt : q < s.length
 ·refine tr 5 ?_;refine pe 0 (zg rfl st9) ?_;refine cto 10 ?_;refine Cr cl71 rfl (fun m' hm he => (VI hlt hs)) ?_;rintro _ rfl;cases hr : rn s q with
  | none =>
    rw [xE hlt hr] at he;rw [Xm hr];refine vr 11 ?_;refine ctr 24 ?_;refine zC ?_;refine zB ?_;refine qt 10 ?_;exact zm [_, _] ⟨rfl, rfl, trivial⟩ [] (Pick.nil _) ⟨by rw [← he]; rfl, rfl⟩
  | some r =>
    obtain ⟨x, k⟩ := r;rw [yP hlt hr] at he;rw [Xl hr];have hk := yh hr;refine vr 11 ?_;refine cfo 2 ?_;refine Cr cl72 rfl (fun m' hm he => (X8 x)) ?_;rintro _ rfl;have go : nameGo s (q + k) (n + 1) = nameGo s p 0 → _ := fun h => h;cases hl : letterP x with
    | true =>
      rw [if_neg (by simp [stopP, hl])] at he;refine vr 24 ?_;refine pe 5 (zi rfl rfl (by omega)) ?_;refine Pa 3 ?_;exact QR (q + k, n + 1) (Pick.refl _) ⟨by simp only; omega, by simp only; omega, he⟩ (by simp only; omega)
    | false =>
      by_cases hn0 : n = 0
      ·rw [if_pos (by simp [stopP, hl, hn0])] at he;refine vr 3 ?_;refine cto 17 ?_;refine zC ?_;refine zB ?_;refine qt 10 ?_;exact zm [_, _] ⟨rfl, rfl, trivial⟩ [] (Pick.nil _) ⟨by rw [← he]; rfl, rfl⟩
      ·refine vr 3 ?_;refine cfo 2 ?_;refine Cr cl74 rfl (fun m' hm he => (Vi x)) ?_;rintro _ rfl;cases hd : digitP x with
       | true =>
         rw [if_neg (by simp [stopP, hl, hd, hn0])] at he;refine vr 17 ?_;refine pe 5 (zi rfl rfl (by omega)) ?_;refine Pa 3 ?_;exact QR (q + k, n + 1) (Pick.refl _) ⟨by simp only; omega, by simp only; omega, he⟩ (by simp only; omega)
       | false =>
         by_cases h39 : x = 39
         ·rw [if_neg (by simp [stopP, hl, hd, hn0, h39])] at he;refine vr 3 ?_;refine cfo 13 ?_;refine pe 5 (zi rfl rfl (by omega)) ?_;refine Pa 3 ?_;exact QR (q + k, n + 1) (Pick.refl _) ⟨by simp only; omega, by simp only; omega, he⟩ (by simp only; omega)
         ·rw [if_pos (by simp [stopP, hl, hd, hn0, h39])] at he;refine vr 3 ?_;refine cto 10 ?_;refine zC ?_;refine zB ?_;refine qt 10 ?_;exact zm [_, _] ⟨rfl, rfl, trivial⟩ [] (Pick.nil _) ⟨by rw [← he]; rfl, rfl⟩
 ·rw [X5 hlt] at he;refine tr 5 ?_;refine pe 0 (zg rfl st9) ?_;refine cfo 5 ?_;refine zC ?_;refine zB ?_;refine qt 10 ?_;exact zm [_, _] ⟨rfl, rfl, trivial⟩ [] (Pick.nil _) ⟨by rw [← he]; rfl, rfl⟩
theorem Zr {t : List UInt8} {i n : Nat} (h : ¬ i < t.length) : lengthGo t i n = (t.length, n) := by rw [lengthGo, if_neg h]
theorem Yz {t : List UInt8} {i n : Nat} (h : i < t.length) : lengthGo t i n = if stopP (dec t i).1 (i == 0) then (i, n) else lengthGo t (i + (dec t i).2) (n + 1) := by rw [lengthGo, if_pos h]
theorem QU {t : List UInt8} {i : Nat} (h : i < t.length) : i + (dec t i).2 ≤ t.length := by
 unfold dec;cases hr : rn t i with
 | none => simp; omega
 | some r => obtain ⟨x, k⟩ := r; have := yh hr; simp; omega
theorem qy {m : Mp} {t : List UInt8} (hs : t.length ≤ 140737488355328) : CS Tryz.prog 51 [.string (bs t)] m [] (Gives (pairV (lengthGo t 0 0))) := by
 refine yI [.tmp 2, .tmp 3] Tryz.func51 rfl rfl rfl ?_;refine tr 10 ?_;refine zE (ju st9 rfl rfl (fun b1 => ?_)) rfl;refine vr 3 ?_
 refine zj (fun y : Nat × Nat => [(0, .string (bs t)), (7, .pointer (some ⟨b1, 0, none⟩)), (3, .int .i64 (y.2 : Nat))]) (fun y => [iter b1 t y.1]) (fun y => y.1 ≤ t.length ∧ y.2 ≤ y.1 ∧ lengthGo t y.1 y.2 = lengthGo t 0 0) (fun y => t.length - y.1) (0, 0)
  ⟨rfl, rfl, rfl, trivial⟩ (Pick.refl _) ⟨Nat.zero_le _, Nat.zero_le _, rfl⟩ ?_
 rintro ⟨i, n⟩ ⟨hq, hnq, he⟩;simp only at hq hnq he ⊢;by_cases hlt : i < t.length
 ·rw [Yz hlt] at he;have hp := uh t i;have hl2 := QU hlt;have hdq := vL t i;refine tr 2 ?_;refine zE (qn rfl (by first | assumption | omega) (by assumption) .here rfl ?_) rfl;refine vr 20 ?_;generalize dec t i = r at *;obtain ⟨x, k⟩ := r;simp only at hp hl2 he ⊢;refine Cr cl50 rfl (fun m' hm he => (ud x)) ?_;rintro _ rfl;cases hl : letterP x with
  | true =>
    rw [if_neg (by simp [stopP, hl])] at he;refine vr 21 ?_;refine Pa 3 ?_;exact QR (i + k, n + 1) (Pick.refl _) ⟨by simp only; omega, by simp only; omega, he⟩ (by simp only; omega)
  | false =>
    by_cases hn0 : i = 0
    ·rw [if_pos (by simp [stopP, hl, hn0])] at he;refine vr 3 ?_;refine cto 24 ?_;refine zN ?_;refine zP ?_;refine zY ?_;exact zm [_, _] ⟨rfl, rfl, trivial⟩ [] (Pick.nil _) ⟨by rw [← he]; rfl, rfl⟩
    ·refine vr 3 ?_;refine cfo 2 ?_;refine Cr cl52 rfl (fun m' hm he => (wT x)) ?_;rintro _ rfl;cases hd : digitP x with
     | true =>
       rw [if_neg (by simp [stopP, hl, hd, hn0])] at he;refine vr 14 ?_;refine Pa 3 ?_;exact QR (i + k, n + 1) (Pick.refl _) ⟨by simp only; omega, by simp only; omega, he⟩ (by simp only; omega)
     | false =>
       by_cases h39 : x = 39
       ·rw [if_neg (by simp [stopP, hl, hd, hn0, h39])] at he;refine vr 3 ?_;refine cfo 10 ?_;refine Pa 3 ?_;exact QR (i + k, n + 1) (Pick.refl _) ⟨by simp only; omega, by simp only; omega, he⟩ (by simp only; omega)
       ·rw [if_pos (by simp [stopP, hl, hd, hn0, h39])] at he;refine vr 3 ?_;refine cto 17 ?_;refine zN ?_;refine zP ?_;refine zY ?_;exact zm [_, _] ⟨rfl, rfl, trivial⟩ [] (Pick.nil _) ⟨by rw [← he]; rfl, rfl⟩
 ·rw [Zr hlt] at he;refine tr 2 ?_;refine zE (jT rfl (by first | assumption | omega) .here rfl ?_) rfl;refine vr 7 ?_;refine zC ?_;refine zB ?_;refine qt 4 ?_;refine pe 6 (zg rfl st9) ?_;exact zm [_, _] ⟨rfl, rfl, trivial⟩ [] (Pick.nil _) ⟨by rw [← he]; rfl, rfl⟩
theorem Y6 {s t : List UInt8} (h : t.length ≤ s.length) : decide (s.take t.length = t) = t.isPrefixOf s := by
 rw [Bool.eq_iff_iff, decide_eq_true_eq, List.isPrefixOf_iff_prefix, List.prefix_iff_eq_take];exact ⟨fun h => h.symm, fun h => h.symm⟩
theorem notPrefix {s t : List UInt8} (h : ¬ t.length ≤ s.length) : t.isPrefixOf s = false := by
 cases hp : t.isPrefixOf s with
 | false => rfl
 | true => exact absurd (List.IsPrefix.length_le (List.isPrefixOf_iff_prefix.1 hp)) h
theorem kn {m : Mp} {s t : List UInt8} : CS Tryz.prog 125 [.string (bs s), .string (bs t)] m [] (Gives (.bool (t.isPrefixOf s))) := by
 refine yI [.tmp 4] Tryz.func125 rfl rfl rfl ?_;by_cases h : t.length ≤ s.length
 ·rw [← Y6 h];refine tr 8 ?_;refine pe 1 (zg rfl st9) ?_;refine pe 0 (zg rfl st9) ?_;refine cto 3 ?_;refine pe 0 (zg rfl st9) ?_;refine pe 1 (WT _ st9 rfl rfl rfl (by omega)) ?_;refine pe 5 ((WU rfl rfl)) ?_;exact rt1 ⟨rfl, trivial⟩ ⟨rfl, rfl⟩
 ·rw [notPrefix h];refine tr 8 ?_;refine pe 1 (zg rfl st9) ?_;refine pe 0 (zg rfl st9) ?_;refine cfo 12 ?_;exact rt1 ⟨rfl, trivial⟩ ⟨rfl, rfl⟩
theorem Zx {m : Mp} {s t : List UInt8} : CS Tryz.prog 98 [.string (bs s), .string (bs t)] m [] (Gives (.bool (t.isPrefixOf s))) := by
 refine yI [.tmp 4] Tryz.func98 rfl rfl rfl ?_;refine tr 9 ?_;refine Cr cl125 rfl (fun m' hm he => kn) ?_;rintro _ rfl;refine vr 4 ?_;exact rt1 ⟨rfl, trivial⟩ ⟨rfl, rfl⟩
def strV (s : List UInt8) : Value := .string (bs s)
theorem X7 {t : List UInt8} {i : Nat} (h : i < marks.length) : (marks.drop i).find? (·.isPrefixOf t) = if marks[i].isPrefixOf t then some marks[i] else (marks.drop (i + 1)).find? (·.isPrefixOf t) := by
 rw [List.drop_eq_getElem_cons h, List.find?_cons]
 split <;> simp [*]
theorem mark_at {i : Nat} (h : i < marks.length) : vnth (marks.map strV) (((i : Nat) : Int).toNat * 1) = some (strV marks[i]) := by
 rw [← uQ]
 simp [h]
theorem mark_ok {m : Mp} {t : List UInt8} : CS Tryz.prog 53 [.string (bs t)] m [] (Gives (strV ((markP t).getD []))) := by
 refine yI [.tmp 2] Tryz.func53 rfl rfl rfl ?_;refine tr 8 ?_;refine pe 4 (WY ar128 zl128 rfl rfl) ?_
 refine zj (fun i : Nat => [(0, .string (bs t)), (5, .agg (marks.map strV).toArray), (6, .int .i64 (i : Nat))]) (fun _ => []) (fun i => i ≤ 13 ∧ markP t = (marks.drop i).find? (·.isPrefixOf t)) (fun i => 13 - i) 0
  ⟨rfl, rfl, rfl, trivial⟩ (Pick.refl _) ⟨Nat.zero_le _, rfl⟩ ?_
 rintro i ⟨hi, he⟩;by_cases hlt : i < 13
 ·have hl : i < marks.length := hlt;have hm := mark_at hl;rw [X7 hl] at he;refine tr 2 ?_;refine cto 10 ?_;refine pe 7 ((Q9 ar128 ars128 rfl rfl (by omega) (by omega) hm)) ?_;refine Cr cl98 rfl (fun m' hm he => Zx) ?_;rintro _ rfl;cases hp : (marks[i]'hl).isPrefixOf t with
  | true =>
    rw [hp, if_pos rfl] at he;refine vr 12 ?_;refine zN ?_;refine zP ?_;refine zY ?_;exact rt1 ⟨rfl, trivial⟩ ⟨by rw [he]; rfl, rfl⟩
  | false =>
    rw [hp, if_neg (by simp)] at he;refine vr 7 ?_;refine Pa 2 ?_;exact QR (i + 1) (Pick.refl _) ⟨by omega, he⟩ (by omega)
 ·have : i = 13 := by omega
  subst this;refine tr 2 ?_;refine cfo 6 ?_;refine zC ?_;refine zB ?_;refine qt 7 ?_;exact rt1 ⟨rfl, trivial⟩ ⟨by rw [he]; rfl, rfl⟩
end
end Go.Proofs.YtpgiokjfkcddeaaGreatDoor
namespace Go.Proofs
open Go.Shelf
def Tryz.laysM157_ren : Go.Shelf.Ren := ⟨fun | 157 => 137 | 229 => 159 | 199 => 160 | 261 => 177 | 311 => 184 | 312 => 185 | n => n, fun | 9 => 9 | 31 => 61 | 3 => 3 | 5 => 5 | 4 => 4 | 119 => 148 | 0 => 0 | 40 => 100 | 152 => 181 | 21 => 21 | 154 => 183 | 51 => 177 | 141 => 185 | 196 => 192 | 193 => 189 | 198 => 195 | 49 => 193 | 194 => 190 | 201 => 198 | 226 => 202 | 46 => 132 | 227 => 203 | n => n, fun | 0 => 2 | 6 => 5 | n => n⟩
theorem Tryz.laysM157 : Go.Proofs.LaysM.n157 Tryz.prog Tryz.laysM157_ren := {
 mixed := by kernel_rfl
 f157 := Tryz.func137.trans (congrArg some (by kernel_rfl))
 f199 := Tryz.func160.trans (congrArg some (by kernel_rfl))
 f229 := Tryz.func159.trans (congrArg some (by kernel_rfl))
 f261 := Tryz.func177.trans (congrArg some (by kernel_rfl))
 f311 := Tryz.func184.trans (congrArg some (by kernel_rfl))
 f312 := Tryz.func185.trans (congrArg some (by kernel_rfl))
 t0 := Tryz.underlying0
 a0 := Tryz.isAgg0
 z0 := Tryz.sizeOf0
 v0 := Tryz.zeroValue0
 t3 := Tryz.underlying3
 a3 := Tryz.isAgg3
 z3 := Tryz.sizeOf3
 v3 := Tryz.zeroValue3
 t4 := Tryz.underlying4
 a4 := Tryz.isAgg4
 z4 := Tryz.sizeOf4
 v4 := Tryz.zeroValue4
 t5 := Tryz.underlying5
 a5 := Tryz.isAgg5
 z5 := Tryz.sizeOf5
 v5 := Tryz.zeroValue5
 t9 := Tryz.underlying9
 a9 := Tryz.isAgg9
 z9 := Tryz.sizeOf9
 v9 := Tryz.zeroValue9
 t21 := Tryz.underlying21
 a21 := Tryz.isAgg21
 z21 := Tryz.sizeOf21
 v21 := Tryz.zeroValue21
 t31 := Tryz.underlying61
 a31 := Tryz.isAgg61
 z31 := Tryz.sizeOf61
 v31 := Tryz.zeroValue61
 t40 := Tryz.underlying100
 a40 := Tryz.isAgg100
 z40 := Tryz.sizeOf100
 v40 := Tryz.zeroValue100
 t46 := Tryz.underlying132
 a46 := Tryz.isAgg132
 z46 := Tryz.sizeOf132
 v46 := Tryz.zeroValue132
 t49 := Tryz.underlying193
 a49 := Tryz.isAgg193
 z49 := Tryz.sizeOf193
 v49 := Tryz.zeroValue193
 t51 := Tryz.underlying177
 a51 := Tryz.isAgg177
 z51 := Tryz.sizeOf177
 v51 := Tryz.zeroValue177
 t119 := Tryz.underlying148
 a119 := Tryz.isAgg148
 z119 := Tryz.sizeOf148
 t141 := Tryz.underlying185
 a141 := Tryz.isAgg185
 z141 := Tryz.sizeOf185
 v141 := Tryz.zeroValue185
 t152 := Tryz.underlying181
 a152 := Tryz.isAgg181
 z152 := Tryz.sizeOf181
 v152 := Tryz.zeroValue181
 t154 := Tryz.underlying183
 a154 := Tryz.isAgg183
 z154 := Tryz.sizeOf183
 v154 := Tryz.zeroValue183
 t193 := Tryz.underlying189
 a193 := Tryz.isAgg189
 z193 := Tryz.sizeOf189
 v193 := Tryz.zeroValue189
 t194 := Tryz.underlying190
 a194 := Tryz.isAgg190
 z194 := Tryz.sizeOf190
 v194 := Tryz.zeroValue190
 t196 := Tryz.underlying192
 a196 := Tryz.isAgg192
 z196 := Tryz.sizeOf192
 v196 := Tryz.zeroValue192
 t198 := Tryz.underlying195
 a198 := Tryz.isAgg195
 z198 := Tryz.sizeOf195
 v198 := Tryz.zeroValue195
 t201 := Tryz.underlying198
 a201 := Tryz.isAgg198
 z201 := Tryz.sizeOf198
 v201 := Tryz.zeroValue198
 t226 := Tryz.underlying202
 a226 := Tryz.isAgg202
 z226 := Tryz.sizeOf202
 v226 := Tryz.zeroValue202
 t227 := Tryz.underlying203
 a227 := Tryz.isAgg203
 z227 := Tryz.sizeOf203
 v227 := Tryz.zeroValue203
 g0 := by kernel_rfl
 g6 := by kernel_rfl
 i0 := by kernel_rfl
 i3 := by kernel_rfl
 i4 := by kernel_rfl
 i5 := by kernel_rfl
 i9 := by kernel_rfl
 i21 := by kernel_rfl
 i31 := by kernel_rfl
 i40 := by kernel_rfl
 i46 := by kernel_rfl
 i49 := by kernel_rfl
 i51 := by kernel_rfl
 i141 := by kernel_rfl
 i152 := by kernel_rfl
 i154 := by kernel_rfl
 i193 := by kernel_rfl
 i194 := by kernel_rfl
 i196 := by kernel_rfl
 i198 := by kernel_rfl
 i201 := by kernel_rfl
 i226 := by kernel_rfl
 i227 := by kernel_rfl
 m0 := by kernel_rfl
 m6 := by kernel_rfl }
open Go.RowKit Go.Lib in
theorem Tryz.strings_Fields_laid (s : ByteArray) (w : World) (hs : s.size < 4294967281) (hascii : ∀ (j : Nat) b, s.data.toList[j]? = some b → b.toNat < 128) (htab : Lib.TabIs Tryz.prog w "strings.asciiSpace" .u8 Lib.asciiSpaceTab) :
  Calls Tryz.prog 137 #[.string s] w fun e w' =>
   e = .returned (.slice (some ⟨w.heap.size, 0, none⟩) (Lib.fields s.data.toList).length (Lib.fields s.data.toList).length) ∧ w' = w.alloc (.cells ((Lib.fields s.data.toList).map fun l => Value.string ⟨l.toArray⟩).toArray 9) := Any.strings_Fields_laid Tryz.laysM157 s w hs hascii htab
def Tryz.lays197_ren : Go.Shelf.Ren := ⟨fun | 197 => 49 | 260 => 97 | n => n, fun | 9 => 9 | 21 => 21 | 3 => 3 | 4 => 4 | 5 => 5 | 105 => 98 | 119 => 148 | 0 => 0 | 46 => 132 | 139 => 151 | 138 => 150 | n => n, fun | 3 => 0 | 4 => 1 | n => n⟩
theorem Tryz.lays197 : Go.Proofs.Lays.n197 Tryz.prog Tryz.lays197_ren := {
 mixed := by kernel_rfl
 f197 := Tryz.func49.trans (congrArg some (by kernel_rfl))
 f260 := Tryz.func97.trans (congrArg some (by kernel_rfl))
 t0 := Tryz.underlying0
 a0 := Tryz.isAgg0
 z0 := Tryz.sizeOf0
 v0 := Tryz.zeroValue0
 t3 := Tryz.underlying3
 a3 := Tryz.isAgg3
 z3 := Tryz.sizeOf3
 v3 := Tryz.zeroValue3
 t4 := Tryz.underlying4
 a4 := Tryz.isAgg4
 z4 := Tryz.sizeOf4
 v4 := Tryz.zeroValue4
 t5 := Tryz.underlying5
 a5 := Tryz.isAgg5
 z5 := Tryz.sizeOf5
 v5 := Tryz.zeroValue5
 t9 := Tryz.underlying9
 a9 := Tryz.isAgg9
 z9 := Tryz.sizeOf9
 v9 := Tryz.zeroValue9
 t21 := Tryz.underlying21
 a21 := Tryz.isAgg21
 z21 := Tryz.sizeOf21
 v21 := Tryz.zeroValue21
 t46 := Tryz.underlying132
 a46 := Tryz.isAgg132
 z46 := Tryz.sizeOf132
 v46 := Tryz.zeroValue132
 t105 := Tryz.underlying98
 a105 := Tryz.isAgg98
 z105 := Tryz.sizeOf98
 v105 := Tryz.zeroValue98
 t119 := Tryz.underlying148
 a119 := Tryz.isAgg148
 z119 := Tryz.sizeOf148
 t138 := Tryz.underlying150
 a138 := Tryz.isAgg150
 z138 := Tryz.sizeOf150
 v138 := Tryz.zeroValue150
 t139 := Tryz.underlying151
 a139 := Tryz.isAgg151
 z139 := Tryz.sizeOf151
 v139 := Tryz.zeroValue151
 g3 := by kernel_rfl
 g4 := by kernel_rfl }
open Go.RowKit Go.Lib in
theorem Tryz.utf8_DecodeRuneInString (s : ByteArray) (w : World) (hT : Lib.Utf8Tabs 0 1 w) :
  Calls Tryz.prog 49 #[.string s] w fun e w' => e = .returned (.tuple #[.int .i32 (Lib.decodeGo s).1, .int .i64 (Lib.decodeGo s).2]) ∧ Below w.heap.size w w' := Any.utf8_DecodeRuneInString Tryz.lays197 s w hT
end Go.Proofs
namespace Go.Proofs.YtpgiokjfkcddeaaGreatDoor
open  Go.Eng
section
open Wd Go.RowKit
def Tabs (m : Mp) : Prop := ∀ w : World, Le m (mp w.heap) → Lib.TabIs Tryz.prog w "strings.asciiSpace" .u8 Lib.asciiSpaceTab ∧ Lib.Utf8Tabs 0 1 w
theorem Tabs.mono {m m' : Mp} (h : Tabs m) (hl : Le m m') : Tabs m' := fun w hw => h w (hl.trans hw)
theorem Za {P : Program} {f : FuncId} {args : Array Value} {h : Heap} {v : Value} (hc : ∀ w : World, w.heap = h → Calls P f args w fun e w' => e = .returned v ∧ Below w.heap.size w w') :
  C P f args h fun u h' => u = v ∧ Le (mp h) (mp h') := fun x d => by
 refine (hc (W x h d) rfl).mono ?_;rintro e w' ⟨rfl, hb⟩;refine ⟨v, w'.heap, w'.drawn, rfl, ?_, rfl, fun k o hk => ?_⟩
 ·show w' = ⟨w'.heap, x.tape, w'.drawn, x.os, x.out⟩;have h1 := hb.os;have h2 := hb.tape;have h3 := hb.output;simp only [W] at h1 h2 h3;rw [← h1, ← h2, ← h3]
 ·have h4 := hb.block k (xI hk);show w'.heap[k]? = some o;rw [h4];exact hk
theorem WH {m : Mp} {t : List UInt8} (hT : Tabs m) (h0 : 0 < t.length) : CS Tryz.prog 49 [.string (bs t)] m [] (Gives (.tuple [.int .i32 (dec t 0).1, .int .i64 (dec t 0).2].toArray)) := fun h hs => by
 refine (Za (v := .tuple [.int .i32 (dec t 0).1, .int .i64 (dec t 0).2].toArray) fun w hw => ?_).mono fun v h' ⟨h1, h2⟩ => ⟨[], ⟨h1, rfl⟩, HS.nil (hs.base.trans h2)⟩;subst hw;have := Tryz.utf8_DecodeRuneInString (bs t) w (hT w hs.base).2
 have e : Lib.decodeGo (bs t) = dec t 0 := by
  unfold Lib.decodeGo;rw [if_neg (by rw [xR]; omega), vL]
 rw [e] at this;exact this
theorem Vf {m : Mp} {s : List UInt8} (hT : Tabs m) (hl : s.length < 4294967281) (ha : ∀ b ∈ s, b.toNat < 128) :
  CS Tryz.prog 137 [.string (bs s)] m [] fun v L' => ∃ b, v = .slice (some ⟨b, 0, none⟩) (Lib.fields s).length (Lib.fields s).length ∧ L' = [cel b ((Lib.fields s).map strV) 9] := fun h hs x d => by
 have := Tryz.strings_Fields_laid (bs s) (W x h d) (by rw [xR]; exact hl) (fun j b hj => ha b (List.mem_of_getElem? (by simpa [bs] using hj))) (hT _ hs.base).1;refine this.mono ?_;rintro e w' ⟨rfl, rfl⟩;refine ⟨_, h.push (.cells ((Lib.fields s).map strV).toArray 9), d, rfl, rfl, _, ⟨h.size, rfl, rfl⟩, ?_⟩
 exact hs.new (e' := cel h.size ((Lib.fields s).map strV) 9) (wi h _) (yu h _) (fun k hk => by have := YA hk; subst this; exact uc h)
end
namespace Wd
open Go Go.Eng
def ownText : List UInt8 := [99, 97, 114, 100, 32, 117, 110, 105, 116, 32, 99, 104, 97, 114, 109, 32, 102, 111, 114, 109, 97, 116, 32, 112, 108, 97, 121, 101, 100, 32, 100, 101, 97, 100, 32, 100, 97, 119, 110, 32, 97, 117, 114, 97, 32, 115, 104, 105, 101, 108, 100, 32, 104, 97, 114, 109, 32, 109, 101, 110, 100, 32, 100, 114, 97, 119, 32, 103, 97, 105, 110, 32, 100, 114, 111, 112, 32, 108, 111, 111, 107, 32, 115, 104, 111, 119, 32, 115, 117, 109, 109, 111, 110, 32, 105, 102, 32, 101, 108, 115, 101, 32, 109, 101, 32, 102, 111, 101, 32, 116, 97, 114, 103, 101, 116, 32, 108, 105, 102, 101, 32, 104, 97, 110, 100, 32, 100, 101, 99, 107, 32, 117, 110, 105, 116, 115, 32, 109, 97, 110, 97, 32, 99, 111, 115, 116, 32, 116, 111, 112, 32, 112, 111, 119, 101, 114, 32, 109, 105, 110, 32, 109, 97, 120, 32, 110, 111, 116, 32, 97, 110, 100, 32, 111, 114, 32, 104, 111, 108, 100, 115, 32, 108, 101, 97, 115, 116, 32, 109, 111, 115, 116, 32, 99, 111, 112, 105, 101, 115, 32, 98, 97, 110, 110, 101, 100, 32, 115, 105, 110, 103, 108, 101]
def keysP : List (List UInt8) := [[99, 97, 114, 100], [117, 110, 105, 116], [99, 104, 97, 114, 109], [102, 111, 114, 109, 97, 116], [112, 108, 97, 121, 101, 100], [100, 101, 97, 100], [100, 97, 119, 110], [97, 117, 114, 97], [115, 104, 105, 101, 108, 100], [104, 97, 114, 109], [109, 101, 110, 100], [100, 114, 97, 119], [103, 97, 105, 110], [100, 114, 111, 112], [108, 111, 111, 107], [115, 104, 111, 119], [115, 117, 109, 109, 111, 110], [105, 102], [101, 108, 115, 101], [109, 101], [102, 111, 101], [116, 97, 114, 103, 101, 116], [108, 105, 102, 101], [104, 97, 110, 100], [100, 101, 99, 107], [117, 110, 105, 116, 115], [109, 97, 110, 97], [99, 111, 115, 116], [116, 111, 112], [112, 111, 119, 101, 114], [109, 105, 110], [109, 97, 120], [110, 111, 116], [97, 110, 100], [111, 114], [104, 111, 108, 100, 115], [108, 101, 97, 115, 116], [109, 111, 115, 116], [99, 111, 112, 105, 101, 115], [98, 97, 110, 110, 101, 100], [115, 105, 110, 103, 108, 101]]
theorem Y5 : Lib.fields ownText = keysP := by decide +kernel
theorem VL : ∀ b ∈ ownText, b.toNat < 128 := by decide +kernel
theorem U8 : ∀ i : Fin 41, keysP.getD i.val [] ∉ keysP.take i.val := by decide +kernel
def ownP (s : List UInt8) : Bool := decide (s ∈ keysP)
def entK (l : List (List UInt8)) : List (List UInt8 × Value) := l.map fun k => (k, .bool true)
theorem xV {k : List UInt8} : ∀ (l : List (List UInt8)) (i : Nat), k ∉ l → findM k i (entK l) = none
 | [], _, _ => rfl
 | a :: r, i, h => by
   have h1 : k ≠ a := fun e => h (by simp [e]);have h2 := xV r (i + 1) (fun e => h (List.mem_cons_of_mem _ e));simp only [entK, List.map_cons] at h2 ⊢;rw [findM, if_neg h1];exact h2
theorem Uj {i : Nat} (hi : i < 41) : putM (entK (keysP.take i)) (keysP.getD i []) (.bool true) = entK (keysP.take (i + 1)) := by
 have h := U8 ⟨i, hi⟩;unfold putM;rw [xV _ _ h];have hl : i < keysP.length := hi;simp only;rw [List.take_succ_eq_append_getElem hl];simp only [entK, List.map_append, List.map_cons, List.map_nil]
 congr 3
 simp [List.getD_eq_getElem?_getD, hl]
theorem kS {k : List UInt8} : ∀ (l : List (List UInt8)) (i : Nat), k ∈ l → ∃ j, findM k i (entK l) = some (j, .bool true)
 | [], _, h => by cases h
 | a :: r, i, h => by
   simp only [entK, List.map_cons];rw [findM];by_cases h1 : k = a
   ·exact ⟨i, by rw [if_pos h1]⟩
   ·rw [if_neg h1];exact kS r (i + 1) (by rcases List.mem_cons.1 h with h | h; exact absurd h h1; exact h)
theorem QL (s : List UInt8) : (getM (entK keysP) s).getD (.bool false) = .bool (ownP s) := by
 unfold getM ownP;by_cases h : s ∈ keysP
 ·obtain ⟨j, hj⟩ := kS keysP 0 h;rw [hj, decide_eq_true h]
  rfl
 ·rw [xV _ _ h, decide_eq_false h]
  rfl
end Wd
namespace Wd
def nameP (s : List UInt8) : Bool := decide (1 ≤ (nameGo s 0 0).2 ∧ (nameGo s 0 0).2 ≤ 24 ∧ (nameGo s 0 0).1 = s.length ∧ s.length ≤ 40) && !ownP s
end Wd
section
open Wd Go.RowKit
theorem key_at {i : Nat} (h : i < 41) : (keysP.map strV)[i]? = some (strV (keysP.getD i [])) := by
 have hl : i < keysP.length := h
 simp [List.getD_eq_getElem?_getD, hl]
theorem own_ok {m : Mp} (hT : Tabs m) : CS Tryz.prog 107 [] m [] fun v L' => ∃ b, v = .map (some b) ∧ L' = [smap b (entK keysP)] := by
 refine yI [.tmp 0] Tryz.func107 rfl rfl rfl ?_;refine tr 7 ?_;refine zE (vR rfl (fun b1 => ?_)) rfl;refine vr 6 ?_;have F := fun m' (hm : Le m m') => Vf (s := ownText) (hT.mono hm) (by decide +kernel) VL;rw [Y5, show keysP.length = 41 from rfl] at F;refine zE ((yK cl137 rfl (fun m' hm he => F m' hm) rfl ?_)) rfl;rintro _ _ ⟨b2, rfl, rfl⟩
 refine vr 5 ?_
 refine zj (fun i : Nat => [(1, .map (some b1)), (5, .slice (some ⟨b2, 0, none⟩) 41 41), (6, .int .i64 (41 : Nat)), (7, .int .i64 (i : Nat))]) (fun i => [cel b2 (keysP.map strV) 9, smap b1 (entK (keysP.take i))]) (fun i => i ≤ 41) (fun i => 41 - i) 0
  ⟨rfl, rfl, rfl, rfl, trivial⟩ (Pick.refl _) (Nat.zero_le _) ?_
 rintro i hi;by_cases hlt : i < 41
 ·have hk := key_at hlt;have hput := Uj hlt;refine tr 2 ?_;refine cto 10 ?_;refine pe 0 ((zD ez61 rfl rfl rfl (by omega))) ?_;refine lr 6 (jv sg9 rfl .here hk) ?_;refine zE (uJ ms129 rfl rfl rfl .h1 ?_) rfl;refine vr 4 ?_;refine Pa 2 ?_;exact QR (i + 1) (by rw [← hput]; exact Pick.refl _) (by omega) (by omega)
 ·have : i = 41 := by omega
  subst this;refine tr 2 ?_;refine cfo 6 ?_;refine zC ?_;refine zB ?_;refine qt 8 ?_;exact zm [_] ⟨rfl, trivial⟩ _ (Pick.cons .h1 (Pick.nil _)) ⟨b1, rfl, rfl⟩
theorem WZ {m : Mp} (hT : Tabs m) (s : List UInt8) : CS Tryz.prog 92 [.string (bs s)] m [] (Gives (.bool (ownP s))) := by
 refine yI [.tmp 2] Tryz.func92 rfl rfl rfl ?_;refine tr 7 ?_;refine zE ((yK cl107 rfl (fun m' hm he => own_ok (hT.mono hm)) rfl ?_)) rfl;rintro _ _ ⟨b2, rfl, rfl⟩;refine vr 1 ?_;refine lr 4 (XX ms129 rfl rfl .here mz129) ?_;rw [QL];skip;exact rt1 ⟨rfl, trivial⟩ ⟨rfl, rfl⟩
theorem xj {m : Mp} (hT : Tabs m) {s : List UInt8} (hs : s.length ≤ 140737488355328) : CS Tryz.prog 41 [.string (bs s)] m [] (Gives (.bool (nameP s))) := by
 refine yI [.tmp 2] Tryz.func41 rfl rfl rfl ?_;have e : lengthGo s 0 0 = nameGo s 0 0 := by have := Zq (s := s) (p := 0) (Nat.zero_le _); simpa using this
 have hle := (yw s 0 0).len (Nat.zero_le _);unfold nameP;by_cases hall : 1 ≤ (nameGo s 0 0).2 ∧ (nameGo s 0 0).2 ≤ 24 ∧ (nameGo s 0 0).1 = s.length ∧ s.length ≤ 40
 ·obtain ⟨a1, a2, a3, a4⟩ := hall;refine tr 8 ?_;refine Cr cl51 rfl (fun m' hm he => (e ▸ qy hs)) ?_;rintro _ rfl;refine vr 10 ?_;refine cto 2 ?_;refine cto 4 ?_;refine pe 0 (zg rfl st9) ?_;refine cto 3 ?_;refine cto 3 ?_;refine Cr cl92 rfl (fun m' hm he => (WZ (hT.mono hm) s)) ?_;rintro _ rfl;refine vr 6 ?_
  exact rt1 ⟨rfl, trivial⟩ ⟨by rw [decide_eq_true ⟨a1, a2, a3, a4⟩]; rfl, rfl⟩
 ·refine tr 8 ?_;refine Cr cl51 rfl (fun m' hm he => (e ▸ qy hs)) ?_;rintro _ rfl;refine vr 10 ?_;refine yU (W8 rfl rfl) rfl rfl rfl (fun hc1 => ?_) (fun hc1 => ?_);refine vr 2 ?_;refine yU (uO rfl rfl) rfl rfl rfl (fun hc2 => ?_) (fun hc2 => ?_);refine vr 4 ?_;refine pe 0 (zg rfl st9) ?_;refine yU (yn rfl rfl) rfl rfl rfl (fun hc3 => ?_) (fun hc3 => ?_)
  refine vr 3 ?_;refine cfo 10 ?_
  (exact rt1 ⟨rfl, trivial⟩ ⟨by rw [decide_eq_false hall]; rfl, rfl⟩)
  refine vr 14 ?_
  (exact rt1 ⟨rfl, trivial⟩ ⟨by rw [decide_eq_false hall]; rfl, rfl⟩)
  refine vr 20 ?_
  (exact rt1 ⟨rfl, trivial⟩ ⟨by rw [decide_eq_false hall]; rfl, rfl⟩)
  refine vr 23 ?_
  (exact rt1 ⟨rfl, trivial⟩ ⟨by rw [decide_eq_false hall]; rfl, rfl⟩)
end
section
open Wd Go.RowKit
def wV (w : Wrd) : List Value := [.int .i8 w.kind, .string (bs w.text), .int .i64 w.n, .int .i64 w.at_]
def wsV (ws : List Wrd) : List Value := ws.flatMap wV
theorem YV (ws : List Wrd) (w : Wrd) : wsV (ws ++ [w]) = wsV ws ++ wV w := by simp [wsV]
theorem Zb (ws : List Wrd) : (wsV ws).length = ws.length * 4 := by
 induction ws with
 | nil => rfl
 | cons w r ih => simp only [wsV, List.flatMap_cons, List.length_append, List.length_cons] at ih ⊢; rw [ih]; simp [wV]; omega
theorem vA (A : Option Addr) (c : Nat) (acc : List Wrd) (w : Wrd) : own 58 4 A (acc ++ [w]).length c (wsV (acc ++ [w])) = own 58 4 A (acc.length + 1) c (wsV acc ++ wV w) := by rw [YV]; simp
theorem y2 (acc : List Wrd) (w : Wrd) : (acc ++ [w]).length = acc.length + 1 := by simp
def faultV (e a : Int) : Value := .agg [.int .i64 e, .int .i64 a].toArray
def CutPost : Res → Value → List Ent → Prop
 | .error (e, a), v, L' => v = .tuple [.slice none 0 0, faultV e a].toArray ∧ L' = []
 | .ok ws, v, L' => ∃ A c, v = .tuple [.slice A ws.length c, faultV 0 0].toArray ∧ L' = [own 58 4 A ws.length c (wsV ws)]
theorem VF {s : List UInt8} {p : Nat} : rn s p = none ↔ (dec s p).1 = 65533 ∧ (dec s p).2 = 1 := by
 unfold dec;cases h : rn s p with
 | none => simp
 | some r =>
   obtain ⟨x, k⟩ := r;have := yh h
   simp
   omega
theorem XE (s : List UInt8) (p : Nat) : dec (s.drop p) 0 = dec s p := by unfold dec; rw [qQ, Nat.add_zero]
theorem JC {m : Mp} (hT : Tabs m) {s : List UInt8} (hs : s.length ≤ 9223372036854775807) : CS Tryz.prog 16 [.string (bs s)] m [] (CutPost (cutP s)) := by
 refine yI [.tmp 2, .cell 3 29] Tryz.func16 rfl rfl rfl ?_;by_cases hlong : 65536 < s.length
 ·have e : cutP s = .error (3, 0) := by rw [cutP, if_pos hlong]
  rw [e];refine tr 3 ?_;refine Al 6 zl29 fun b1 => ?_;refine pe 0 (zg rfl st9) ?_;refine cto 5 ?_;refine pe 1 (zT zl29 pl29 rfl rfl) ?_;refine Sg 4 ag29 .here ?_;exact zm [.slice none 0 0, faultV 3 0] ⟨rfl, ⟨b1, _, _, _, rfl, .here, .inr ⟨ag29, rfl⟩⟩, trivial⟩ [] (Pick.nil _) ⟨rfl, rfl⟩
 ·have e : cutP s = goI s 0 0 false [] := by rw [cutP, if_neg hlong, cut_eq]
  rw [e];refine tr 3 ?_;refine Al 6 zl29 fun b1 => ?_;refine pe 0 (zg rfl st9) ?_;refine cfo 20 ?_;refine zE (ju st9 rfl rfl (fun b2 => ?_)) rfl;refine vr 3 ?_;refine xK 58 4 ?_
  refine zj (fun y : (Nat × Nat × Bool) × List Wrd × Option Addr × Nat => [(0, .string (bs s)), (3, .pointer (some ⟨b1, 0, none⟩)), (4, .slice y.2.2.1 y.2.1.length y.2.2.2), (5, .int .i64 (y.1.2.1 : Nat)), (6, .bool y.1.2.2), (21, .pointer (some ⟨b2, 0, none⟩))])
   (fun y => [own 58 4 y.2.2.1 y.2.1.length y.2.2.2 (wsV y.2.1), iter b2 s y.1.1, cel b1 [.int .i64 0, .int .i64 0] 29])
   (fun y => y.1.1 ≤ s.length ∧ y.1.2.1 ≤ s.length ∧ y.2.1.length ≤ y.1.1 ∧ goI s y.1.1 y.1.2.1 y.1.2.2 y.2.1 = goI s 0 0 false []) (fun y => s.length - y.1.1) ((0, 0, false), [], none, 0)
   ⟨rfl, rfl, rfl, rfl, rfl, rfl, trivial⟩ (Pick.refl _) ⟨Nat.zero_le _, Nat.zero_le _, Nat.zero_le _, rfl⟩ ?_
  rintro ⟨⟨p, skip, rem⟩, acc, A, c⟩ ⟨hp, hsk, hacc, he⟩;simp only at hp hsk hacc he ⊢;generalize goI s 0 0 false [] = FIN at *;by_cases hlt : p < s.length
  ·have hdp := uh s p;have hdl := QU hlt;have hdq := vL s p;rw [goI, if_pos hlt] at he;refine tr 2 ?_;refine zE (qn rfl (by first | assumption | omega) (by assumption) .h1 rfl ?_) rfl;refine vr 23 ?_
   refine qm (fun y : Unit => [(0, .string (bs s)), (3, .pointer (some ⟨b1, 0, none⟩)), (4, .slice A acc.length c), (5, .int .i64 (skip : Nat)), (6, .bool rem), (7, .int .i64 (p : Nat)), (8, .int .i32 ((dec s p).1 : Nat)), (9, .bool (rn s p).isNone), (21, .pointer (some ⟨b2, 0, none⟩))])
    (fun y => [own 58 4 A acc.length c (wsV acc), iter b2 s (p + (dec s p).2), cel b1 [.int .i64 0, .int .i64 0] 29]) (fun _ => True) ?_ ?_
   ·have hsl := VF (s := s) (p := p);have hd0 := XE s p;generalize dec s p = r at *;obtain ⟨x, k⟩ := r;simp only at hdp hdl hsl ⊢;by_cases hx : x = 65533
    ·refine tr 2 ?_;refine cto 7 ?_;refine pe 0 (vk _ st9 rfl rfl rfl (by omega)) ?_
     have F : ∀ m', Le m m' → CS Tryz.prog 49 [.string (bs (s.drop p))] m' [] (Gives (.tuple [.int .i32 (x : Nat), .int .i64 (k : Nat)].toArray)) := fun m' hm => by
      have := WH (t := s.drop p) (hT.mono hm) (by simp; omega);rw [hd0] at this;exact this
     refine Cr cl49 rfl (fun m' hm he => (F m' hm)) ?_;rintro _ rfl;by_cases hk : k = 1
     ·have hn : (rn s p).isNone = true := by rw [hsl.2 ⟨hx, hk⟩]; rfl
      rw [hn];refine vr 9 ?_;refine cto 2 ?_;exact QR () (Pick.refl _) trivial Nat.zero_lt_one
     ·have hn : (rn s p).isNone = false := by cases hr : rn s p with | none => exact absurd (hsl.1 hr).2 hk | some _ => rfl
      rw [hn];refine vr 9 ?_;refine cfo 2 ?_;exact QR () (Pick.refl _) trivial Nat.zero_lt_one
    ·have hn : (rn s p).isNone = false := by cases hr : rn s p with | none => exact absurd (hsl.1 hr).1 hx | some _ => rfl
     rw [hn];refine tr 2 ?_;refine cfo 4 ?_;exact QR () (Pick.refl _) trivial Nat.zero_lt_one
   ·rintro _ _;by_cases hps : p < skip
    ·rw [if_pos hps] at he;refine tr 5 ?_;refine cto 7 ?_;exact QR ((p + (dec s p).2, skip, rem), acc, A, c) (Pick.refl _) ⟨hdl, hsk, by simp only; omega, he⟩ (by simp only; omega)
    ·rw [if_neg hps] at he;cases hr : rn s p with
     | none =>
       rw [hr] at he;simp only at he;subst he;refine tr 5 ?_;refine cfo 14 ?_;refine pe 1 (zT zl29 pl29 rfl rfl) ?_;refine Sg 5 ag29 .h2 ?_;refine zN ?_;refine zP ?_;refine zY ?_;exact zm [.slice none 0 0, faultV 110 p] ⟨rfl, ⟨b1, _, _, _, rfl, .h2, .inr ⟨ag29, rfl⟩⟩, trivial⟩ [] (Pick.nil _) ⟨rfl, rfl⟩
     | some r =>
       obtain ⟨x, k⟩ := r;have hpos := yh hr;rw [hr] at he;rw [vM hr] at hdp hdl he ⊢;simp only at he hdp hdl ⊢;cases rem with
       | true =>
         rw [if_pos rfl] at he;by_cases h10 : x = 10
         ·rw [decide_eq_false (by omega)] at he;refine tr 5 ?_;refine cfo 20 ?_;refine cfo 4 ?_;exact QR ((p + k, skip, false), acc, A, c) (Pick.refl _) ⟨by simp only; omega, hsk, by simp only; omega, he⟩ (by simp only; omega)
         ·rw [decide_eq_true h10] at he;refine tr 5 ?_;refine cfo 20 ?_;refine cto 4 ?_;exact QR ((p + k, skip, true), acc, A, c) (Pick.refl _) ⟨by simp only; omega, hsk, by simp only; omega, he⟩ (by simp only; omega)
       | false =>
         rw [if_neg (by simp)] at he;by_cases hsp : isSp x = true
         ·simp only [stepI, if_pos hsp] at he;have hx4 : x = 32 ∨ x = 10 ∨ x = 13 ∨ x = 9 := of_decide_eq_true hsp;refine tr 5 ?_;refine cfo 21 ?_;refine yU (yn rfl rfl) rfl rfl rfl (fun hc1 => ?_) (fun hc1 => ?_);refine vr 19 ?_
          (exact QR ((p + k, skip, false), acc, A, c) (Pick.refl _) ⟨by simp only; omega, hsk, by simp only; omega, he⟩ (by simp only; omega))
          refine vr 2 ?_;refine yU (yn rfl rfl) rfl rfl rfl (fun hc2 => ?_) (fun hc2 => ?_);refine vr 16 ?_
          (exact QR ((p + k, skip, false), acc, A, c) (Pick.refl _) ⟨by simp only; omega, hsk, by simp only; omega, he⟩ (by simp only; omega))
          refine vr 3 ?_;refine yU (yn rfl rfl) rfl rfl rfl (fun hc3 => ?_) (fun hc3 => ?_);refine vr 12 ?_
          (exact QR ((p + k, skip, false), acc, A, c) (Pick.refl _) ⟨by simp only; omega, hsk, by simp only; omega, he⟩ (by simp only; omega))
          refine vr 3 ?_;refine cto 8 ?_
          (exact QR ((p + k, skip, false), acc, A, c) (Pick.refl _) ⟨by simp only; omega, hsk, by simp only; omega, he⟩ (by simp only; omega))
         ·have hx4 : ¬ (x = 32 ∨ x = 10 ∨ x = 13 ∨ x = 9) := fun h => hsp (decide_eq_true h);by_cases h35 : x = 35
          ·simp only [stepI, if_neg hsp, if_pos h35] at he;refine tr 5 ?_;refine cfo 21 ?_;refine cfo 2 ?_;refine cfo 3 ?_;refine cfo 3 ?_;refine cfo 8 ?_;refine cto 9 ?_;exact QR ((p + k, skip, true), acc, A, c) (Pick.refl _) ⟨by simp only; omega, hsk, by simp only; omega, he⟩ (by simp only; omega)
          ·cases hl : letterP x with
           | true =>
             simp only [stepI, if_neg hsp, if_neg h35, if_pos hl] at he;have hne := Zq (s := s) (p := p) hp;have hnl := (yw s p 0).len hp;rw [← hne] at hnl;simp only at hnl;refine tr 5 ?_;refine cfo 21 ?_;refine cfo 2 ?_;refine cfo 3 ?_;refine cfo 3 ?_;refine cfo 8 ?_;refine cfo 7 ?_;refine Cr cl50 rfl (fun m' hm he => (ud x)) ?_;rintro _ rfl;rw [hl];refine vr 8 ?_
             refine pe 0 (vk _ st9 rfl rfl rfl (by omega)) ?_;refine Cr cl51 rfl (fun m' hm he => (qy (t := s.drop p) (by simp; omega))) ?_;rintro _ rfl;generalize lengthGo (s.drop p) 0 0 = r at *;obtain ⟨q, k2⟩ := r;simp only [stepN] at he hnl;by_cases hbad : 24 < k2 ∨ 40 < p + q - p
             ·rw [if_pos hbad] at he;simp only at he;subst he;refine vr 11 ?_;refine yU (W8 rfl rfl) rfl rfl rfl (fun hc1 => ?_) (fun hc1 => ?_);refine vr 10 ?_;refine pe 1 (zT zl29 pl29 rfl rfl) ?_;refine Sg 6 ag29 .h2 ?_;refine zN ?_;refine zP ?_;refine zY ?_
              (exact zm [.slice none 0 0, faultV 3 p] ⟨rfl, ⟨b1, _, _, _, rfl, .h2, .inr ⟨ag29, rfl⟩⟩, trivial⟩ [] (Pick.nil _) ⟨rfl, rfl⟩)
              refine vr 2 ?_;refine cto 7 ?_;refine pe 1 (zT zl29 pl29 rfl rfl) ?_;refine Sg 6 ag29 .h2 ?_;refine zN ?_;refine zP ?_;refine zY ?_
              (exact zm [.slice none 0 0, faultV 3 p] ⟨rfl, ⟨b1, _, _, _, rfl, .h2, .inr ⟨ag29, rfl⟩⟩, trivial⟩ [] (Pick.nil _) ⟨rfl, rfl⟩)
             ·rw [if_neg hbad] at he;simp only at he;refine vr 11 ?_;refine cfo 2 ?_;refine cfo 13 ?_;refine pe 0 (zi rfl rfl (by omega)) ?_;refine pe 1 (Xb _ _ st9 rfl rfl rfl rfl rfl (by omega) (by omega)) ?_;refine pe 0 (zT zl58 pl58 rfl rfl) ?_;refine Bs 0 sl51 fun b3 => ?_
              refine zE (yg sl51 rfl rfl rfl rfl .here (fun _ _ => .h1) rfl rfl (by first | omega | (simp only [maxLen]; omega)) (by omega) rfl (fun A1 c1 => ?_)) rfl;refine vr 6 ?_;refine pe 4 (zi rfl rfl (by omega)) ?_
              exact z7 ((p + k, p + q, false), acc ++ [⟨1, seg s p (p + q), 0, p⟩], A1, c1) ⟨rfl, rfl, by simp only [y2]; rfl, rfl, rfl, rfl, trivial⟩ (by simp only [vA]; exact Pick.drop) ⟨by simp only; omega, by simp only; omega, by simp only [y2]; omega, he⟩ (by simp only; omega)
           | false =>
             cases hd : digitP x with
             | true =>
               have hx8 := qf hd;have hk1 : k = 1 := by omega
               subst hk1;have hxb : x = by_ s p := by omega
               simp only [stepI, if_neg hsp, if_neg h35, hl, hd, Bool.false_eq_true, if_false, if_true] at he;refine tr 5 ?_;refine cfo 21 ?_;refine cfo 2 ?_;refine cfo 3 ?_;refine cfo 3 ?_;refine cfo 8 ?_;refine cfo 7 ?_;refine Cr cl50 rfl (fun m' hm he => (ud x)) ?_;rintro _ rfl;rw [hl];refine vr 7 ?_;refine Cr cl52 rfl (fun m' hm he => (wT x)) ?_;rintro _ rfl;rw [hd];refine vr 17 ?_
               refine zj (fun y : Nat × Nat => [(0, .string (bs s)), (3, .pointer (some ⟨b1, 0, none⟩)), (4, .slice A acc.length c), (5, .int .i64 (y.1 : Nat)), (6, .bool false), (7, .int .i64 (p : Nat)), (8, .int .i32 (x : Nat)), (14, .int .i64 (y.2 : Nat)), (21, .pointer (some ⟨b2, 0, none⟩))])
                (fun _ => [own 58 4 A acc.length c (wsV acc), iter b2 s (p + 1), cel b1 [.int .i64 0, .int .i64 0] 29]) (fun y => p ≤ y.1 ∧ y.1 ≤ s.length ∧ y.2 ≤ 1000 ∧ digGo s y.1 y.2 = digGo s p 0) (fun y => s.length - y.1) (p, 0)
                ⟨rfl, rfl, rfl, rfl, rfl, rfl, rfl, rfl, rfl, trivial⟩ (Pick.refl _) ⟨Nat.le_refl _, hp, Nat.zero_le _, rfl⟩ ?_
               rintro ⟨q, n⟩ ⟨hpq, hq, hn, hdg⟩;simp only at hpq hq hn hdg ⊢;have hbq := kf s q;have fin : ¬ (q < s.length ∧ digitP (by_ s q) = true) → digGo s p 0 = (q, n) := fun h => by rw [← hdg, digGo, if_neg h]
               by_cases hql : q < s.length
               ·cases hdq2 : digitP (by_ s q) with
                | true =>
                  have hb2 : 48 ≤ by_ s q ∧ by_ s q ≤ 57 := of_decide_eq_true hdq2;rw [digGo, if_pos ⟨hql, hdq2⟩] at hdg;have hmin : ((min (n * 10 + (by_ s q - 48)) 1000 : Nat) : Int) = min ((n : Int) * 10 + ((by_ s q - 48 : Nat) : Int)) 1000 := by omega
                  refine tr 5 ?_;refine pe 0 (zg rfl st9) ?_;refine cto 3 ?_;refine pe 0 (xL rfl rfl st9 (by omega)) ?_;refine pe 0 (vo us5 ik21 rfl (w32 (by omega) (by omega))) ?_;refine Cr cl52 rfl (fun m' hm he => (wT (by_ s q))) ?_;rintro _ rfl;rw [hdq2];refine vr 10 ?_;refine pe 2 (P_mul rfl rfl (w64 (by omega) (by omega))) ?_
                  refine pe 0 (xL rfl rfl st9 (by omega)) ?_;refine pe 0 ((uM rfl rfl (show IntKind.u8.wrap ((by_ s q : Nat) - 48) = ((by_ s q - 48 : Nat) : Int) by rw [wu8 (by omega) (by omega)]; omega))) ?_;refine pe 0 (vo us5 ik3 rfl (w64 (by omega) (by omega))) ?_;refine Pa 0 ?_;refine pe 6 (vm rfl rfl) ?_;refine Pa 2 ?_
                  exact z7 (q + 1, min (n * 10 + (by_ s q - 48)) 1000) ⟨rfl, rfl, rfl, rfl, rfl, rfl, rfl, by rw [hmin]; rfl, rfl, trivial⟩ (Pick.refl _) ⟨by simp only; omega, by simp only; omega, by simp only; omega, hdg⟩ (by simp only; omega)
                | false =>
                  have hf := fin (by rw [hdq2]; simp);rw [hf] at he;simp only [stepD] at he;by_cases hz : by_ s p = 48 ∧ p + 1 < q
                  ·rw [if_pos hz] at he;simp only at he;subst he;refine tr 5 ?_;refine pe 0 (zg rfl st9) ?_;refine cto 3 ?_;refine pe 0 (xL rfl rfl st9 (by omega)) ?_;refine pe 0 (vo us5 ik21 rfl (w32 (by omega) (by omega))) ?_;refine Cr cl52 rfl (fun m' hm he => (wT (by_ s q))) ?_;rintro _ rfl;rw [hdq2];refine vr 6 ?_;refine zC ?_;refine zB ?_
                   refine qt 6 ?_;refine cto 3 ?_;refine Pa 0 ?_;refine cto 8 ?_;refine pe 1 (zT zl29 pl29 rfl rfl) ?_;refine Sg 7 ag29 .h2 ?_;refine zN ?_;refine zP ?_;refine zY ?_;exact zm [.slice none 0 0, faultV 110 p] ⟨rfl, ⟨b1, _, _, _, rfl, .h2, .inr ⟨ag29, rfl⟩⟩, trivial⟩ [] (Pick.nil _) ⟨rfl, rfl⟩
                  ·rw [if_neg hz] at he;by_cases h9 : 999 < n
                   ·rw [if_pos h9] at he;simp only at he;subst he;refine tr 5 ?_;refine pe 0 (zg rfl st9) ?_;refine cto 3 ?_;refine pe 0 (xL rfl rfl st9 (by omega)) ?_;refine pe 0 (vo us5 ik21 rfl (w32 (by omega) (by omega))) ?_;refine Cr cl52 rfl (fun m' hm he => (wT (by_ s q))) ?_;rintro _ rfl;rw [hdq2];refine vr 6 ?_;refine zC ?_;refine zB ?_
                    refine qt 6 ?_;refine yU (yn rfl rfl) rfl rfl rfl (fun hc1 => ?_) (fun hc1 => ?_);refine vr 3 ?_;refine Pa 0 ?_;refine cfo 8 ?_;refine cto 7 ?_;refine pe 1 (zT zl29 pl29 rfl rfl) ?_;refine Sg 7 ag29 .h2 ?_;refine zN ?_;refine zP ?_;refine zY ?_
                    (exact zm [.slice none 0 0, faultV 3 p] ⟨rfl, ⟨b1, _, _, _, rfl, .h2, .inr ⟨ag29, rfl⟩⟩, trivial⟩ [] (Pick.nil _) ⟨rfl, rfl⟩)
                    refine vr 13 ?_;refine cto 7 ?_;refine pe 1 (zT zl29 pl29 rfl rfl) ?_;refine Sg 7 ag29 .h2 ?_;refine zN ?_;refine zP ?_;refine zY ?_
                    (exact zm [.slice none 0 0, faultV 3 p] ⟨rfl, ⟨b1, _, _, _, rfl, .h2, .inr ⟨ag29, rfl⟩⟩, trivial⟩ [] (Pick.nil _) ⟨rfl, rfl⟩)
                   ·rw [if_neg h9] at he;simp only at he;refine tr 5 ?_;refine pe 0 (zg rfl st9) ?_;refine cto 3 ?_;refine pe 0 (xL rfl rfl st9 (by omega)) ?_;refine pe 0 (vo us5 ik21 rfl (w32 (by omega) (by omega))) ?_;refine Cr cl52 rfl (fun m' hm he => (wT (by_ s q))) ?_;rintro _ rfl;rw [hdq2];refine vr 6 ?_;refine zC ?_;refine zB ?_;refine qt 6 ?_
                    refine yU (yn rfl rfl) rfl rfl rfl (fun hc1 => ?_) (fun hc1 => ?_);refine vr 3 ?_;refine Pa 0 ?_;refine cfo 8 ?_;refine cfo 11 ?_;refine pe 0 (zT zl58 pl58 rfl rfl) ?_;refine Bs 0 sl51 fun b3 => ?_;refine zE (yg sl51 rfl rfl rfl rfl .here (fun _ _ => .h1) rfl rfl (by first | omega | (simp only [maxLen]; omega)) (by omega) rfl (fun A1 c1 => ?_)) rfl
                    refine vr 4 ?_
                    (exact z7 ((p + 1, q, false), acc ++ [⟨2, [], n, p⟩], A1, c1) ⟨rfl, rfl, by simp only [y2]; rfl, rfl, rfl, rfl, trivial⟩ (by simp only [vA]; exact Pick.drop) ⟨by simp only; omega, by simp only; omega, by simp only [y2]; omega, he⟩ (by simp only; omega))
                    refine vr 13 ?_;refine cfo 11 ?_;refine pe 0 (zT zl58 pl58 rfl rfl) ?_;refine Bs 0 sl51 fun b3 => ?_;refine zE (yg sl51 rfl rfl rfl rfl .here (fun _ _ => .h1) rfl rfl (by first | omega | (simp only [maxLen]; omega)) (by omega) rfl (fun A1 c1 => ?_)) rfl;refine vr 4 ?_
                    (exact z7 ((p + 1, q, false), acc ++ [⟨2, [], n, p⟩], A1, c1) ⟨rfl, rfl, by simp only [y2]; rfl, rfl, rfl, rfl, trivial⟩ (by simp only [vA]; exact Pick.drop) ⟨by simp only; omega, by simp only; omega, by simp only [y2]; omega, he⟩ (by simp only; omega))
               ·have hf := fin (by omega);rw [hf] at he;simp only [stepD] at he;by_cases hz : by_ s p = 48 ∧ p + 1 < q
                ·rw [if_pos hz] at he;simp only at he;subst he;refine tr 5 ?_;refine pe 0 (zg rfl st9) ?_;refine cfo 12 ?_;refine zC ?_;refine zB ?_;refine qt 6 ?_;refine cto 3 ?_;refine Pa 0 ?_;refine cto 8 ?_;refine pe 1 (zT zl29 pl29 rfl rfl) ?_;refine Sg 7 ag29 .h2 ?_;refine zN ?_;refine zP ?_;refine zY ?_
                 exact zm [.slice none 0 0, faultV 110 p] ⟨rfl, ⟨b1, _, _, _, rfl, .h2, .inr ⟨ag29, rfl⟩⟩, trivial⟩ [] (Pick.nil _) ⟨rfl, rfl⟩
                ·rw [if_neg hz] at he;by_cases h9 : 999 < n
                 ·rw [if_pos h9] at he;simp only at he;subst he;refine tr 5 ?_;refine pe 0 (zg rfl st9) ?_;refine cfo 12 ?_;refine zC ?_;refine zB ?_;refine qt 6 ?_;refine yU (yn rfl rfl) rfl rfl rfl (fun hc1 => ?_) (fun hc1 => ?_);refine vr 3 ?_;refine Pa 0 ?_;refine cfo 8 ?_;refine cto 7 ?_;refine pe 1 (zT zl29 pl29 rfl rfl) ?_;refine Sg 7 ag29 .h2 ?_
                  refine zN ?_;refine zP ?_;refine zY ?_
                  (exact zm [.slice none 0 0, faultV 3 p] ⟨rfl, ⟨b1, _, _, _, rfl, .h2, .inr ⟨ag29, rfl⟩⟩, trivial⟩ [] (Pick.nil _) ⟨rfl, rfl⟩)
                  refine vr 13 ?_;refine cto 7 ?_;refine pe 1 (zT zl29 pl29 rfl rfl) ?_;refine Sg 7 ag29 .h2 ?_;refine zN ?_;refine zP ?_;refine zY ?_
                  (exact zm [.slice none 0 0, faultV 3 p] ⟨rfl, ⟨b1, _, _, _, rfl, .h2, .inr ⟨ag29, rfl⟩⟩, trivial⟩ [] (Pick.nil _) ⟨rfl, rfl⟩)
                 ·rw [if_neg h9] at he;simp only at he;refine tr 5 ?_;refine pe 0 (zg rfl st9) ?_;refine cfo 12 ?_;refine zC ?_;refine zB ?_;refine qt 6 ?_;refine yU (yn rfl rfl) rfl rfl rfl (fun hc1 => ?_) (fun hc1 => ?_);refine vr 3 ?_;refine Pa 0 ?_;refine cfo 8 ?_;refine cfo 11 ?_;refine pe 0 (zT zl58 pl58 rfl rfl) ?_;refine Bs 0 sl51 fun b3 => ?_
                  refine zE (yg sl51 rfl rfl rfl rfl .here (fun _ _ => .h1) rfl rfl (by first | omega | (simp only [maxLen]; omega)) (by omega) rfl (fun A1 c1 => ?_)) rfl;refine vr 4 ?_
                  (exact z7 ((p + 1, q, false), acc ++ [⟨2, [], n, p⟩], A1, c1) ⟨rfl, rfl, by simp only [y2]; rfl, rfl, rfl, rfl, trivial⟩ (by simp only [vA]; exact Pick.drop) ⟨by simp only; omega, by simp only; omega, by simp only [y2]; omega, he⟩ (by simp only; omega))
                  refine vr 13 ?_;refine cfo 11 ?_;refine pe 0 (zT zl58 pl58 rfl rfl) ?_;refine Bs 0 sl51 fun b3 => ?_;refine zE (yg sl51 rfl rfl rfl rfl .here (fun _ _ => .h1) rfl rfl (by first | omega | (simp only [maxLen]; omega)) (by omega) rfl (fun A1 c1 => ?_)) rfl;refine vr 4 ?_
                  (exact z7 ((p + 1, q, false), acc ++ [⟨2, [], n, p⟩], A1, c1) ⟨rfl, rfl, by simp only [y2]; rfl, rfl, rfl, rfl, trivial⟩ (by simp only [vA]; exact Pick.drop) ⟨by simp only; omega, by simp only; omega, by simp only [y2]; omega, he⟩ (by simp only; omega))
             | false =>
               simp only [stepI, if_neg hsp, if_neg h35, hl, hd, Bool.false_eq_true, if_false] at he;refine tr 5 ?_;refine cfo 21 ?_;refine cfo 2 ?_;refine cfo 3 ?_;refine cfo 3 ?_;refine cfo 8 ?_;refine cfo 7 ?_;refine Cr cl50 rfl (fun m' hm he => (ud x)) ?_;rintro _ rfl;rw [hl];refine vr 7 ?_;refine Cr cl52 rfl (fun m' hm he => (wT x)) ?_;rintro _ rfl;rw [hd];refine vr 8 ?_
               refine pe 0 (vk _ st9 rfl rfl rfl (by omega)) ?_;refine Cr cl53 rfl (fun m' hm he => (mark_ok (t := s.drop p))) ?_;rintro _ rfl;unfold stepM at he;cases hmk : markP (s.drop p) with
               | none =>
                 rw [hmk] at he;simp only at he;subst he;simp only [Option.getD_none];refine vr 7 ?_;refine ctr 6 ?_;refine pe 1 (zT zl29 pl29 rfl rfl) ?_;refine Sg 6 ag29 .h2 ?_;refine zN ?_;refine zP ?_;refine zY ?_;exact zm [.slice none 0 0, faultV 110 p] ⟨rfl, ⟨b1, _, _, _, rfl, .h2, .inr ⟨ag29, rfl⟩⟩, trivial⟩ [] (Pick.nil _) ⟨rfl, rfl⟩
               | some mk =>
                 rw [hmk] at he
                 have hst : stepR s p = .next (p + mk.length) [⟨3, mk, 0, p⟩] := by
                  unfold stepR;rw [hr];simp only [if_neg hsp, if_neg h35, hl, hd, Bool.false_eq_true, if_false];unfold stepM;rw [hmk]
                 obtain ⟨g1, g2⟩ := xC hlt hst;have g3 := g2.len hp;have hne : ¬ mk = [] := by rintro rfl; simp at g1
                 simp only at he;simp only [Option.getD_some];refine vr 7 ?_;refine pe 10 ((df (WU rfl rfl) hne)) ?_;refine pe 0 (zT zl58 pl58 rfl rfl) ?_;refine Bs 0 sl51 fun b3 => ?_;refine zE (yg sl51 rfl rfl rfl rfl .here (fun _ _ => .h1) rfl rfl (by first | omega | (simp only [maxLen]; omega)) (by omega) rfl (fun A1 c1 => ?_)) rfl;refine vr 6 ?_
                 refine pe 0 (zg rfl st9) ?_;refine pe 4 (zi rfl rfl (by omega)) ?_;exact z7 ((p + k, p + mk.length, false), acc ++ [⟨3, mk, 0, p⟩], A1, c1) ⟨rfl, rfl, by simp only [y2]; rfl, rfl, rfl, rfl, trivial⟩ (by simp only [vA]; exact Pick.drop) ⟨by simp only; omega, by simp only; omega, by simp only [y2]; omega, he⟩ (by simp only; omega)
  ·rw [Z0 hlt] at he;subst he;refine tr 2 ?_;refine zE (jT rfl (by first | assumption | omega) .h1 rfl ?_) rfl;refine vr 7 ?_;refine zC ?_;refine zB ?_;refine qt 5 ?_;refine pe 0 (zg rfl st9) ?_;refine pe 0 (zT zl58 pl58 rfl rfl) ?_;refine Bs 0 sl51 fun b3 => ?_
   refine zE (yg sl51 rfl rfl rfl rfl .here (fun _ _ => .h1) rfl rfl (by first | omega | (simp only [maxLen]; omega)) (by omega) rfl (fun A1 c1 => ?_)) rfl;refine pe 1 (zT zl29 pl29 rfl rfl) ?_;refine Sg 3 ag29 .h3 ?_
   refine zm [.slice A1 (acc.length + 1) c1, faultV 0 0] ⟨rfl, ⟨b1, _, _, _, rfl, .h3, .inr ⟨ag29, rfl⟩⟩, trivial⟩ [own 58 4 A1 (acc.length + 1) c1 (wsV acc ++ wV ⟨0, [], 0, s.length⟩)] (Pick.cons .h1 (Pick.nil _)) ⟨A1, c1, ?_, ?_⟩
   ·simp [tup]
   ·rw [YV]; simp
end
section
open Wd Go.RowKit
end
namespace Tp
open Go Go.Eng Wd
abbrev sPlus : List UInt8 := [43]
abbrev sMinus : List UInt8 := [45]
abbrev sStar : List UInt8 := [42]
abbrev sOpen : List UInt8 := [40]
abbrev sClose : List UInt8 := [41]
abbrev sComma : List UInt8 := [44]
abbrev sSlash : List UInt8 := [47]
abbrev sSemi : List UInt8 := [59]
abbrev sLb : List UInt8 := [123]
abbrev sRb : List UInt8 := [125]
abbrev sLt : List UInt8 := [60]
abbrev sLe : List UInt8 := [60, 61]
abbrev sEq : List UInt8 := [61, 61]
abbrev sLife : List UInt8 := [108, 105, 102, 101]
abbrev sHand : List UInt8 := [104, 97, 110, 100]
abbrev sDeck : List UInt8 := [100, 101, 99, 107]
abbrev sUnits : List UInt8 := [117, 110, 105, 116, 115]
abbrev sMana : List UInt8 := [109, 97, 110, 97]
abbrev sCost : List UInt8 := [99, 111, 115, 116]
abbrev sPower : List UInt8 := [112, 111, 119, 101, 114]
abbrev sMin : List UInt8 := [109, 105, 110]
abbrev sMax : List UInt8 := [109, 97, 120]
abbrev sMe : List UInt8 := [109, 101]
abbrev sFoe : List UInt8 := [102, 111, 101]
abbrev sTop : List UInt8 := [116, 111, 112]
abbrev sTarget : List UInt8 := [116, 97, 114, 103, 101, 116]
abbrev sNot : List UInt8 := [110, 111, 116]
abbrev sAnd : List UInt8 := [97, 110, 100]
abbrev sOr : List UInt8 := [111, 114]
abbrev sHolds : List UInt8 := [104, 111, 108, 100, 115]
abbrev sHarm : List UInt8 := [104, 97, 114, 109]
abbrev sMend : List UInt8 := [109, 101, 110, 100]
abbrev sDraw : List UInt8 := [100, 114, 97, 119]
abbrev sGain : List UInt8 := [103, 97, 105, 110]
abbrev sLook : List UInt8 := [108, 111, 111, 107]
abbrev sDrop : List UInt8 := [100, 114, 111, 112]
abbrev sShow : List UInt8 := [115, 104, 111, 119]
abbrev sSummon : List UInt8 := [115, 117, 109, 109, 111, 110]
abbrev sIf : List UInt8 := [105, 102]
abbrev sElse : List UInt8 := [101, 108, 115, 101]
abbrev sUnit : List UInt8 := [117, 110, 105, 116]
abbrev sCharm : List UInt8 := [99, 104, 97, 114, 109]
abbrev sPlayed : List UInt8 := [112, 108, 97, 121, 101, 100]
abbrev sDead : List UInt8 := [100, 101, 97, 100]
abbrev sDawn : List UInt8 := [100, 97, 119, 110]
abbrev sAura : List UInt8 := [97, 117, 114, 97]
abbrev sShield : List UInt8 := [115, 104, 105, 101, 108, 100]
abbrev sLeast : List UInt8 := [108, 101, 97, 115, 116]
abbrev sMost : List UInt8 := [109, 111, 115, 116]
abbrev sCopies : List UInt8 := [99, 111, 112, 105, 101, 115]
abbrev sBanned : List UInt8 := [98, 97, 110, 110, 101, 100]
abbrev sSingle : List UInt8 := [115, 105, 110, 103, 108, 101]
abbrev sCard : List UInt8 := [99, 97, 114, 100]
abbrev sFormat : List UInt8 := [102, 111, 114, 109, 97, 116]
structure FmtT where
 name : List UInt8
 least : Int
 most : Int
 copies : Int
 banned : List (List UInt8)
 single : List (List UInt8)
 at_ : Int
structure BkT where
 cards : List CardT
 fmts : List FmtT
inductive R (α : Type) where
 | ok (x : α) (ts : List Wrd)
 | bad (e : Int) (a : Int)
 | out
def R.bind {α β : Type} : R α → (α → List Wrd → R β) → R β
 | .ok x ts, f => f x ts
 | .bad e a, _ => .bad e a
 | .out, _ => .out
def hd (ts : List Wrd) : Wrd := ts.headD ⟨0, [], 0, 0⟩
def isW (s : List UInt8) (ts : List Wrd) : Bool := (decide ((hd ts).kind = 1) || decide ((hd ts).kind = 3)) && decide ((hd ts).text = s)
def fail {α : Type} (e : Int) (ts : List Wrd) : R α := .bad e (hd ts).at_
def must (s : List UInt8) (ts : List Wrd) : R Unit := if isW s ts then .ok () ts.tail else fail 120 ts
def musts : List (List UInt8) → List Wrd → R Unit
 | [], ts => .ok () ts
 | s :: r, ts => (must s ts).bind fun _ ts => musts r ts
def pNumber (ts : List Wrd) : R Int := if (hd ts).kind = 2 then .ok (hd ts).n ts.tail else fail 120 ts
def pName (ts : List Wrd) : R (List UInt8) := if (hd ts).kind = 1 ∧ ownP (hd ts).text = false then .ok (hd ts).text ts.tail else fail 120 ts
def pSide (ts : List Wrd) : R Int := if isW sMe ts then .ok 0 ts.tail else if isW sFoe ts then .ok 1 ts.tail else fail 120 ts
def pWho (ts : List Wrd) : R Int := if isW sTarget ts then .ok 2 ts.tail else pSide ts
def pIn (d : Nat) (ts : List Wrd) : R Unit := if 8 < d + 1 then fail 121 ts else .ok () ts
def putN (op : Int) (a b : NumT) : NumT := .mk op 0 0 [a, b]
def putC (op : Int) (a b : CondT) : CondT := .mk op 0 [] [] [a, b]
def plainN (op n who : Int) : NumT := .mk op n who []
def pRest {α : Type} (one : List Wrd → R α) (signs : List (List UInt8 × Int)) (put : Int → α → α → α) : Nat → α → List Wrd → R α
 | 0, _, _ => .out
 | n + 1, x, ts => match signs.find? fun s => isW s.1 ts with
   | none => .ok x ts
   | some s => (one ts.tail).bind fun y ts => pRest one signs put n (put s.2 x y) ts
def pRow {α : Type} (one : List Wrd → R α) (signs : List (List UInt8 × Int)) (put : Int → α → α → α) (n : Nat) (ts : List Wrd) : R α :=
 (one ts).bind fun x ts => pRest one signs put n x ts
def pBr (sum : Nat → List Wrd → R NumT) (two : Bool) (d : Nat) (ts : List Wrd) : R (NumT × NumT) :=
 if isW sOpen ts then
  (pIn d ts).bind fun _ ts => (must sOpen ts).bind fun _ ts => (sum (d + 1) ts).bind fun a ts =>
   if two then (must sComma ts).bind fun _ ts => (sum (d + 1) ts).bind fun b ts => (must sClose ts).bind fun _ ts => .ok (a, b) ts
   else (must sClose ts).bind fun _ ts => .ok (a, plainN 0 0 0) ts
 else fail 120 ts
def whos : List (List UInt8 × Int) := [(sLife, 1), (sHand, 2), (sDeck, 3), (sUnits, 4)]
def pOne (sum : Nat → List Wrd → R NumT) (d : Nat) (ts : List Wrd) : R NumT :=
 if isW sOpen ts then (pBr sum false d ts).bind fun x ts => .ok x.1 ts
 else if (hd ts).kind = 2 then .ok (plainN 0 (hd ts).n 0) ts.tail
 else match whos.find? fun s => isW s.1 ts with
 | some s => (must sOpen ts.tail).bind fun _ ts => (pSide ts).bind fun w ts => (must sClose ts).bind fun _ ts => .ok (plainN s.2 0 w) ts
 | none =>
   if isW sMana ts then (musts [sOpen, sMe, sClose] ts.tail).bind fun _ ts => .ok (plainN 5 0 0) ts
   else if isW sCost ts then (musts [sOpen, sTop, sOpen, sMe, sClose, sClose] ts.tail).bind fun _ ts => .ok (plainN 6 0 0) ts
   else if isW sPower ts then (musts [sOpen, sTarget, sClose] ts.tail).bind fun _ ts => .ok (plainN 7 0 0) ts
   else if isW sMin ts then (pBr sum true d ts.tail).bind fun x ts => .ok (putN 11 x.1 x.2) ts
   else if isW sMax ts then (pBr sum true d ts.tail).bind fun x ts => .ok (putN 12 x.1 x.2) ts
   else fail 120 ts
def sumSigns : List (List UInt8 × Int) := [(sPlus, 8), (sMinus, 9)]
def mulSigns : List (List UInt8 × Int) := [(sStar, 10)]
def pTerm (sum : Nat → List Wrd → R NumT) (n d : Nat) (ts : List Wrd) : R NumT := pRow (pOne sum d) mulSigns putN n ts
def pSum : Nat → Nat → List Wrd → R NumT
 | 0, _, _ => .out
 | n + 1, d, ts => pRow (pTerm (pSum n) (n + 1) d) sumSigns putN (n + 1) ts
def outer : Int → List Wrd → Bool
 | _, [] => true
 | d, w :: r =>
   if w.kind ≠ 3 then outer d r
   else
    let d' : Int := if w.text = sOpen then d + 1 else if w.text = sClose then d - 1 else d
    if 0 < d' then outer d' r
    else if (hd r).kind ≠ 3 then true
    else !decide ((hd r).text ∈ [sLt, sLe, sEq, sPlus, sMinus, sStar])
def lessSigns : List (List UInt8 × Int) := [(sLt, 0), (sLe, 1), (sEq, 2)]
def pTest (sum : Nat → List Wrd → R NumT) (cond : Nat → List Wrd → R CondT) : Nat → Nat → List Wrd → R CondT
 | 0, _, _ => .out
 | n + 1, d, ts =>
   if isW sNot ts then (pIn d ts).bind fun _ ts => (pTest sum cond n (d + 1) ts.tail).bind fun k ts => .ok (.mk 3 0 [] [] [k]) ts
   else if isW sOpen ts && outer 0 ts then (pIn d ts).bind fun _ ts => (cond (d + 1) ts.tail).bind fun x ts => (must sClose ts).bind fun _ ts => .ok x ts
   else if isW sHolds ts then (must sOpen ts.tail).bind fun _ ts => (pSide ts).bind fun w ts => (must sComma ts).bind fun _ ts => (pName ts).bind fun s ts => (must sClose ts).bind fun _ ts => .ok (.mk 6 w s [] []) ts
   else (sum d ts).bind fun a ts => match lessSigns.find? fun s => isW s.1 ts with
    | some s => (sum d ts.tail).bind fun b ts => .ok (.mk s.2 0 [] [a, b] []) ts
    | none => fail 120 ts
def andSigns : List (List UInt8 × Int) := [(sAnd, 4)]
def orSigns : List (List UInt8 × Int) := [(sOr, 5)]
def pBoth (cond : Nat → List Wrd → R CondT) (n d : Nat) (ts : List Wrd) : R CondT := pRow (pTest (pSum n) cond n d) andSigns putC n ts
def pCond : Nat → Nat → List Wrd → R CondT
 | 0, _, _ => .out
 | n + 1, d, ts => pRow (pBoth (pCond n) (n + 1) d) orSigns putC (n + 1) ts
def num0 : NumT := .mk 0 0 0 []
def cond0 : CondT := .mk 0 0 [] [] []
def eff0 (op who : Int) (n : NumT) (name : List UInt8) : EffT := .mk op who n name cond0 [] []
def pSemi (x : EffT) (ts : List Wrd) : R EffT := (must sSemi ts).bind fun _ ts => .ok x ts
def pEff (blk : Nat → List Wrd → R (List EffT)) (n d : Nat) (ts : List Wrd) : R EffT :=
 if isW sHarm ts then (pWho ts.tail).bind fun w ts => (pSum n d ts).bind fun x ts => pSemi (eff0 0 w x []) ts
 else if isW sMend ts then (pWho ts.tail).bind fun w ts => (pSum n d ts).bind fun x ts => pSemi (eff0 1 w x []) ts
 else if isW sDraw ts then (pSide ts.tail).bind fun w ts => (pSum n d ts).bind fun x ts => pSemi (eff0 2 w x []) ts
 else if isW sGain ts then (pSum n d ts.tail).bind fun x ts => pSemi (eff0 3 0 x []) ts
 else if isW sLook ts then (pSum n d ts.tail).bind fun x ts => pSemi (eff0 5 0 x []) ts
 else if isW sDrop ts then (pSide ts.tail).bind fun w ts => pSemi (eff0 4 w num0 []) ts
 else if isW sShow ts then (pSide ts.tail).bind fun w ts => pSemi (eff0 6 w num0 []) ts
 else if isW sSummon ts then (pName ts.tail).bind fun s ts => pSemi (eff0 7 0 num0 s) ts
 else if isW sIf ts then
  (pIn d ts).bind fun _ ts => (pCond n (d + 1) ts.tail).bind fun c ts => (blk (d + 1) ts).bind fun t ts => (must sElse ts).bind fun _ ts => (blk (d + 1) ts).bind fun e ts => .ok (.mk 8 0 num0 [] c t e) ts
 else fail 120 ts
def pMany {α : Type} (one : List Wrd → R α) : Nat → List α → List Wrd → R (List α)
 | 0, _, _ => .out
 | n + 1, acc, ts => if isW sRb ts then .ok acc ts.tail else (one ts).bind fun x ts => pMany one n (acc ++ [x]) ts
def pBlock : Nat → Nat → List Wrd → R (List EffT)
 | 0, _, _ => .out
 | n + 1, d, ts => (must sLb ts).bind fun _ ts => pMany (pEff (pBlock n) (n + 1) d) (n + 1) [] ts
def pRules {σ : Type} (keys : List (List UInt8)) (read : List UInt8 → σ → List Wrd → R σ) (parts : σ → Nat) : Nat → List (List UInt8) → σ → List Wrd → R σ
 | 0, _, _, _ => .out
 | n + 1, seen, c, ts =>
   if isW sRb ts then (if 200 < parts c then fail 3 ts else .ok c ts.tail)
   else if (hd ts).kind = 1 ∧ (hd ts).text ∈ keys then
    (if (hd ts).text ∈ seen then fail 101 ts else (read (hd ts).text c ts.tail).bind fun c ts' => pRules keys read parts n (seen ++ [(hd ts).text]) c ts')
   else fail 120 ts
def cardKeys : List (List UInt8) := [sPlayed, sDead, sDawn, sAura, sShield]
def cardRead (n : Nat) (s : List UInt8) (c : CardT) (ts : List Wrd) : R CardT :=
 if s = sPlayed then (pBlock n 0 ts).bind fun l ts => .ok { c with played := l } ts
 else if s = sDead then (pBlock n 0 ts).bind fun l ts => .ok { c with dead := l } ts
 else if s = sDawn then (pBlock n 0 ts).bind fun l ts => .ok { c with dawn := l } ts
 else if s = sAura then (pNumber ts).bind fun a ts => (must sSlash ts).bind fun _ ts => (pNumber ts).bind fun b ts => (must sSemi ts).bind fun _ ts => .ok { c with apow := a, aheal := b } ts
 else (pNumber ts).bind fun a ts => (must sSemi ts).bind fun _ ts => .ok { c with shield := a } ts
def pCard (parts : CardT → Nat) (n : Nat) (at_ : Int) (ts : List Wrd) : R CardT :=
 (pName ts).bind fun s ts =>
  (if isW sUnit ts then (pNumber ts.tail).bind fun c ts => (pNumber ts).bind fun p ts => (must sSlash ts).bind fun _ ts => (pNumber ts).bind fun h ts => .ok (⟨s, true, c, p, h, 0, 0, 0, [], [], [], at_⟩ : CardT) ts
   else (must sCharm ts).bind fun _ ts => (pNumber ts).bind fun c ts => .ok ⟨s, false, c, 0, 0, 0, 0, 0, [], [], [], at_⟩ ts).bind fun c ts =>
  (must sLb ts).bind fun _ ts => pRules cardKeys (cardRead n) parts n [] c ts
def pNames : Nat → List (List UInt8) → List Wrd → R (List (List UInt8))
 | 0, _, _ => .out
 | n + 1, acc, ts => (pName ts).bind fun s ts => if isW sComma ts then pNames n (acc ++ [s]) ts.tail else .ok (acc ++ [s]) ts
def fmtKeys : List (List UInt8) := [sLeast, sMost, sCopies, sBanned, sSingle]
def fmtRead (n : Nat) (s : List UInt8) (f : FmtT) (ts : List Wrd) : R FmtT :=
 if s = sLeast then (pNumber ts).bind fun a ts => (must sSemi ts).bind fun _ ts => .ok { f with least := a } ts
 else if s = sMost then (pNumber ts).bind fun a ts => (must sSemi ts).bind fun _ ts => .ok { f with most := a } ts
 else if s = sCopies then (pNumber ts).bind fun a ts => (must sSemi ts).bind fun _ ts => .ok { f with copies := a } ts
 else if s = sBanned then (pNames n [] ts).bind fun l ts => (must sSemi ts).bind fun _ ts => .ok { f with banned := l } ts
 else (pNames n [] ts).bind fun l ts => (must sSemi ts).bind fun _ ts => .ok { f with single := l } ts
def pFmt (n : Nat) (at_ : Int) (ts : List Wrd) : R FmtT :=
 (pName ts).bind fun s ts => (must sLb ts).bind fun _ ts => pRules fmtKeys (fmtRead n) (fun _ => 0) n [] ⟨s, 0, 0, 0, [], [], at_⟩ ts
def pBook (parts : CardT → Nat) (n0 : Nat) : Nat → List CardT → List FmtT → List Wrd → R BkT
 | 0, _, _, _ => .out
 | n + 1, cs, fs, ts =>
   if (hd ts).kind = 0 then .ok ⟨cs, fs⟩ ts
   else if isW sCard ts ∧ fs.length = 0 then (if cs.length = 240 then fail 3 ts else (pCard parts n0 (hd ts).at_ ts.tail).bind fun c ts => pBook parts n0 n (cs ++ [c]) fs ts)
   else if isW sFormat ts then (if fs.length = 240 then fail 3 ts else (pFmt n0 (hd ts).at_ ts.tail).bind fun f ts => pBook parts n0 n cs (fs ++ [f]) ts)
   else fail 120 ts
end Tp
namespace Kd
open Go Go.Eng
def U0 : Value := .tuple #[]
abbrev Gives (w : Value) : Value → List Ent → Prop := fun v L' => v = w ∧ L' = []
def countsB (op : Int) : Bool := decide (op = 0) || decide (op = 1) || decide (op = 2) || decide (op = 3) || decide (op = 5)
inductive PartT where
 | eff (x : EffT)
 | num (x : NumT)
 | cond (x : CondT)
def kidsP : PartT → List PartT
 | .eff (.mk op _ n _ c t e) => (if countsB op then [.num n] else []) ++ (if op = 8 then .cond c :: (t.map .eff ++ e.map .eff) else [])
 | .num (.mk _ _ _ k) => k.map .num
 | .cond (.mk _ _ _ ns k) => ns.map .num ++ k.map .cond
inductive Flat : PartT → List PartT → Prop
 | mk {p : PartT} {ls : List (List PartT)} (hl : ls.length = (kidsP p).length) (hk : ∀ (i : Nat) (h : i < (kidsP p).length), Flat (kidsP p)[i] (ls[i]'(by omega))) : Flat p (p :: ls.flatten)
theorem XI {ps : List PartT} (h : ∀ (i : Nat) (hi : i < ps.length), ∃ l, Flat ps[i] l) : ∃ ls : List (List PartT), ∃ hl : ls.length = ps.length, ∀ (i : Nat) (h : i < ps.length), Flat ps[i] (ls[i]'(by omega)) := by
 induction ps with
 | nil => exact ⟨[], rfl, fun i h => by cases h⟩
 | cons p r ih =>
   obtain ⟨l, hl⟩ := h 0 (by simp);obtain ⟨ls, e, hls⟩ := ih fun i hi => h (i + 1) (by simpa using hi);refine ⟨l :: ls, by simp [e], fun i hi => ?_⟩;cases i with
   | zero => exact hl
   | succ i => exact hls i (by simpa using hi)
theorem Flat.ex {p : PartT} (h : ∀ (i : Nat) (hi : i < (kidsP p).length), ∃ l, Flat (kidsP p)[i] l) : ∃ l, Flat p l := by
 obtain ⟨ls, e, hls⟩ := XI h;exact ⟨_, .mk e hls⟩
theorem Flat.num {m : Mp} {cs : List Value} {x : NumT} (h : NumR m cs x) : ∃ l, Flat (.num x) l := by
 induction h with
 | mk ho hln hm hr hv _ ih =>
   refine Flat.ex fun i hi => ?_;simp only [kidsP, List.length_map] at hi;simp only [kidsP, List.getElem_map];exact ih i hi
theorem Flat.cond {m : Mp} {cs : List Value} {x : CondT} (h : CondR m cs x) : ∃ l, Flat (.cond x) l := by
 induction h with
 | mk ho hw hn hla hma hra hva hka hlb hmb hrb hvb _ ih =>
   refine Flat.ex fun i hi => ?_;simp only [kidsP, List.length_append, List.length_map] at hi;simp only [kidsP, List.getElem_append, List.length_map, List.getElem_map]
   split
   ·exact Flat.num (hka _ (by omega))
   ·exact ih _ (by omega)
theorem Flat.eff {m : Mp} {cs : List Value} {x : EffT} (h : EffR m cs x) : ∃ l, Flat (.eff x) l := by
 induction h with
 | @mk op who n name cond thn els ns cs A B la ca lb cb vs us ho hw hn hnm hc hla hma hra hva _ hlb hmb hrb hvb _ ih1 ih2 =>
   refine Flat.ex fun i hi => ?_
   have key : ∀ p ∈ kidsP (.eff (.mk op who n name cond thn els)), ∃ l, Flat p l := by
    intro p hp;simp only [kidsP, List.mem_append] at hp;rcases hp with hp | hp
    ·split at hp
     ·rw [List.mem_singleton.1 hp]; exact Flat.num hn
     ·cases hp
    ·split at hp
     ·rcases List.mem_cons.1 hp with rfl | hp
      ·exact Flat.cond hc
      ·rcases List.mem_append.1 hp with hp | hp
       ·obtain ⟨x, hx, rfl⟩ := List.mem_map.1 hp;obtain ⟨j, hj, rfl⟩ := List.getElem_of_mem hx;exact ih1 j hj
       ·obtain ⟨x, hx, rfl⟩ := List.mem_map.1 hp;obtain ⟨j, hj, rfl⟩ := List.getElem_of_mem hx;exact ih2 j hj
     ·cases hp
   exact key _ (List.getElem_mem hi)
end Kd
namespace Kd
open Go Go.Eng
def numW : NumT → Nat
 | .mk _ _ _ k => 1 + (k.attach.map fun x => numW x.1).sum
termination_by x => SizeOf.sizeOf x
decreasing_by
 have := List.sizeOf_lt_of_mem x.2;simp only [NumT.mk.sizeOf_spec];omega
theorem wh (op n who : Int) (k : List NumT) : numW (.mk op n who k) = 1 + (k.map numW).sum := by
 rw [numW, List.attach_map_val (f := numW)]
def condW : CondT → Nat
 | .mk _ _ _ ns k => 1 + (ns.map numW).sum + (k.attach.map fun x => condW x.1).sum
termination_by x => SizeOf.sizeOf x
decreasing_by
 have := List.sizeOf_lt_of_mem x.2;simp only [CondT.mk.sizeOf_spec];omega
theorem yd (op who : Int) (name : List UInt8) (ns : List NumT) (k : List CondT) : condW (.mk op who name ns k) = 1 + (ns.map numW).sum + (k.map condW).sum := by
 rw [condW, List.attach_map_val (f := condW)]
def effW : EffT → Nat
 | .mk op _ n _ c t e => 1 + (if countsB op then numW n else 0) + (if op = 8 then condW c + (t.attach.map fun x => effW x.1).sum + (e.attach.map fun x => effW x.1).sum else 0)
termination_by x => SizeOf.sizeOf x
decreasing_by
 all_goals
  have := List.sizeOf_lt_of_mem x.2;simp only [EffT.mk.sizeOf_spec];omega
theorem wl (op who : Int) (n : NumT) (name : List UInt8) (c : CondT) (t e : List EffT) : effW (.mk op who n name c t e) = 1 + (if countsB op then numW n else 0) + (if op = 8 then condW c + (t.map effW).sum + (e.map effW).sum else 0) := by
 rw [effW, List.attach_map_val (f := effW), List.attach_map_val (f := effW)]
def effsW (l : List EffT) : Nat := (l.map effW).sum
theorem wL {α : Type} (f : α → Nat) {l : List α} {i : Nat} (h : i < l.length) : ((l.take (i + 1)).map f).sum = ((l.take i).map f).sum + f l[i] := by
 rw [List.take_add_one, List.getElem?_eq_getElem h, List.map_append, List.sum_append]
 simp
end Kd
namespace Tp
open Go Go.Eng Wd Kd
theorem QD {s : List UInt8} {ts : List Wrd} (h : isW s ts = true) : ∃ w r, ts = w :: r := by
 cases ts with
 | nil => simp [isW, hd] at h
 | cons w r => exact ⟨w, r, rfl⟩
theorem zh {s : List UInt8} {ts : List Wrd} (h : isW s ts = true) : ts.tail.length + 1 = ts.length := by
 obtain ⟨w, r, rfl⟩ := QD h
 rfl
theorem qY {ts : List Wrd} (h : (hd ts).kind ≠ 0) : ts.tail.length + 1 = ts.length := by
 cases ts with
 | nil => exact absurd rfl h
 | cons w r => rfl
def Ends {α : Type} (r : R α) (w : α → Nat) (n : Nat) : Prop := r ≠ .out ∧ ∀ x ts', r = .ok x ts' → w x + ts'.length ≤ n
theorem Ends.fail {α : Type} {e : Int} {ts : List Wrd} {w : α → Nat} {n : Nat} : Ends (fail e ts) w n := ⟨(fun h => by cases h), fun x ts' h => by cases h⟩
theorem Ends.ok {α : Type} {x : α} {ts : List Wrd} {w : α → Nat} {n : Nat} (h : w x + ts.length ≤ n) : Ends (.ok x ts) w n := ⟨(fun h => by cases h), fun y ts' e => by cases e; exact h⟩
theorem Ends.mono {α : Type} {r : R α} {w : α → Nat} {n n' : Nat} (h : Ends r w n) (hn : n ≤ n') : Ends r w n' := ⟨h.1, fun x ts e => Nat.le_trans (h.2 x ts e) hn⟩
theorem Ends.bind {α β : Type} {r : R α} {w : α → Nat} {n : Nat} {f : α → List Wrd → R β} {w' : β → Nat} {n' : Nat} (h : Ends r w n) (hf : ∀ x ts, w x + ts.length ≤ n → Ends (f x ts) w' n') : Ends (r.bind f) w' n' := by
 cases r with
 | ok x ts => exact hf x ts (h.2 x ts rfl)
 | bad e a => exact ⟨(fun h => by cases h), fun x ts' h => by cases h⟩
 | out => exact absurd rfl h.1
theorem Ends.ite {α : Type} {c : Prop} [Decidable c] {a b : R α} {w : α → Nat} {n : Nat} (h1 : c → Ends a w n) (h2 : ¬ c → Ends b w n) : Ends (if c then a else b) w n := by
 split
 ·exact h1 ‹_›
 ·exact h2 ‹_›
abbrev w0 {α : Type} : α → Nat := fun _ => 0
theorem zL {s : List UInt8} {ts : List Wrd} : Ends (must s ts) (fun _ => 1) ts.length := Ends.ite (fun h => Ends.ok (by have := zh h; omega)) fun _ => Ends.fail
theorem wO : ∀ {l : List (List UInt8)} {ts : List Wrd}, Ends (musts l ts) (fun _ => l.length) ts.length
 | [], ts => Ends.ok (by simp)
 | s :: r, ts => zL.bind fun _ ts' h => ⟨(wO (l := r)).1, fun x ts2 e => by have := (wO (l := r)).2 x ts2 e; simp only [List.length_cons] at *; omega⟩
theorem zo {ts : List Wrd} : Ends (pNumber ts) (fun _ => 1) ts.length := Ends.ite (fun h => Ends.ok (by have := qY (ts := ts) (by omega); omega)) fun _ => Ends.fail
theorem yr {ts : List Wrd} : Ends (pName ts) (fun _ => 1) ts.length := Ends.ite (fun h => Ends.ok (by have := qY (ts := ts) (by omega); omega)) fun _ => Ends.fail
theorem yj {ts : List Wrd} : Ends (pSide ts) (fun _ => 1) ts.length := Ends.ite (fun h => Ends.ok (by have := zh h; omega)) fun _ => Ends.ite (fun h => Ends.ok (by have := zh h; omega)) fun _ => Ends.fail
theorem qM {ts : List Wrd} : Ends (pWho ts) (fun _ => 1) ts.length := Ends.ite (fun h => Ends.ok (by have := zh h; omega)) fun _ => yj
theorem jq {β : Type} {d : Nat} {ts : List Wrd} {f : Unit → List Wrd → R β} {w : β → Nat} {n : Nat} (h : d + 1 ≤ 8 → Ends (f () ts) w n) : Ends ((pIn d ts).bind f) w n := by
 unfold pIn
 split
 ·exact Ends.fail
 ·exact h (by omega)
theorem kR {signs : List (List UInt8 × Int)} {ts : List Wrd} {s : List UInt8 × Int} (h : (signs.find? fun s => isW s.1 ts) = some s) : isW s.1 ts = true := List.find?_some (p := fun s : List UInt8 × Int => isW s.1 ts) h
theorem k6 {α : Type} {one : List Wrd → R α} {signs : List (List UInt8 × Int)} {put : Int → α → α → α} {w : α → Nat} {k : Nat} (ho : ∀ ts, ts.length < k → Ends (one ts) w ts.length) (hw : ∀ op a b, w (put op a b) = 1 + w a + w b) :
  ∀ (n : Nat) (x : α) (ts : List Wrd), ts.length < n → ts.length < k → Ends (pRest one signs put n x ts) w (w x + ts.length)
 | 0, _, ts, h, _ => by cases h
 | n + 1, x, ts, h, hk => by
   unfold pRest
   split
   ·exact Ends.ok (Nat.le_refl _)
   ·rename_i s hs
    have hl := zh (kR hs);refine (ho ts.tail (by omega)).bind fun y ts' h1 => ?_;refine (k6 ho hw n _ ts' (by omega) (by omega)).mono ?_;rw [hw];omega
theorem wz {α : Type} {one : List Wrd → R α} {signs : List (List UInt8 × Int)} {put : Int → α → α → α} {w : α → Nat} {k : Nat} (ho : ∀ ts, ts.length < k → Ends (one ts) w ts.length) (hw : ∀ op a b, w (put op a b) = 1 + w a + w b)
  (n : Nat) (ts : List Wrd) (h : ts.length < n) (hk : ts.length < k) : Ends (pRow one signs put n ts) w ts.length := by
 unfold pRow;exact (ho ts hk).bind fun x ts' h1 => (k6 ho hw n x ts' (by omega) (by omega)).mono h1
theorem qV (x : NumT) : 1 ≤ numW x := by obtain ⟨op, n, who, k⟩ := x; rw [wh]; omega
theorem ya (x : CondT) : 1 ≤ condW x := by obtain ⟨op, w, s, n, k⟩ := x; rw [yd]; omega
theorem xy (op : Int) (a b : NumT) : numW (putN op a b) = 1 + numW a + numW b := by unfold putN; rw [wh]; simp; omega
theorem yo (op n who : Int) : numW (plainN op n who) = 1 := by unfold plainN; rw [wh]; rfl
theorem uj (op : Int) (a b : CondT) : condW (putC op a b) = 1 + condW a + condW b := by unfold putC; rw [yd]; simp; omega
theorem YE {sum : Nat → List Wrd → R NumT} {two : Bool} {d k : Nat} (hs : ∀ d ts, ts.length < k → Ends (sum d ts) numW ts.length) (ts : List Wrd) (h : ts.length < k + 1) :
  Ends (pBr sum two d ts) (fun x => numW x.1 + 1 + if two then numW x.2 else 0) ts.length := by
 unfold pBr;refine Ends.ite (fun _ => jq fun _ => zL.bind fun _ ts2 h2 => (hs _ ts2 (by omega)).bind fun a ts3 h3 => ?_) fun _ => Ends.fail;cases two with
 | false =>
   rw [if_neg (by decide)];exact zL.bind fun _ ts4 h4 => Ends.ok (by simp only [if_neg (by decide : ¬ false = true)]; omega)
 | true =>
   rw [if_pos rfl];exact zL.bind fun _ ts4 h4 => (hs _ ts4 (by omega)).bind fun b ts5 h5 => zL.bind fun _ ts6 h6 => Ends.ok (by simp only [if_pos]; omega)
theorem j7 {sum : Nat → List Wrd → R NumT} {d k : Nat} (hs : ∀ d ts, ts.length < k → Ends (sum d ts) numW ts.length) (ts : List Wrd) (h : ts.length < k + 1) : Ends (pOne sum d ts) numW ts.length := by
 unfold pOne;refine Ends.ite (fun _ => (YE (two := false) hs ts h).bind fun x ts1 h1 => Ends.ok (by simp at h1; omega)) fun _ => Ends.ite (fun hk => Ends.ok (by have := qY (ts := ts) (by omega); rw [yo]; omega)) fun _ => ?_
 split
 ·rename_i s hf
  have hl := zh (kR hf);exact zL.bind fun _ ts1 h1 => yj.bind fun w ts2 h2 => zL.bind fun _ ts3 h3 => Ends.ok (by rw [yo]; omega)
 ·refine Ends.ite (fun hw => wO.bind fun _ ts1 h1 => Ends.ok (by have := zh hw; rw [yo]; omega)) fun _ => Ends.ite (fun hw => wO.bind fun _ ts1 h1 => Ends.ok (by have := zh hw; rw [yo]; omega)) fun _ =>
   Ends.ite (fun hw => wO.bind fun _ ts1 h1 => Ends.ok (by have := zh hw; rw [yo]; omega)) fun _ => ?_
  refine Ends.ite (fun hw => ?_) fun _ => Ends.ite (fun hw => ?_) fun _ => Ends.fail
  ·have hl := zh hw;exact (YE (two := true) hs ts.tail (by omega)).bind fun x ts1 h1 => Ends.ok (by rw [xy]; simp at h1; omega)
  ·have hl := zh hw;exact (YE (two := true) hs ts.tail (by omega)).bind fun x ts1 h1 => Ends.ok (by rw [xy]; simp at h1; omega)
theorem yq : ∀ (n d : Nat) (ts : List Wrd), ts.length < n → Ends (pSum n d ts) numW ts.length
 | 0, _, _, h => by cases h
 | n + 1, d, ts, h => by
   show Ends (pRow (pTerm (pSum n) (n + 1) d) sumSigns putN (n + 1) ts) numW ts.length;refine wz (k := n + 1) (fun ts h => ?_) xy (n + 1) ts h h;exact wz (k := n + 1) (fun ts h => j7 (yq n) ts h) xy (n + 1) ts h h
theorem uS {sum : Nat → List Wrd → R NumT} {cond : Nat → List Wrd → R CondT} {k : Nat} (hs : ∀ d ts, ts.length < k + 1 → Ends (sum d ts) numW ts.length) (hc : ∀ d ts, ts.length < k → Ends (cond d ts) condW ts.length) :
  ∀ (n d : Nat) (ts : List Wrd), ts.length < n → ts.length < k + 1 → Ends (pTest sum cond n d ts) condW ts.length
 | 0, _, _, h, _ => by cases h
 | n + 1, d, ts, h, hk => by
   unfold pTest;refine Ends.ite (fun hw => jq fun _ => ?_) fun _ => Ends.ite (fun hw => jq fun _ => ?_) fun _ => Ends.ite (fun hw => ?_) fun _ => ?_
   ·have hl := zh hw;exact (uS hs hc n (d + 1) ts.tail (by omega) (by omega)).bind fun x ts1 h1 => Ends.ok (by rw [yd]; simp; omega)
   ·have hl := zh (Bool.and_eq_true_iff.1 hw).1;exact (hc (d + 1) ts.tail (by omega)).bind fun x ts1 h1 => zL.bind fun _ ts2 h2 => Ends.ok (by omega)
   ·have hl := zh hw;exact zL.bind fun _ ts1 h1 => yj.bind fun w ts2 h2 => zL.bind fun _ ts3 h3 => yr.bind fun s ts4 h4 => zL.bind fun _ ts5 h5 => Ends.ok (by rw [yd]; simp; omega)
   ·refine (hs d ts hk).bind fun a ts1 h1 => ?_
    split
    ·rename_i s hf
     have hl := zh (kR hf);exact (hs d _ (by omega)).bind fun b ts2 h2 => Ends.ok (by rw [yd]; simp; omega)
    ·exact Ends.fail
theorem vN : ∀ (n d : Nat) (ts : List Wrd), ts.length < n → Ends (pCond n d ts) condW ts.length
 | 0, _, _, h => by cases h
 | n + 1, d, ts, h => by
   show Ends (pRow (pBoth (pCond n) (n + 1) d) orSigns putC (n + 1) ts) condW ts.length;refine wz (k := n + 1) (fun ts h => ?_) uj (n + 1) ts h h;exact wz (k := n + 1) (fun ts h => uS (yq (n + 1)) (vN n) (n + 1) d ts h h) uj (n + 1) ts h h
theorem vb (op who : Int) (n : NumT) (name : List UInt8) (h : op ≠ 8) : effW (eff0 op who n name) = 1 + if countsB op then numW n else 0 := by
 unfold eff0;rw [wl, if_neg h]
 rfl
theorem xZ {op who : Int} {n : NumT} {name : List UInt8} {ts : List Wrd} (h : op ≠ 8) : Ends (pSemi (eff0 op who n name) ts) effW (1 + (if countsB op then numW n else 0) + ts.length) := by
 unfold pSemi;exact zL.bind fun _ ts1 h1 => Ends.ok (by rw [vb _ _ _ _ h]; omega)
theorem XC {blk : Nat → List Wrd → R (List EffT)} {n d k : Nat} (hk : k < n) (hb : ∀ d ts, ts.length < k → Ends (blk d ts) effsW ts.length) (ts : List Wrd) (h : ts.length < k + 1) : Ends (pEff blk n d ts) effW ts.length := by
 have hs : ∀ d ts, ts.length < k + 1 → Ends (pSum n d ts) numW ts.length := fun d ts h => yq n d ts (by omega);unfold pEff
 refine Ends.ite (fun hw => ?_) fun _ => Ends.ite (fun hw => ?_) fun _ => Ends.ite (fun hw => ?_) fun _ => Ends.ite (fun hw => ?_) fun _ => Ends.ite (fun hw => ?_) fun _ => Ends.ite (fun hw => ?_) fun _ => Ends.ite (fun hw => ?_) fun _ => Ends.ite (fun hw => ?_) fun _ => Ends.ite (fun hw => ?_) fun _ => Ends.fail
 all_goals have hl := zh hw
 ·exact qM.bind fun w ts1 h1 => (hs d ts1 (by omega)).bind fun x ts2 h2 => (xZ (by decide)).mono (by simp [countsB]; omega)
 ·exact qM.bind fun w ts1 h1 => (hs d ts1 (by omega)).bind fun x ts2 h2 => (xZ (by decide)).mono (by simp [countsB]; omega)
 ·exact yj.bind fun w ts1 h1 => (hs d ts1 (by omega)).bind fun x ts2 h2 => (xZ (by decide)).mono (by simp [countsB]; omega)
 ·exact (hs d _ (by omega)).bind fun x ts2 h2 => (xZ (by decide)).mono (by simp [countsB]; omega)
 ·exact (hs d _ (by omega)).bind fun x ts2 h2 => (xZ (by decide)).mono (by simp [countsB]; omega)
 ·exact yj.bind fun w ts1 h1 => (xZ (by decide)).mono (by simp [countsB]; omega)
 ·exact yj.bind fun w ts1 h1 => (xZ (by decide)).mono (by simp [countsB]; omega)
 ·exact yr.bind fun w ts1 h1 => (xZ (by decide)).mono (by simp [countsB]; omega)
 ·refine jq fun _ => (vN n (d + 1) ts.tail (by omega)).bind fun c ts1 h1 => ?_;have hc := ya c
  exact (hb (d + 1) ts1 (by omega)).bind fun t ts2 h2 => zL.bind fun _ ts3 h3 => (hb (d + 1) ts3 (by omega)).bind fun e ts4 h4 => Ends.ok (by
   rw [wl]; unfold effsW at h2 h4; simp [countsB]; omega)
theorem ZC {α : Type} {one : List Wrd → R α} {w : α → Nat} {k : Nat} (ho : ∀ ts, ts.length < k → Ends (one ts) w ts.length) (hw : ∀ x, 1 ≤ w x) : ∀ (n : Nat) (acc : List α) (ts : List Wrd), ts.length < n → ts.length < k →
  Ends (pMany one n acc ts) (fun l => (l.map w).sum + 1) ((acc.map w).sum + ts.length)
 | 0, _, _, h, _ => by cases h
 | n + 1, acc, ts, h, hk => by
   unfold pMany;refine Ends.ite (fun hw => Ends.ok (by have := zh hw; omega)) fun _ => (ho ts hk).bind fun x ts1 h1 => ?_;have hx := hw x;refine (ZC ho hw n (acc ++ [x]) ts1 (by omega) (by omega)).mono ?_
   simp
   omega
theorem y4 (x : EffT) : 1 ≤ effW x := by obtain ⟨op, w, n, s, c, t, e⟩ := x; rw [wl]; omega
theorem yx : ∀ (n d : Nat) (ts : List Wrd), ts.length < n → Ends (pBlock n d ts) effsW ts.length
 | 0, _, _, h => by cases h
 | n + 1, d, ts, h => by
   show Ends ((must sLb ts).bind fun _ ts => pMany (pEff (pBlock n) (n + 1) d) (n + 1) [] ts) effsW ts.length;refine zL.bind fun _ ts1 h1 => ?_;have := ZC (one := pEff (pBlock n) (n + 1) d) (w := effW) (k := n + 1) (fun ts h => XC (k := n) (by omega) (yx n) ts h) y4 (n + 1) [] ts1 (by omega) (by omega)
   exact ⟨this.1, fun x ts' e => by have := this.2 x ts' e; unfold effsW; simp at this ⊢; omega⟩
def cardWt (x : CardT) : Nat := effsW x.played + effsW x.dead + effsW x.dawn
theorem u9 {σ : Type} {keys : List (List UInt8)} {read : List UInt8 → σ → List Wrd → R σ} {parts : σ → Nat} {k : Nat} (hr : ∀ s c ts, ts.length < k → Ends (read s c ts) (fun _ => 0) ts.length) :
  ∀ (n : Nat) (seen : List (List UInt8)) (c : σ) (ts : List Wrd), ts.length < n → ts.length < k + 1 → Ends (pRules keys read parts n seen c ts) (fun _ => 1) ts.length
 | 0, _, _, _, h, _ => by cases h
 | n + 1, seen, c, ts, h, hk => by
   unfold pRules;refine Ends.ite (fun hw => Ends.ite (fun _ => Ends.fail) fun _ => Ends.ok (by have := zh hw; omega)) fun _ => Ends.ite (fun hw => Ends.ite (fun _ => Ends.fail) fun _ => ?_) fun _ => Ends.fail;have hl := qY (ts := ts) (by omega);exact (hr _ c ts.tail (by omega)).bind fun c2 ts1 h1 => (u9 hr n _ c2 ts1 (by omega) (by omega)).mono (by omega)
theorem kp {n : Nat} {s : List UInt8} {c : CardT} {ts : List Wrd} (h : ts.length < n) : Ends (cardRead n s c ts) (fun _ => 0) ts.length := by
 unfold cardRead;refine Ends.ite (fun _ => ?_) fun _ => Ends.ite (fun _ => ?_) fun _ => Ends.ite (fun _ => ?_) fun _ => Ends.ite (fun _ => ?_) fun _ => ?_
 ·exact (yx n 0 ts h).bind fun l ts1 h1 => Ends.ok (by omega)
 ·exact (yx n 0 ts h).bind fun l ts1 h1 => Ends.ok (by omega)
 ·exact (yx n 0 ts h).bind fun l ts1 h1 => Ends.ok (by omega)
 ·exact zo.bind fun a ts1 h1 => zL.bind fun _ ts2 h2 => zo.bind fun b ts3 h3 => zL.bind fun _ ts4 h4 => Ends.ok (by omega)
 ·exact zo.bind fun a ts1 h1 => zL.bind fun _ ts2 h2 => Ends.ok (by omega)
theorem ZR {parts : CardT → Nat} {n : Nat} {at_ : Int} {ts : List Wrd} (h : ts.length < n) : Ends (pCard parts n at_ ts) (fun _ => 1) ts.length := by
 unfold pCard;refine yr.bind fun s ts1 h1 => Ends.bind (w := fun _ => 0) (n := ts1.length) (Ends.ite (fun hw => ?_) fun _ => ?_) fun c ts2 h2 => zL.bind fun _ ts3 h3 => (u9 (k := n) (fun s c ts h => kp h) n [] c ts3 (by omega) (by omega)).mono (by omega)
 ·have hl := zh hw;exact zo.bind fun a ts2 h2 => zo.bind fun b ts3 h3 => zL.bind fun _ ts4 h4 => zo.bind fun c ts5 h5 => Ends.ok (by omega)
 ·exact zL.bind fun _ ts4 h4 => zo.bind fun c ts5 h5 => Ends.ok (by omega)
theorem wN : ∀ (n : Nat) (acc : List (List UInt8)) (ts : List Wrd), ts.length < n → Ends (pNames n acc ts) (fun _ => 0) ts.length
 | 0, _, _, h => by cases h
 | n + 1, acc, ts, h => by
   unfold pNames;exact yr.bind fun s ts1 h1 => Ends.ite (fun hw => (wN n _ ts1.tail (by have := zh hw; omega)).mono (by have := zh hw; omega)) fun _ => Ends.ok (by omega)
theorem Z2 {n : Nat} {s : List UInt8} {c : FmtT} {ts : List Wrd} (h : ts.length < n) : Ends (fmtRead n s c ts) (fun _ => 0) ts.length := by
 unfold fmtRead;refine Ends.ite (fun _ => ?_) fun _ => Ends.ite (fun _ => ?_) fun _ => Ends.ite (fun _ => ?_) fun _ => Ends.ite (fun _ => ?_) fun _ => ?_
 ·exact zo.bind fun a ts1 h1 => zL.bind fun _ ts2 h2 => Ends.ok (by omega)
 ·exact zo.bind fun a ts1 h1 => zL.bind fun _ ts2 h2 => Ends.ok (by omega)
 ·exact zo.bind fun a ts1 h1 => zL.bind fun _ ts2 h2 => Ends.ok (by omega)
 ·exact (wN n [] ts h).bind fun a ts1 h1 => zL.bind fun _ ts2 h2 => Ends.ok (by omega)
 ·exact (wN n [] ts h).bind fun a ts1 h1 => zL.bind fun _ ts2 h2 => Ends.ok (by omega)
theorem qb {n : Nat} {at_ : Int} {ts : List Wrd} (h : ts.length < n) : Ends (pFmt n at_ ts) (fun _ => 1) ts.length := by
 unfold pFmt;exact yr.bind fun s ts1 h1 => zL.bind fun _ ts3 h3 => (u9 (k := n) (fun s c ts h => Z2 h) n [] _ ts3 (by omega) (by omega)).mono (by omega)
end Tp
section
open Wd Tp Kd
def Ascii (t : List UInt8) : Prop := ∀ b ∈ t, b.toNat < 128
theorem Qg {t : List UInt8} (h : Ascii t) (i : Nat) : by_ t i < 128 := by
 unfold by_;by_cases hi : i < t.length
 ·rw [List.getD_eq_getElem?_getD, List.getElem?_eq_getElem hi];exact h _ (List.getElem_mem hi)
 ·rw [List.getD_eq_getElem?_getD, List.getElem?_eq_none (by omega)]
  decide
theorem ZL {t : List UInt8} {p : Nat} (h : by_ t p < 128) : dec t p = (by_ t p, 1) := vM (y6 h)
theorem Vj {s : List UInt8} {p : Nat} (h : (dec s p).1 < 128) : dec s p = (by_ s p, 1) ∧ by_ s p < 128 := by
 unfold dec at h ⊢;cases hr : rn s p with
 | none => rw [hr] at h; simp at h
 | some r =>
   obtain ⟨x, k⟩ := r;rw [hr] at h
   simp at h
   obtain ⟨h1, h2, h3, h4, h5⟩ := yh hr
   have hk : k = 1 := by
    by_cases hk : k = 1
    ·exact hk
    ·have := (h5 (by omega)).1; omega
   subst hk;obtain ⟨rfl, h6⟩ := h4 rfl;exact ⟨rfl, h6⟩
theorem Zf {s t : List UInt8} {p : Nat} (hs : p < s.length) (ht : p < t.length) (h : s.take p = t.take p) (hb : by_ s p = by_ t p) : s.take (p + 1) = t.take (p + 1) := by
 have e : s[p] = t[p] := by
  have h1 : (s.getD p 0).toNat = (t.getD p 0).toNat := hb;rw [List.getD_eq_getElem?_getD, List.getD_eq_getElem?_getD, List.getElem?_eq_getElem hs, List.getElem?_eq_getElem ht] at h1;exact UInt8.toNat_inj.1 h1
 rw [List.take_succ_eq_append_getElem hs, List.take_succ_eq_append_getElem ht, h, e]
theorem same54 {m : Mp} {s t : List UInt8} (ha : Ascii t) (hl : t.length ≤ 1000) : CS Tryz.prog 54 [.string (bs s), .string (bs t)] m [] (Gives (.bool (decide (s = t)))) := by
 refine yI [.tmp 4] Tryz.func54 rfl rfl rfl ?_;by_cases hlen : s.length = t.length
 rotate_left
 ·have hne : s ≠ t := fun e => hlen (by rw [e]);rw [decide_eq_false hne];have hlen' : ¬ ((s.length : Nat) : Int) = (t.length : Nat) := by omega
  refine tr 9 ?_;refine pe 1 (zg rfl st9) ?_;refine pe 0 (zg rfl st9) ?_;refine cta 10 ?_;exact rt1 ⟨rfl, trivial⟩ ⟨rfl, rfl⟩
 refine tr 9 ?_;refine pe 1 (zg rfl st9) ?_;refine pe 0 (zg rfl st9) ?_;refine cfo 9 ?_;refine zE (ju st9 rfl rfl (fun b1 => ?_)) rfl;refine vr 3 ?_
 refine zj (α := Nat) (fun p => [(0, .string (bs s)), (1, .string (bs t)), (15, .pointer (some ⟨b1, 0, none⟩))]) (fun p => [iter b1 s p]) (fun p => p ≤ s.length ∧ s.take p = t.take p) (fun p => s.length - p) 0 ⟨rfl, rfl, rfl, trivial⟩ (Pick.refl _) ⟨Nat.zero_le _, rfl⟩ ?_;rintro p ⟨hp, he⟩
 try dsimp only at hp he
 try dsimp only
 by_cases hlt : p < s.length
 rotate_left
 ·have hpe : p = s.length := by omega
  subst hpe;rw [List.take_length, hlen, List.take_length] at he;subst he;rw [decide_eq_true rfl];refine tr 2 ?_;refine zE (jT rfl (by first | assumption | omega) .here rfl ?_) rfl;refine vr 7 ?_;refine zC ?_;refine zB ?_;refine qt 7 ?_;exact rt1 ⟨rfl, trivial⟩ ⟨rfl, rfl⟩
 have hd1 := vL s p;have hd2 := vL (t.drop p) 0;have hbt := Qg ha p;have hd3 : dec (t.drop p) 0 = (by_ t p, 1) := by rw [XE]; exact ZL hbt
 rw [hd3] at hd2;have hdl : 0 < (t.drop p).length := by rw [List.length_drop]; omega
 have hx := uh s p;refine tr 2 ?_;refine zE (qn rfl (by first | assumption | omega) (by assumption) .here rfl ?_) rfl;refine vr 20 ?_;refine pe 0 (vk _ st9 rfl rfl rfl (by omega)) ?_;refine zE (ju st9 rfl rfl (fun b2 => ?_)) rfl;refine vr 3 ?_
 refine zj (α := Unit) (fun _ => [(0, .string (bs s)), (1, .string (bs t)), (15, .pointer (some ⟨b1, 0, none⟩)), (6, .int .i32 ((dec s p).1 : Nat)), (23, .pointer (some ⟨b2, 0, none⟩))]) (fun _ => [iter b2 (t.drop p) 0, iter b1 s (p + (dec s p).2)]) (fun _ => True) (fun _ => 0) () ⟨rfl, rfl, rfl, rfl, rfl, trivial⟩ (Pick.refl _) trivial ?_;rintro ⟨⟩ -;by_cases hr : (dec s p).1 = by_ t p
 ·obtain ⟨e1, e2⟩ := Vj (s := s) (p := p) (by omega);have e3 : p + (dec s p).2 = p + 1 := by rw [e1]
  have e4 : by_ s p = by_ t p := by rw [e1] at hr; exact hr
  refine tr 2 ?_;refine zE (qn rfl (by first | assumption | omega) (by assumption) .here rfl ?_) rfl;refine vr 19 ?_;refine cfo 7 ?_;refine zC ?_;refine zB ?_;refine XZ ?_;exact QR (p + 1) (by rw [← e3]; exact .cons .h1 (.nil _)) ⟨by omega, Zf hlt (by omega) he e4⟩ (by omega)
 ·have hne : s ≠ t := fun e => hr (by rw [e, ZL hbt]);have hr' : ¬ (((dec s p).1 : Nat) : Int) = (by_ t p : Nat) := by omega
  rw [decide_eq_false hne];refine tr 2 ?_;refine zE (qn rfl (by first | assumption | omega) (by assumption) .here rfl ?_) rfl;refine vr 19 ?_;refine cta 11 ?_;refine zN ?_;refine zP ?_;refine zP ?_;refine zN ?_;refine zP ?_;refine zY ?_;exact rt1 ⟨rfl, trivial⟩ ⟨rfl, rfl⟩
end
section
open Wd Tp Kd
theorem Zc : ∀ {ws : List Wrd} {i : Nat} (h : i < ws.length), ((wsV ws).drop (i * 4)).take 4 = wV ws[i]
 | w :: r, 0, _ => by simp [wsV, wV]
 | w :: r, i + 1, h => by
   have ih := Zc (ws := r) (i := i) (by simpa using h)
   have : (wsV (w :: r)).drop ((i + 1) * 4) = (wsV r).drop (i * 4) := by
    simp only [wsV, List.flatMap_cons];rw [show (i + 1) * 4 = (wV w).length + i * 4 by simp [wV]; omega, ← List.drop_drop, List.drop_left]
   rw [this, ih]
   rfl
inductive GoodT : List Wrd → Prop
 | last {w : Wrd} (h : w.kind = 0) : GoodT [w]
 | cons {w : Wrd} {r : List Wrd} (h : w.kind ≠ 0) (h2 : (w.kind = 3 → w.text ∈ marks) ∧ (w.kind = 1 → w.text ≠ sOpen)) (ht : w.text.length ≤ 65536) (hr : GoodT r) : GoodT (w :: r)
theorem GoodT.ne {ts : List Wrd} (h : GoodT ts) : ts ≠ [] := by cases h <;> simp
theorem GoodT.tail {ts : List Wrd} (h : GoodT ts) (hk : (hd ts).kind ≠ 0) : GoodT ts.tail := by
 cases h with
 | last h => exact absurd h hk
 | cons _ _ _ hr => exact hr
theorem GoodT.text {ts : List Wrd} (h : GoodT ts) (hk : (hd ts).kind ≠ 0) : (hd ts).text.length ≤ 65536 := by
 cases h with
 | last h => exact absurd h hk
 | cons _ _ ht _ => exact ht
theorem GoodT.mark {ts : List Wrd} (h : GoodT ts) (hk : (hd ts).kind = 3) : (hd ts).text ∈ marks := by
 cases h with
 | @last w h =>
   have h3 : w.kind = 3 := hk;omega
 | cons _ hm _ _ => exact hm.1 hk
theorem GoodT.open {ts : List Wrd} (h : GoodT ts) (hk : isW sOpen ts = true) : (hd ts).kind = 3 ∧ (hd ts).text = sOpen := by
 unfold isW at hk;simp only [Bool.and_eq_true, Bool.or_eq_true, decide_eq_true_eq] at hk;obtain ⟨h1, h2⟩ := hk;refine ⟨?_, h2⟩;rcases h1 with h1 | h1
 ·exfalso
  cases h with
  | @last w h =>
    have : w.kind = 1 := h1;omega
  | cons _ hm _ _ => exact hm.2 h1 h2
 ·exact h1
structure Pos (ws : List Wrd) (at_ : Nat) (ts : List Wrd) : Prop where
 eq : ws.drop at_ = ts
 good : GoodT ts
 small : ws.length ≤ 65537
theorem Pos.lt {ws ts : List Wrd} {at_ : Nat} (h : Pos ws at_ ts) : at_ < ws.length := by
 have h1 := h.good.ne;have h2 := h.eq;by_cases hl : at_ < ws.length
 ·exact hl
 ·rw [List.drop_eq_nil_of_le (by omega)] at h2;exact absurd h2.symm h1
theorem Pos.hdEq {ws ts : List Wrd} {at_ : Nat} (h : Pos ws at_ ts) : ws[at_]'h.lt = hd ts := by
 have h3 : hd (ws.drop at_) = ws[at_]'h.lt := by rw [List.drop_eq_getElem_cons h.lt]; rfl
 rw [← h3, h.eq]
theorem Pos.next {ws ts : List Wrd} {at_ : Nat} (h : Pos ws at_ ts) (hk : (hd ts).kind ≠ 0) : Pos ws (at_ + 1) ts.tail := by
 refine ⟨?_, h.good.tail hk, h.small⟩;have h2 := h.eq;rw [List.drop_eq_getElem_cons h.lt] at h2;rw [← h2]
 rfl
theorem Pos.len {ws ts : List Wrd} {at_ : Nat} (h : Pos ws at_ ts) : at_ + ts.length = ws.length := by
 have := h.lt;rw [← h.eq, List.length_drop];omega
theorem U9 {s : List UInt8} {ts : List Wrd} (h : isW s ts = true) : (hd ts).kind ≠ 0 := by
 unfold isW at h;simp only [Bool.and_eq_true, Bool.or_eq_true, decide_eq_true_eq] at h;omega
theorem Pos.isW {ws ts : List Wrd} {at_ : Nat} {s : List UInt8} (h : Pos ws at_ ts) (hk : isW s ts = true) : Pos ws (at_ + 1) ts.tail := h.next (U9 hk)
abbrev WsR (m : Mp) (A : Option Addr) (ws : List Wrd) : Prop := Rd m A (wsV ws)
theorem Pos.word {m : Mp} {A : Option Addr} {ws ts : List Wrd} {at_ : Nat} (hw : WsR m A ws) (h : Pos ws at_ ts) : At m ((sa A).add (at_ * 4)) [.int .i8 (hd ts).kind, .string (bs (hd ts).text), .int .i64 (hd ts).n, .int .i64 (hd ts).at_] := by
 have h1 := hw.elem (at_ * 4) 4;rw [Zc h.lt, h.hdEq] at h1;exact h1
theorem Pos.isSome {m : Mp} {A : Option Addr} {ws ts : List Wrd} {at_ : Nat} (hw : WsR m A ws) (h : Pos ws at_ ts) : A.isSome = true := hw.isSome (by have := h.lt; rw [Zb]; omega)
abbrev rd (b : Nat) (A : Option Addr) (c : Nat) (ws : List Wrd) (at_ d p : Nat) : Ent := cel b [.slice A ws.length c, .int .i64 (at_ : Nat), .int .i64 (d : Nat), .int .i64 (p : Nat)] 56
def fltV (e a : Int) : Value := .iface 29 (.agg [.int .i64 e, .int .i64 a].toArray)
abbrev ptr (b : Nat) : Value := .pointer (some ⟨b, 0, none⟩)
variable {m : Mp} {b c at_ d p : Nat} {A : Option Addr} {ws ts : List Wrd} {s : List UInt8}
theorem is18 (hw : WsR m A ws) (hp : Pos ws at_ ts) (ha : Ascii s) (hl : s.length ≤ 1000) : CS Tryz.prog 18 [ptr b, .string (bs s)] m [rd b A c ws at_ d p] (fun v L' => v = .bool (isW s ts) ∧ L' = [rd b A c ws at_ d p]) := by
 have hat := hp.word hw;have hA := hp.isSome hw;have hlt := hp.lt;generalize hq : isW s ts = q;unfold isW at hq;generalize hd ts = w at hat hq;refine yI [.tmp 4] Tryz.func18 rfl rfl rfl ?_;by_cases h1 : w.kind = 1
 ·rw [decide_eq_true h1, Bool.true_or, Bool.true_and] at hq;refine tr 6 ?_;refine z6 (sT [0, 1, 2, 4, 5, 6, 103, 107, 8, 109, 210, 311] .done) mixed (by kernel_rfl) (fun _ _ _ _ hq => hq) ?_;refine vt 6 ?_;refine Vl 0 rfl sg51 .here ?_;refine Vl 0 rfl sg3 .here ?_;refine Vt 0 rfl (zI ez51 rfl rfl hA (by omega)) ?_;refine Vu 0 rfl (zJ ag58 rfl rfl hat) ?_
  refine z1 rfl (yH zl58 rfl (fun b1 => ?_)) rfl;refine zW rfl rfl (zS ag58 rfl rfl rfl .here rfl rfl ?_) rfl;refine Vm 4 ?_;refine Lb 0 sg42 .here ?_;refine cta 7 ?_;refine Lb 1 sg9 .here ?_;refine Cr cl54 rfl (fun m' hm he => (same54 ha hl)) ?_;rintro _ rfl;rw [hq];refine vr 5 ?_;exact zm [_] ⟨rfl, trivial⟩ [_] .p1 ⟨rfl, rfl⟩
 by_cases h3 : w.kind = 3
 ·rw [decide_eq_true h3, Bool.or_true, Bool.true_and] at hq;refine tr 6 ?_;refine z6 (sT [0, 1, 2, 4, 5, 6, 103, 107, 8, 109, 210, 311] .done) mixed (by kernel_rfl) (fun _ _ _ _ hq => hq) ?_;refine vt 6 ?_;refine Vl 0 rfl sg51 .here ?_;refine Vl 0 rfl sg3 .here ?_;refine Vt 0 rfl (zI ez51 rfl rfl hA (by omega)) ?_;refine Vu 0 rfl (zJ ag58 rfl rfl hat) ?_
  refine z1 rfl (yH zl58 rfl (fun b1 => ?_)) rfl;refine zW rfl rfl (zS ag58 rfl rfl rfl .here rfl rfl ?_) rfl;refine Vm 4 ?_;refine Lb 0 sg42 .here ?_;refine cfa 2 ?_;refine Lb 0 sg42 .here ?_;refine cta 3 ?_;refine Lb 1 sg9 .here ?_;refine Cr cl54 rfl (fun m' hm he => (same54 ha hl)) ?_;rintro _ rfl;rw [hq];refine vr 5 ?_;exact zm [_] ⟨rfl, trivial⟩ [_] .p1 ⟨rfl, rfl⟩
 rw [decide_eq_false h1, decide_eq_false h3, Bool.false_or, Bool.false_and] at hq;subst hq;refine tr 6 ?_;refine z6 (sT [0, 1, 2, 4, 5, 6, 103, 107, 8, 109, 210, 311] .done) mixed (by kernel_rfl) (fun _ _ _ _ hq => hq) ?_;refine vt 6 ?_;refine Vl 0 rfl sg51 .here ?_;refine Vl 0 rfl sg3 .here ?_;refine Vt 0 rfl (zI ez51 rfl rfl hA (by omega)) ?_
 refine Vu 0 rfl (zJ ag58 rfl rfl hat) ?_;refine z1 rfl (yH zl58 rfl (fun b1 => ?_)) rfl;refine zW rfl rfl (zS ag58 rfl rfl rfl .here rfl rfl ?_) rfl;refine Vm 4 ?_;refine Lb 0 sg42 .here ?_;refine cfa 2 ?_;refine Lb 0 sg42 .here ?_;refine cfa 11 ?_;exact zm [_] ⟨rfl, trivial⟩ [_] .p1 ⟨rfl, rfl⟩
theorem bad19 (e : Int) (hw : WsR m A ws) (hp : Pos ws at_ ts) : CSP Tryz.prog 19 [ptr b, .int .i64 e] m [rd b A c ws at_ d p] (fun _ _ => False) (fun v _ => v = fltV e (hd ts).at_) := by
 have hat := hp.word hw;have hA := hp.isSome hw;have hlt := hp.lt;refine za [] Tryz.func19 rfl rfl rfl ?_;refine z6 (sT [0, 1, 2, 3, 5, 6, 7, 104, 108, 9, 10, 111, 12, 13, 214] .done) mixed (by kernel_rfl) (fun _ _ _ _ hq => hq) ?_;refine vt 7 ?_;refine Vl 0 rfl sg51 .here ?_;refine Vl 0 rfl sg3 .here ?_;refine Vt 1 rfl (zI ez51 rfl rfl hA (by omega)) ?_
 refine Vu 0 rfl (zF sg3 rfl (hat.at_ rfl)) ?_;refine Vt 0 rfl (zT zl29 pl29 rfl rfl) ?_;refine Vt 0 rfl (ZY ni29 us29 rfl) ?_;refine z1 rfl (W4 rfl ?_) rfl;exact pn rfl
theorem take56 (hw : WsR m A ws) (hp : Pos ws at_ ts) (ha : Ascii s) (hl : s.length ≤ 1000) : CS Tryz.prog 56 [ptr b, .string (bs s)] m [rd b A c ws at_ d p]
  (fun v L' => (isW s ts = true ∧ Pos ws (at_ + 1) ts.tail ∧ v = .bool true ∧ L' = [rd b A c ws (at_ + 1) d p]) ∨ (isW s ts = false ∧ v = .bool false ∧ L' = [rd b A c ws at_ d p])) := by
 have hs := hp.small;have hlt := hp.lt;refine yI [.tmp 4] Tryz.func56 rfl rfl rfl ?_;refine tr 10 ?_;refine C1 cl18 rfl .here (fun m' hm he => is18 (hw.mono hm) hp ha hl) ?_;rintro _ _ ⟨rfl, rfl⟩;cases hk : isW s ts with
 | false =>
   refine vr 11 ?_;exact zm [_] ⟨rfl, trivial⟩ [_] .p0 (.inr ⟨rfl, rfl, rfl⟩)
 | true =>
   refine vr 11 ?_;refine Lb 0 sg3 .here ?_;refine Pa 2 ?_;refine Sr 8 co3 .here .h1 ?_;exact zm [_] ⟨rfl, trivial⟩ [_] .p0 (.inl ⟨rfl, hp.isW hk, rfl, rfl⟩)
def RdC {α : Type} (f : FuncId) (args : List Value) (m : Mp) (b : Nat) (A : Option Addr) (c : Nat) (ws : List Wrd) (at_ d p : Nat) (r : R α) (w : α → Nat) (V : α → Value → List Ent → Prop) : Prop :=
 CSP Tryz.prog f args m [rd b A c ws at_ d p] (fun v L' => ∃ x ts' at' Es, r = .ok x ts' ∧ Pos ws at' ts' ∧ V x v Es ∧ L' = rd b A c ws at' d (p + w x) :: Es) (fun v _ => ∃ e a, r = .bad e a ∧ v = fltV e a)
abbrev uV : Unit → Value → List Ent → Prop := fun _ v Es => v = U0 ∧ Es = []
abbrev iiV : Int → Value → List Ent → Prop := fun x v Es => v = .int .i64 x ∧ Es = []
abbrev bV : Int → Value → List Ent → Prop := fun x v Es => v = .int .i8 x ∧ Es = []
abbrev tV : List UInt8 → Value → List Ent → Prop := fun x v Es => v = .string (bs x) ∧ Es = []
theorem musts58 {X : Option Addr} {xc : Nat} {l : List (List UInt8)} (hw : WsR m A ws) (hX : Rd m X (l.map strV)) (hl : l.length ≤ 1000) (ha : ∀ s ∈ l, Ascii s ∧ s.length ≤ 1000) (hp : Pos ws at_ ts) :
  RdC 58 [ptr b, .slice X l.length xc] m b A c ws at_ d p (musts l ts) (fun _ => 0) uV := by
 refine za [] Tryz.func58 rfl rfl rfl ?_;refine tr 8 ?_
 refine zj (α := Nat × Nat × List Wrd) (fun y => [(0, ptr b), (6, .slice X l.length xc), (7, .int .i64 (l.length : Nat)), (8, .int .i64 (y.1 : Nat))]) (fun y => [rd b A c ws y.2.1 d p]) (fun y => y.1 ≤ l.length ∧ Pos ws y.2.1 y.2.2 ∧ musts l ts = musts (l.drop y.1) y.2.2) (fun y => l.length - y.1) (0, at_, ts) ⟨rfl, rfl, rfl, rfl, trivial⟩ (Pick.refl _) ⟨Nat.zero_le _, hp, rfl⟩ ?_
 rintro ⟨i, a, ts⟩ ⟨hi, hp, he⟩;dsimp only at hi hp he;dsimp only;by_cases hlt : i < l.length
 rotate_left
 ·rw [List.drop_eq_nil_of_le (by omega)] at he;refine tr 2 ?_;refine cfo 6 ?_;refine zC ?_;refine zB ?_;exact yO [] trivial _ .p0 ⟨(), ts, a, [], he, hp, ⟨rfl, rfl⟩, rfl⟩
 have hX1 : X.isSome = true := hX.isSome (by rw [List.length_map]; omega);have hg : (l.map strV)[i]? = some (strV l[i]) := by simp [hlt]
 have hcx := hX.at_ hg;have hai := ha l[i] (List.getElem_mem hlt);rw [List.drop_eq_getElem_cons hlt] at he;generalize l[i] = s at hcx hai he;refine tr 2 ?_;refine cto 10 ?_;refine pe 0 (zD ez61 rfl rfl hX1 (by omega)) ?_;refine Lo 7 sg9 rfl hcx ?_;refine C1 cl56 rfl .here (fun m' hm he => take56 (hw.mono hm) hp hai.1 hai.2) ?_;rintro _ _ (⟨hk, hp2, rfl, rfl⟩ | ⟨hk, rfl, rfl⟩)
 ·refine vr 8 ?_;refine Pa 2 ?_;exact QR (i + 1, a + 1, ts.tail) (Pick.refl _) ⟨hlt, hp2, by rw [he]; simp [musts, must, hk, R.bind]⟩ (by dsimp only; omega)
 ·refine vr 6 ?_;refine Cp cl19 rfl .k0 (fun m' hm he => bad19 120 (hw.mono hm) hp) ?_ ?_
  ·rintro _ _ rfl;refine zU ?_;refine zH ?_;exact pn ⟨120, _, by rw [he]; simp [musts, must, hk, R.bind, fail], rfl⟩
  ·rintro _ _ h;exact h.elim
theorem in129 (hw : WsR m A ws) (hp : Pos ws at_ ts) (hd8 : d ≤ 8) : CSP Tryz.prog 129 [ptr b] m [rd b A c ws at_ d p] (fun v L' => d + 1 ≤ 8 ∧ v = U0 ∧ L' = [rd b A c ws at_ (d + 1) p]) (fun v _ => 8 < d + 1 ∧ v = fltV 121 (hd ts).at_) := by
 refine za [] Tryz.func129 rfl rfl rfl ?_;by_cases h8 : d + 1 ≤ 8
 ·refine tr 5 ?_;refine Lb 0 sg3 .here ?_;refine Pa 2 ?_;refine Sr 7 co3 .here .h2 ?_;refine Lb 0 sg3 .here ?_;refine cfo 4 ?_;exact yO [] trivial _ .p0 ⟨h8, rfl, rfl⟩
 ·refine tr 5 ?_;refine Lb 0 sg3 .here ?_;refine Pa 2 ?_;refine Sr 7 co3 .here .h2 ?_;refine Lb 0 sg3 .here ?_;refine cto 5 ?_;refine Cp cl19 rfl .k0 (fun m' hm he => bad19 121 (hw.mono hm) hp) ?_ ?_
  ·rintro _ _ rfl;skip;exact pn ⟨by omega, rfl⟩
  ·rintro _ _ h;exact h.elim
theorem number57 (hw : WsR m A ws) (hp : Pos ws at_ ts) : RdC 57 [ptr b] m b A c ws at_ d p (pNumber ts) (fun _ => 0) iiV := by
 have hat := hp.word hw;have hA := hp.isSome hw;have hlt := hp.lt;have hsm := hp.small;generalize hq : pNumber ts = q;unfold pNumber at hq;refine za [.tmp 2] Tryz.func57 rfl rfl rfl ?_;by_cases h2 : (hd ts).kind = 2
 ·have hp2 := hp.next (by omega);rw [if_pos h2] at hq;generalize hd ts = w at hat hq h2;refine tr 6 ?_;refine z6 (sT [0, 1, 2, 4, 5, 6, 103, 107, 8, 109, 210, 311] .done) mixed (by kernel_rfl) (fun _ _ _ _ hq => hq) ?_;refine vt 6 ?_;refine Vl 0 rfl sg51 .here ?_;refine Vl 0 rfl sg3 .here ?_;refine Vt 0 rfl (zI ez51 rfl rfl hA (by omega)) ?_
  refine Vu 0 rfl (zJ ag58 rfl rfl hat) ?_;refine z1 rfl (yH zl58 rfl (fun b1 => ?_)) rfl;refine zW rfl rfl (zS ag58 rfl rfl rfl .here rfl rfl ?_) rfl;refine Vm 5 ?_;refine Lb 0 sg42 .here ?_;refine cfo 10 ?_;refine Lb 0 sg3 .h1 ?_;refine Pa 2 ?_;refine Sr 5 co3 .h1 .h1 ?_;refine Lb 4 sg3 .here ?_
  exact zb [_] ⟨rfl, trivial⟩ _ .p1 ⟨w.n, ts.tail, at_ + 1, [], hq.symm, hp2, ⟨rfl, rfl⟩, rfl⟩
 ·rw [if_neg h2] at hq;refine tr 6 ?_;refine z6 (sT [0, 1, 2, 4, 5, 6, 103, 107, 8, 109, 210, 311] .done) mixed (by kernel_rfl) (fun _ _ _ _ hq => hq) ?_;refine vt 6 ?_;refine Vl 0 rfl sg51 .here ?_;refine Vl 0 rfl sg3 .here ?_;refine Vt 0 rfl (zI ez51 rfl rfl hA (by omega)) ?_;refine Vu 0 rfl (zJ ag58 rfl rfl hat) ?_;refine z1 rfl (yH zl58 rfl (fun b1 => ?_)) rfl
  refine zW rfl rfl (zS ag58 rfl rfl rfl .here rfl rfl ?_) rfl;refine Vm 5 ?_;refine Lb 0 sg42 .here ?_;refine cta 5 ?_;refine Cp cl19 rfl .k1 (fun m' hm he => bad19 120 (hw.mono hm) hp) ?_ ?_
  ·rintro _ _ rfl;exact pn ⟨120, _, hq.symm, rfl⟩
  ·rintro _ _ h;exact h.elim
theorem name55 (hT : Tabs m) (hw : WsR m A ws) (hp : Pos ws at_ ts) : RdC 55 [ptr b] m b A c ws at_ d p (pName ts) (fun _ => 0) tV := by
 have hat := hp.word hw;have hA := hp.isSome hw;have hlt := hp.lt;have hsm := hp.small;generalize hq : pName ts = q;unfold pName at hq;refine za [.tmp 2] Tryz.func55 rfl rfl rfl ?_;by_cases h1 : (hd ts).kind = 1
 ·cases ho : ownP (hd ts).text with
  | false =>
    have hp2 := hp.next (by omega);rw [if_pos ⟨h1, ho⟩] at hq;generalize hd ts = w at hat hq h1 ho;refine tr 6 ?_;refine z6 (sT [0, 1, 2, 4, 5, 6, 103, 107, 8, 109, 210, 311] .done) mixed (by kernel_rfl) (fun _ _ _ _ hq => hq) ?_;refine vt 6 ?_;refine Vl 0 rfl sg51 .here ?_;refine Vl 0 rfl sg3 .here ?_;refine Vt 0 rfl (zI ez51 rfl rfl hA (by omega)) ?_
    refine Vu 0 rfl (zJ ag58 rfl rfl hat) ?_;refine z1 rfl (yH zl58 rfl (fun b1 => ?_)) rfl;refine zW rfl rfl (zS ag58 rfl rfl rfl .here rfl rfl ?_) rfl;refine Vm 5 ?_;refine Lb 0 sg42 .here ?_;refine cfo 2 ?_;refine Lb 0 sg9 .here ?_;refine Cr cl92 rfl (fun m' hm he => (WZ (hT.mono hm) w.text)) ?_;rintro _ rfl;rw [ho];refine vr 11 ?_;refine Lb 0 sg3 .h1 ?_
    refine Pa 2 ?_;refine Sr 5 co3 .h1 .h1 ?_;refine Lb 4 sg9 .here ?_;exact zb [_] ⟨rfl, trivial⟩ _ .p1 ⟨w.text, ts.tail, at_ + 1, [], hq.symm, hp2, ⟨rfl, rfl⟩, rfl⟩
  | true =>
    rw [if_neg (fun h => by rw [h.2] at ho; cases ho)] at hq;refine tr 6 ?_;refine z6 (sT [0, 1, 2, 4, 5, 6, 103, 107, 8, 109, 210, 311] .done) mixed (by kernel_rfl) (fun _ _ _ _ hq => hq) ?_;refine vt 6 ?_;refine Vl 0 rfl sg51 .here ?_;refine Vl 0 rfl sg3 .here ?_;refine Vt 0 rfl (zI ez51 rfl rfl hA (by omega)) ?_;refine Vu 0 rfl (zJ ag58 rfl rfl hat) ?_
    refine z1 rfl (yH zl58 rfl (fun b1 => ?_)) rfl;refine zW rfl rfl (zS ag58 rfl rfl rfl .here rfl rfl ?_) rfl;refine Vm 5 ?_;refine Lb 0 sg42 .here ?_;refine cfo 2 ?_;refine Lb 0 sg9 .here ?_;refine Cr cl92 rfl (fun m' hm he => (WZ (hT.mono hm) (hd ts).text)) ?_;rintro _ rfl;rw [ho];refine vr 6 ?_
    refine Cp cl19 rfl .k1 (fun m' hm he => bad19 120 (hw.mono hm) hp) ?_ ?_
    ·rintro _ _ rfl;exact pn ⟨120, _, hq.symm, rfl⟩
    ·rintro _ _ h;exact h.elim
 ·rw [if_neg (fun h => h1 h.1)] at hq;refine tr 6 ?_;refine z6 (sT [0, 1, 2, 4, 5, 6, 103, 107, 8, 109, 210, 311] .done) mixed (by kernel_rfl) (fun _ _ _ _ hq => hq) ?_;refine vt 6 ?_;refine Vl 0 rfl sg51 .here ?_;refine Vl 0 rfl sg3 .here ?_;refine Vt 0 rfl (zI ez51 rfl rfl hA (by omega)) ?_;refine Vu 0 rfl (zJ ag58 rfl rfl hat) ?_
  refine z1 rfl (yH zl58 rfl (fun b1 => ?_)) rfl;refine zW rfl rfl (zS ag58 rfl rfl rfl .here rfl rfl ?_) rfl;refine Vm 5 ?_;refine Lb 0 sg42 .here ?_;refine cta 10 ?_;refine Cp cl19 rfl .k1 (fun m' hm he => bad19 120 (hw.mono hm) hp) ?_ ?_
  ·rintro _ _ rfl;exact pn ⟨120, _, hq.symm, rfl⟩
  ·rintro _ _ h;exact h.elim
theorem asc (s : List UInt8) (h : s.all (fun b => decide (b.toNat < 128)) = true) : Ascii s := fun b hb => of_decide_eq_true (List.all_eq_true.1 h b hb)
theorem side128 (hw : WsR m A ws) (hp : Pos ws at_ ts) : RdC 128 [ptr b] m b A c ws at_ d p (pSide ts) (fun _ => 0) bV := by
 generalize hq : pSide ts = q;unfold pSide at hq;refine za [.tmp 2] Tryz.func128 rfl rfl rfl ?_;refine tr 10 ?_;refine C1 cl56 rfl .here (fun m' hm he => take56 (s := sMe) (hw.mono hm) hp (asc _ rfl) (by decide)) ?_;rintro _ _ (⟨hk, hp2, rfl, rfl⟩ | ⟨hk, rfl, rfl⟩)
 ·rw [if_pos hk] at hq;refine vr 12 ?_;exact zb [_] ⟨rfl, trivial⟩ _ .p0 ⟨0, ts.tail, at_ + 1, [], hq.symm, hp2, ⟨rfl, rfl⟩, rfl⟩
 rw [if_neg (by rw [hk]; decide)] at hq;refine vr 7 ?_;refine C1 cl56 rfl .here (fun m' hm he => take56 (s := sFoe) (hw.mono hm) hp (asc _ rfl) (by decide)) ?_;rintro _ _ (⟨hk, hp2, rfl, rfl⟩ | ⟨hk, rfl, rfl⟩)
 ·rw [if_pos hk] at hq;refine vr 12 ?_;exact zb [_] ⟨rfl, trivial⟩ _ .p0 ⟨1, ts.tail, at_ + 1, [], hq.symm, hp2, ⟨rfl, rfl⟩, rfl⟩
 rw [if_neg (by rw [hk]; decide)] at hq;refine vr 10 ?_;refine Cp cl19 rfl .k0 (fun m' hm he => bad19 120 (hw.mono hm) hp) ?_ ?_
 ·rintro _ _ rfl;exact pn ⟨120, _, hq.symm, rfl⟩
 ·rintro _ _ h;exact h.elim
theorem who126 (hw : WsR m A ws) (hp : Pos ws at_ ts) : RdC 126 [ptr b] m b A c ws at_ d p (pWho ts) (fun _ => 0) bV := by
 generalize hq : pWho ts = q;unfold pWho at hq;refine za [.tmp 2] Tryz.func126 rfl rfl rfl ?_;refine tr 9 ?_;refine C1 cl56 rfl .here (fun m' hm he => take56 (s := sTarget) (hw.mono hm) hp (asc _ rfl) (by decide)) ?_;rintro _ _ (⟨hk, hp2, rfl, rfl⟩ | ⟨hk, rfl, rfl⟩)
 ·rw [if_pos hk] at hq;refine vr 10 ?_;exact zb [_] ⟨rfl, trivial⟩ _ .p0 ⟨2, ts.tail, at_ + 1, [], hq.symm, hp2, ⟨rfl, rfl⟩, rfl⟩
 rw [if_neg (by rw [hk]; decide)] at hq;refine vr 8 ?_;refine Cp cl128 rfl .k0 (fun m' hm he => side128 (hw.mono hm) hp) ?_ ?_
 ·rintro _ _ ⟨e, a, h1, rfl⟩;exact pn ⟨e, a, by rw [← hq, h1], rfl⟩
 rintro _ _ ⟨x, ts', at', Es, h1, hp1, ⟨rfl, rfl⟩, rfl⟩;refine vr 4 ?_;exact zb [_] ⟨rfl, trivial⟩ _ .p0 ⟨x, ts', at', [], by rw [← hq, h1], hp1, ⟨rfl, rfl⟩, rfl⟩
end
section
open Wd Tp Kd
theorem Pick.nilE {L L' : List Ent} (hp : Pick L L') : Pick L (pack [] :: L') := fun m h hs => HS.pack_iff.1 (hp m h hs)
theorem Pick.pack2 {L L' : List Ent} {a b : Ent} (hp : Pick L (a :: b :: L')) : Pick L (pack [a, b] :: L') := fun m h hs => (HS.pack_iff (L := [a, b])).1 (hp m h hs)
theorem Pick.pack3 {L L' : List Ent} {a b c : Ent} (hp : Pick L (a :: b :: c :: L')) : Pick L (pack [a, b, c] :: L') := fun m h hs => (HS.pack_iff (L := [a, b, c])).1 (hp m h hs)
structure NumC where
 op : Int
 n : Int
 who : Int
 K : Option Addr
 k : Nat
 kc : Nat
abbrev NumC.v (q : NumC) : List Value := [.int .i8 q.op, .int .i64 q.n, .int .i8 q.who, .slice q.K q.k q.kc]
abbrev numV : NumT → Value → List Ent → Prop := fun x v Es => ∃ (q : NumC) (e : Ent), v = .agg q.v.toArray ∧ Es = [e] ∧ ∀ ns, e.inv ns → NumR ns q.v x
theorem numPlain {m : Mp} {op n who : Int} (ho : In8 op) : NumR m [.int .i8 op, .int .i64 n, .int .i8 who, .slice none 0 0] (plainN op n who) := .mk (vs := []) ho rfl (Nat.zero_le _) (Rd.nil _ _) rfl fun i h => by cases h
theorem numPair {m : Mp} {op : Int} {K : Nat} {q r : NumC} {x y : NumT} (ho : In8 op) (h : (cel K (q.v ++ r.v) 45).inv m) (hx : NumR m q.v x) (hy : NumR m r.v y) : NumR m [.int .i8 op, .int .i64 0, .int .i8 0, .slice (some ⟨K, 0, none⟩) 2 2] (putN op x y) :=
 .mk (vs := q.v ++ r.v) ho rfl (by decide) (Rd.blk h) rfl fun i hi => by
  have : i = 0 ∨ i = 1 := by have : i < 2 := hi; omega
  rcases this with rfl | rfl
  ·exact hx
  ·exact hy
theorem pair151 {m : Mp} {op : Int} {q r : NumC} : CS Tryz.prog 151 [.int .i8 op, .agg q.v.toArray, .agg r.v.toArray] m [] (fun v L' => ∃ K, v = .agg [.int .i8 op, .int .i64 0, .int .i8 0, .slice (some ⟨K, 0, none⟩) 2 2].toArray ∧ L' = [cel K (q.v ++ r.v) 45]) := by
 refine yI [.cell 6 45] Tryz.func151 rfl rfl rfl ?_;refine tr 2 ?_;refine Bx 0 rfl fun b1 => ?_;refine Bx 0 rfl fun b2 => ?_;refine Al 5 zl45 fun b3 => ?_;refine Lc 0 ag45 .h2 ?_;refine Lc 0 ag45 .h1 ?_;refine Bs 0 sl43 fun b4 => ?_;refine pe 0 (zT zl45 pl45 rfl rfl) ?_;refine Sg 3 ag45 .h1 ?_;exact zm [_] ⟨⟨b3, _, _, _, rfl, .h1, .inr ⟨rfl, rfl⟩⟩, trivial⟩ _ .p0 ⟨b4, rfl, rfl⟩
theorem TS_scopeJ' {P : Program} {n : Nat} {env : Env} {m : Mp} {L : List Ent} {Q : Post} {α : Type} {c rest : Code} (l : Nat) (hf : findLabel c l = some (.seq .skip rest)) (S : α → Env) (LL : α → List Ent) (F : α → Prop) (μ : α → Nat) (pass : ∀ (y : α), F y → TS P n rest (S y) m (LL y) (jumpS m l S LL F μ (some (μ y)) Q))
  (first : (∀ (y : α), F y → TS P n rest (S y) m (LL y) (jumpS m l S LL F μ (some (μ y)) Q)) → TS P n c env m L (jumpS m l S LL F μ none Q)) : TS P n (.scope c) env m L Q := V5 l hf S LL F μ (first pass) fun y hy => Qx (W2 (W6 (pass y hy)))
theorem qe {signs : List (List UInt8 × Int)} {ts : List Wrd} {i : Nat} (h : i < signs.length) (hk : isW signs[i].1 ts = true) (hn : ∀ (j : Nat) (hj : j < signs.length), j < i → isW signs[j].1 ts = false) : (signs.find? fun s => isW s.1 ts) = some signs[i] := by
 rw [List.find?_eq_some_iff_getElem];refine ⟨hk, i, h, rfl, fun j hj => ?_⟩
 simp [hn j (by omega) hj]
theorem qd {signs : List (List UInt8 × Int)} {ts : List Wrd} (hn : ∀ (j : Nat) (hj : j < signs.length), isW signs[j].1 ts = false) : (signs.find? fun s => isW s.1 ts) = none := by
 rw [List.find?_eq_none];intro s hs;obtain ⟨j, hj, rfl⟩ := List.getElem_of_mem hs
 simp [hn j hj]
structure SignsR (m : Mp) (X Y : Option Addr) (signs : List (List UInt8 × Int)) : Prop where
 x : Rd m X (signs.map fun s => strV s.1)
 y : Rd m Y (signs.map fun s => .int .i8 s.2)
theorem SignsR.mono {m m' : Mp} {X Y : Option Addr} {signs : List (List UInt8 × Int)} (h : SignsR m X Y signs) (hl : Le m m') : SignsR m' X Y signs := ⟨h.x.mono hl, h.y.mono hl⟩
def SignsOk (signs : List (List UInt8 × Int)) : Prop := signs.length ≤ 10 ∧ ∀ s ∈ signs, Ascii s.1 ∧ s.1.length ≤ 1000 ∧ In8 s.2
structure RowS (α κ : Type) where
 n : Nat
 bx : Nat
 at_ : Nat
 p : Nat
 ts : List Wrd
 x : α
 q : κ
 e : Ent
theorem row149 {m : Mp} {b c at_ d p : Nat} {A : Option Addr} {ws ts : List Wrd} {g : FuncId} {one : List Wrd → R NumT} {signs : List (List UInt8 × Int)} {X Y : Option Addr} {xc yc n k : Nat} (hcl : callable Tryz.prog g = true) (hw : WsR m A ws) (hsg : SignsR m X Y signs) (hso : SignsOk signs)
  (he1 : ∀ ts, ts.length < k → Tp.Ends (one ts) numW ts.length)
  (hone : ∀ m', Le m m' → ∀ (at_ p : Nat) (ts : List Wrd), Pos ws at_ ts → p + ts.length ≤ 4611686018427387904 → ts.length < k → RdC g [ptr b] m' b A c ws at_ d p (one ts) numW numV)
  (hp : Pos ws at_ ts) (hb : p + ts.length ≤ 4611686018427387904) (hn : ts.length < n) (hk : ts.length < k) :
  RdC 149 [ptr b, .slice X signs.length xc, .slice Y signs.length yc, .func (.func g) [ptr b].toArray [].toArray, .func (.func 151) [].toArray [].toArray] m b A c ws at_ d p (pRow one signs putN n ts) numW numV := by
 generalize hF : pRow one signs putN n ts = F;unfold pRow at hF;obtain ⟨hsl, hs8⟩ := hso;refine za [.cell 10 45] Tryz.func149 rfl rfl rfl ?_;refine tr 2 ?_;refine Al 2 zl45 fun b1 => ?_
 refine TS_scopeJ' (α := RowS NumT NumC) 0 rfl (fun y => [(0, ptr b), (1, .slice X signs.length xc), (2, .slice Y signs.length yc), (3, .func (.func g) [ptr b].toArray [].toArray), (4, .func (.func 151) [].toArray [].toArray), (10, ptr b1), (11, ptr y.bx)]) (fun y => [rd b A c ws y.at_ d y.p, y.e, cel y.bx y.q.v 45, cel b1 [.int .i8 0, .int .i64 0, .int .i8 0, .slice none 0 0] 45])
  (fun y => pRest one signs putN y.n y.x y.ts = F ∧ Pos ws y.at_ y.ts ∧ y.p + y.ts.length ≤ 4611686018427387904 ∧ y.ts.length < y.n ∧ y.ts.length < k ∧ y.p = p + numW y.x ∧ ∀ ns, y.e.inv ns → NumR ns y.q.v y.x) (fun y => y.n) ?_ (fun hpass => ?_)
 ·rintro ⟨n, bx, a, p1, ts, x, q, e⟩ ⟨hF, hp, hb, hn, hk, hpw, hx⟩;dsimp only at hF hp hb hn hk hpw hx;dsimp only;obtain ⟨n, rfl⟩ : ∃ n', n = n' + 1 := ⟨n - 1, by omega⟩;refine tr 9 ?_
  refine zj (α := Nat) (fun i => [(0, ptr b), (1, .slice X signs.length xc), (2, .slice Y signs.length yc), (3, .func (.func g) [ptr b].toArray [].toArray), (4, .func (.func 151) [].toArray [].toArray), (10, ptr b1), (11, ptr bx), (17, .slice X signs.length xc), (18, .int .i64 (signs.length : Nat)), (19, .int .i64 (i : Nat))]) (fun i => [rd b A c ws a d p1, e, cel bx q.v 45, cel b1 [.int .i8 0, .int .i64 0, .int .i8 0, .slice none 0 0] 45]) (fun i => i ≤ signs.length ∧ ∀ (j : Nat) (hj : j < signs.length), j < i → isW signs[j].1 ts = false) (fun i => signs.length - i) 0 ⟨rfl, rfl, rfl, rfl, rfl, rfl, rfl, rfl, rfl, rfl, trivial⟩ (Pick.refl _) ⟨Nat.zero_le _, fun _ _ h => by cases h⟩ ?_
  rintro i ⟨hi, hno⟩;by_cases hlt : i < signs.length
  rotate_left
  ·have hfn := qd (signs := signs) (ts := ts) fun j hj => hno j hj (by omega);unfold pRest at hF;rw [hfn] at hF;dsimp only at hF;refine tr 2 ?_;refine cfo 6 ?_;refine zC ?_;refine zB ?_;refine qt 3 ?_;refine Lc 0 ag45 .h2 ?_;refine Sg 3 ag45 .h3 ?_;refine jf ?_
   exact zb [_] ⟨⟨b1, _, _, _, rfl, .h3, .inr ⟨rfl, rfl⟩⟩, trivial⟩ _ .pp ⟨x, ts, a, [e], hF.symm, hp, ⟨q, e, rfl, rfl, hx⟩, by rw [hpw]⟩
  have hX1 : X.isSome = true := hsg.x.isSome (by rw [List.length_map]; omega);have hY1 : Y.isSome = true := hsg.y.isSome (by rw [List.length_map]; omega);have hcx := hsg.x.at_ (show (signs.map fun s => strV s.1)[i]? = some (strV signs[i].1) by simp [hlt]);have hcy := hsg.y.at_ (show (signs.map fun s => Value.int .i8 s.2)[i]? = some (.int .i8 signs[i].2) by simp [hlt])
  have hai := hs8 signs[i] (List.getElem_mem hlt);have hfa := fun h => qe (ts := ts) hlt h hno
  have hnext : isW signs[i].1 ts = false → ∀ (j : Nat) (hj : j < signs.length), j < i + 1 → isW signs[j].1 ts = false := fun h j hj h2 => by
   by_cases hji : j < i
   ·exact hno j hj hji
   ·obtain rfl : j = i := by omega
    exact h
  generalize signs[i] = sg at hcx hcy hai hfa hnext;refine tr 2 ?_;refine cto 11 ?_;refine pe 0 (zD ez61 rfl rfl hX1 (by omega)) ?_;refine Lo 8 sg9 rfl hcx ?_;refine C1 cl56 rfl .here (fun m' hm he => take56 (s := sg.1) (hw.mono hm) hp hai.1 hai.2.1) ?_;rintro _ _ (⟨hk1, hp2, rfl, rfl⟩ | ⟨hk1, rfl, rfl⟩)
  rotate_left
  ·refine vr 7 ?_;refine Pa 2 ?_;exact QR (i + 1) (Pick.refl _) ⟨hlt, hnext hk1⟩ (by omega)
  have hl1 := zh hk1;unfold pRest at hF;rw [hfa hk1] at hF;dsimp only at hF;have hend := he1 ts.tail (by omega);refine vr 8 ?_;refine Lb 0 sg3 .here ?_;refine Pa 2 ?_;refine Sr 5 co3 .here .h3 ?_;refine zE (yl (p := [ptr b]) (q := []) (vs := []) hcl rfl rfl .k0 (fun m' hm he => hone m' hm (a + 1) (p1 + 1) ts.tail hp2 (by omega) (by omega)) rfl ?_ ?_) rfl
  ·rintro _ _ ⟨e', a', h1, rfl⟩;rw [h1] at hF;refine zU ?_;refine zH ?_;refine zU ?_;refine wt ?_;exact pn ⟨e', a', hF.symm, rfl⟩
  rintro _ _ ⟨y, ts2, at2, _, h1, hp3, ⟨r, ey, rfl, rfl, hy⟩, rfl⟩;rw [h1] at hF;have hlen := hend.2 y ts2 h1;have hyp := qV y;change pRest one signs putN n (putN sg.2 x y) ts2 = F at hF;refine Al 0 zl45 fun b2 => ?_;refine Sg 3 ag45 .here ?_;refine z6 (sT [0, 1, 2, 3, 104, 105, 106, 307, 308] .done) mixed (by kernel_rfl) (fun _ _ _ _ hq => hq) ?_;refine vt 3 ?_
  refine Vt 0 rfl (zD ez168 rfl rfl hY1 (by omega)) ?_;refine Vu 0 rfl (zF sg42 rfl hcy) ?_;refine Vu 0 rfl (ye ag45 rfl .h4 rfl) ?_;refine Vu 0 rfl (ye ag45 rfl .here rfl) ?_;refine zW rfl rfl ((W5 (p := []) (q := []) (vs := [.int .i8 sg.2, .agg q.v.toArray, .agg r.v.toArray]) cl151 rfl rfl (fun m' hm he => pair151) rfl ?_)) rfl;rintro _ _ ⟨K, rfl, rfl⟩
  refine zW rfl rfl (zS ag45 rfl rfl rfl .h5 rfl rfl ?_) rfl;refine Vm 1 ?_;refine W3 ?_;refine xx ?_;refine wI ?_;refine uu ?_;refine xx ?_;refine wI ?_
  exact qp (⟨n, bx, at2, p1 + 1 + numW y, ts2, putN sg.2 x y, ⟨sg.2, 0, 0, some ⟨K, 0, none⟩, 2, 2⟩, pack [cel K (q.v ++ r.v) 45, ey, e]⟩ : RowS NumT NumC) ⟨rfl, rfl, rfl, rfl, rfl, rfl, rfl, trivial⟩ (.cons .h2 (Pick.pack3 (.cons .here (.cons .h1 (.cons .h1 (.cons .h1 .p1))))))
   ⟨hF, hp3, by dsimp only; omega, by dsimp only; omega, by dsimp only; omega, by dsimp only; rw [xy]; omega, fun ns h => numPair hai.2.2 (h.1 _ (.head _)) (hx ns (h.1 _ (.tail _ (.tail _ (.head _))))) (hy ns (h.1 _ (.tail _ (.head _))))⟩ (fun k0 h => by cases h; exact Nat.lt_succ_self _)
 ·refine tr 3 ?_;refine zE (yl (p := [ptr b]) (q := []) (vs := []) hcl rfl rfl .k1 (fun m' hm he => hone m' hm at_ p ts hp hb hk) rfl ?_ ?_) rfl
  ·rintro _ _ ⟨e', a', h1, rfl⟩;rw [h1] at hF;refine uL ?_;refine wt ?_;exact pn ⟨e', a', hF.symm, rfl⟩
  rintro _ _ ⟨y, ts2, at2, _, h1, hp3, ⟨r, ey, rfl, rfl, hy⟩, rfl⟩;rw [h1] at hF;have hlen := (he1 ts hk).2 y ts2 h1;have hyp := qV y;change pRest one signs putN n y ts2 = F at hF;refine Al 0 zl45 fun b2 => ?_;refine Sg 3 ag45 .here ?_;refine XU ?_;refine qt 1 ?_
  exact XV (k0 := n) (⟨n, b2, at2, p + numW y, ts2, y, r, ey⟩ : RowS NumT NumC) (hpass _ ⟨hF, hp3, by show p + numW y + ts2.length ≤ 4611686018427387904; omega, by show ts2.length < n; omega, by show ts2.length < k; omega, rfl, hy⟩) ⟨rfl, rfl, rfl, rfl, rfl, rfl, rfl, trivial⟩ (.cons .h1 (.cons .h1 .pp))
end
namespace Tp
open Go Go.Eng Wd Kd
abbrev sSp : List UInt8 := [32]
def d8 (k : Nat) : UInt8 := UInt8.ofNat (48 + k)
def dg (n : Nat) : List UInt8 := if n < 10 then [d8 n] else if n < 100 then [d8 (n / 10), d8 (n % 10)] else [d8 (n / 100), d8 (n / 10 % 10), d8 (n % 10)]
def decP (n : Int) : List UInt8 := dg n.toNat
def sideP (w : Int) : Option (List UInt8) := if w = 0 then some sMe else if w = 1 then some sFoe else none
def leafP (op n who : Int) : Option (List UInt8) :=
 if op = 0 then (if who = 0 ∧ 0 ≤ n ∧ n ≤ 999 then some (decP n) else none)
 else if n ≠ 0 then none
 else if op = 1 then (sideP who).map fun s => sLife ++ sOpen ++ s ++ sClose
 else if op = 2 then (sideP who).map fun s => sHand ++ sOpen ++ s ++ sClose
 else if op = 3 then (sideP who).map fun s => sDeck ++ sOpen ++ s ++ sClose
 else if op = 4 then (sideP who).map fun s => sUnits ++ sOpen ++ s ++ sClose
 else if who ≠ 0 then none
 else if op = 5 then some (sMana ++ sOpen ++ sMe ++ sClose)
 else if op = 6 then some (sCost ++ sOpen ++ sTop ++ sOpen ++ sMe ++ sClose ++ sClose)
 else if op = 7 then some (sPower ++ sOpen ++ sTarget ++ sClose)
 else none
def inP (d : Nat) (f : Nat → Option (List UInt8)) : Option (List UInt8) := if d + 1 ≤ 8 then f (d + 1) else none
def brP (br : Bool) (d : Nat) (f : Nat → Option (List UInt8)) : Option (List UInt8) := if br then (inP d f).map fun s => sOpen ++ s ++ sClose else f d
def opN : NumT → Int | .mk op _ _ _ => op
def isSum (x : NumT) : Bool := decide (opN x = 8) || decide (opN x = 9)
def opC : CondT → Int | .mk op _ _ _ _ => op
def putP (f : List UInt8 → List UInt8 → List UInt8) (a b : Option (List UInt8)) : Option (List UInt8) := a.bind fun s => b.bind fun t => some (f s t)
def minT (w s t : List UInt8) : List UInt8 := w ++ sOpen ++ s ++ sComma ++ sSp ++ t ++ sClose
def sgnT (w s t : List UInt8) : List UInt8 := s ++ sSp ++ w ++ sSp ++ t
def numP : NumT → Nat → Option (List UInt8)
 | .mk op n who [], _ => leafP op n who
 | .mk op n who [a, b], d =>
   if ¬ (n = 0 ∧ who = 0) then none
   else if op = 11 then putP (minT sMin) (inP d (numP a)) (inP d (numP b))
   else if op = 12 then putP (minT sMax) (inP d (numP a)) (inP d (numP b))
   else if op = 10 then putP (sgnT sStar) (brP (isSum a) d (numP a)) (brP (isSum b || decide (opN b = 10)) d (numP b))
   else if op = 8 then putP (sgnT sPlus) (numP a d) (brP (isSum b) d (numP b))
   else if op = 9 then putP (sgnT sMinus) (numP a d) (brP (isSum b) d (numP b))
   else none
 | _, _ => none
termination_by structural x => x
def condP : CondT → Nat → Option (List UInt8)
 | .mk op who name [a, b] [], d =>
   if ¬ (who = 0 ∧ name = []) then none
   else if op = 0 then putP (sgnT sLt) (numP a d) (numP b d)
   else if op = 1 then putP (sgnT sLe) (numP a d) (numP b d)
   else if op = 2 then putP (sgnT sEq) (numP a d) (numP b d)
   else none
 | .mk op who name [] [], _ => if op = 6 ∧ nameP name = true then (sideP who).map fun s => sHolds ++ sOpen ++ s ++ sComma ++ sSp ++ name ++ sClose else none
 | .mk op who name [] [k], d => if op = 3 ∧ who = 0 ∧ name = [] then (inP d fun d => brP (decide (opC k = 4) || decide (opC k = 5)) d (condP k)).map fun s => sNot ++ sSp ++ s else none
 | .mk op who name [] [a, b], d =>
   if ¬ (who = 0 ∧ name = []) then none
   else if op = 5 then putP (sgnT sOr) (condP a d) (brP (decide (opC b = 5)) d (condP b))
   else if op = 4 then putP (sgnT sAnd) (brP (decide (opC a = 5)) d (condP a)) (brP (decide (opC b = 5) || decide (opC b = 4)) d (condP b))
   else none
 | _, _ => none
termination_by structural x => x
def whoP (w : Int) : Option (List UInt8) := if w = 2 then some sTarget else sideP w
def zeroN : NumT → Bool | .mk op n who k => decide (op = 0) && decide (n = 0) && decide (who = 0) && k.isEmpty
def zeroC : CondT → Bool | .mk op who name ns k => decide (op = 0) && decide (who = 0) && name.isEmpty && ns.isEmpty && k.isEmpty
def lineP (w : List UInt8) (a b : Option (List UInt8)) : Option (List UInt8) := putP (fun s t => w ++ sSp ++ s ++ sSp ++ t ++ sSemi) a b
def line1 (w : List UInt8) (a : Option (List UInt8)) : Option (List UInt8) := a.map fun s => w ++ sSp ++ s ++ sSemi
mutual
def effP : EffT → Nat → Option (List UInt8)
 | .mk op who n name c t e, d =>
   if op = 8 then
    if who = 0 ∧ name = [] ∧ zeroN n = true then
     inP d fun d => (condP c d).bind fun s => (blkP t d).bind fun u => (blkP e d).bind fun v => some (sIf ++ sSp ++ s ++ sSp ++ sLb ++ u ++ sSp ++ sRb ++ sSp ++ sElse ++ sSp ++ sLb ++ v ++ sSp ++ sRb)
    else none
   else if ¬ (zeroC c = true ∧ t.isEmpty = true ∧ e.isEmpty = true) then none
   else if op = 7 then (if who = 0 ∧ zeroN n = true ∧ nameP name = true then line1 sSummon (some name) else none)
   else if ¬ name = [] then none
   else if op = 0 then lineP sHarm (whoP who) (numP n d)
   else if op = 1 then lineP sMend (whoP who) (numP n d)
   else if op = 2 then lineP sDraw (sideP who) (numP n d)
   else if op = 3 then (if who = 0 then line1 sGain (numP n d) else none)
   else if op = 5 then (if who = 0 then line1 sLook (numP n d) else none)
   else if op = 4 then (if zeroN n = true then line1 sDrop (sideP who) else none)
   else if op = 6 then (if zeroN n = true then line1 sShow (sideP who) else none)
   else none
termination_by structural x => x
def blkP : List EffT → Nat → Option (List UInt8)
 | [], _ => some []
 | x :: r, d => (effP x d).bind fun s => (blkP r d).bind fun u => some (sSp ++ s ++ u)
termination_by structural x => x
end
end Tp
namespace Tp
open Go Go.Eng Wd Kd
theorem yR (op n who : Int) (d : Nat) : numP (.mk op n who []) d = leafP op n who := by rw [numP]
def twoP (op : Int) (a b : NumT) (d : Nat) : Option (List UInt8) :=
 if op = 11 then putP (minT sMin) (inP d (numP a)) (inP d (numP b))
 else if op = 12 then putP (minT sMax) (inP d (numP a)) (inP d (numP b))
 else if op = 10 then putP (sgnT sStar) (brP (isSum a) d (numP a)) (brP (isSum b || decide (opN b = 10)) d (numP b))
 else if op = 8 then putP (sgnT sPlus) (numP a d) (brP (isSum b) d (numP b))
 else if op = 9 then putP (sgnT sMinus) (numP a d) (brP (isSum b) d (numP b))
 else none
theorem xz (op n who : Int) (a b : NumT) (d : Nat) : numP (.mk op n who [a, b]) d = if ¬ (n = 0 ∧ who = 0) then none else twoP op a b d := by rw [numP]; rfl
theorem kB (op n who : Int) (k : List NumT) (d : Nat) (h0 : k ≠ []) (h2 : ∀ a b, k ≠ [a, b]) : numP (.mk op n who k) d = none := by
 match k, h0, h2 with
 | [], h0, _ => exact absurd rfl h0
 | [a], _, _ => rw [numP]; all_goals (intros; simp_all)
 | [a, b], _, h2 => exact absurd rfl (h2 a b)
 | a :: b :: c :: r, _, _ => rw [numP]; all_goals (intros; simp_all)
theorem VR {op n who : Int} (h : 8 ≤ op) : leafP op n who = none := by
 unfold leafP;rw [if_neg (by omega)]
 split
 ·rfl
 rw [if_neg (by omega), if_neg (by omega), if_neg (by omega), if_neg (by omega)]
 split
 ·rfl
 rw [if_neg (by omega), if_neg (by omega), if_neg (by omega)]
theorem Xf {op : Int} {a b : NumT} {d : Nat} (h : ¬ (8 ≤ op ∧ op ≤ 12)) : twoP op a b d = none := by
 unfold twoP;rw [if_neg (by omega), if_neg (by omega), if_neg (by omega), if_neg (by omega), if_neg (by omega)]
theorem Uq {op n who : Int} {k : List NumT} {d : Nat} (h : 8 ≤ op) (hb : ¬ (n = 0 ∧ who = 0 ∧ k.length = 2)) : numP (.mk op n who k) d = none := by
 by_cases h0 : k = []
 ·subst h0; rw [yR]; exact VR h
 by_cases h2 : ∀ a b, k ≠ [a, b]
 ·exact kB _ _ _ _ _ h0 h2
 ·simp only [Classical.not_forall, Classical.not_not] at h2;obtain ⟨a, b, rfl⟩ := h2;rw [xz, if_pos (fun h => hb ⟨h.1, h.2, rfl⟩)]
theorem X4 {op n who : Int} {k : List NumT} {d : Nat} (h : ¬ (8 ≤ op ∧ op ≤ 12)) (hb : k.length ≠ 0) : numP (.mk op n who k) d = none := by
 by_cases h2 : ∀ a b, k ≠ [a, b]
 ·exact kB _ _ _ _ _ (by rintro rfl; exact hb rfl) h2
 ·simp only [Classical.not_forall, Classical.not_not] at h2;obtain ⟨a, b, rfl⟩ := h2;rw [xz]
  split
  ·rfl
  ·exact Xf h
theorem WA {op n who : Int} (hb : ¬ ((n = 0 ∨ op = 0) ∧ (who = 0 ∨ (1 ≤ op ∧ op ≤ 4)))) : leafP op n who = none := by
 unfold leafP
 split
 ·rw [if_neg];rintro ⟨h1, -, -⟩;exact hb ⟨.inr ‹_›, .inl h1⟩
 split
 ·rfl
 rename_i h0 hn
 have hn : n = 0 := by omega
 have hw : who ≠ 0 ∧ ¬ (1 ≤ op ∧ op ≤ 4) := by
  refine ⟨fun h => hb ⟨.inl hn, .inl h⟩, fun h => hb ⟨.inl hn, .inr h⟩⟩
 rw [if_neg (by omega), if_neg (by omega), if_neg (by omega), if_neg (by omega), if_pos hw.1]
theorem yJ {w : Int} {s : List UInt8} (h : sideP w = some s) : s.length ≤ 3 := by
 unfold sideP at h
 split at h
 ·cases h; decide
 ·split at h
  ·cases h; decide
  ·cases h
theorem Wv (n : Nat) : (dg n).length ≤ 3 := by
 unfold dg
 split
 ·exact Nat.le_add_left 1 2
 ·split <;> simp
theorem X9 {op n who : Int} {s : List UInt8} (h : leafP op n who = some s) : s.length ≤ 20 := by
 have side : ∀ (w : List UInt8), w.length ≤ 5 → ((sideP who).map fun s => w ++ sOpen ++ s ++ sClose) = some s → s.length ≤ 20 := by
  intro w hw h;cases hs : sideP who with
  | none => rw [hs] at h; cases h
  | some t =>
    rw [hs] at h;cases h;have := yJ hs;simp only [List.length_append, List.length_cons, List.length_nil];omega
 unfold leafP at h
 split at h
 ·split at h
  ·cases h;have := Wv n.toNat;unfold decP;omega
  ·cases h
 ·split at h
  ·cases h
  ·split at h
   ·exact side sLife (by decide) h
   ·split at h
    ·exact side sHand (by decide) h
    ·split at h
     ·exact side sDeck (by decide) h
     ·split at h
      ·exact side sUnits (by decide) h
      ·split at h
       ·cases h
       ·split at h
        ·cases h; decide
        ·split at h
         ·cases h; decide
         ·split at h
          ·cases h; decide
          ·cases h
theorem zr {f : List UInt8 → List UInt8 → List UInt8} {a b : Option (List UInt8)} {s : List UInt8} (h : putP f a b = some s) : ∃ u v, a = some u ∧ b = some v ∧ s = f u v := by
 unfold putP at h;cases a with
 | none => cases h
 | some u =>
   cases b with
   | none => cases h
   | some v => exact ⟨u, v, rfl, rfl, (Option.some.inj h).symm⟩
theorem yQ {d : Nat} {f : Nat → Option (List UInt8)} {s : List UInt8} (h : inP d f = some s) : d + 1 ≤ 8 ∧ f (d + 1) = some s := by
 unfold inP at h
 split at h
 ·exact ⟨‹_›, h⟩
 ·cases h
theorem wU {br : Bool} {d : Nat} {f : Nat → Option (List UInt8)} {s : List UInt8} (h : brP br d f = some s) : (br = false ∧ f d = some s) ∨ (br = true ∧ d + 1 ≤ 8 ∧ ∃ t, f (d + 1) = some t ∧ s = sOpen ++ t ++ sClose) := by
 unfold brP at h;cases br with
 | false => exact .inl ⟨rfl, h⟩
 | true =>
   rw [if_pos rfl] at h;cases hi : inP d f with
   | none => rw [hi] at h; cases h
   | some t =>
     rw [hi] at h;cases h;obtain ⟨h1, h2⟩ := yQ hi;exact .inr ⟨rfl, h1, t, h2, rfl⟩
theorem wC {br : Bool} {d w c : Nat} {f : Nat → Option (List UInt8)} {s : List UInt8} (hf : ∀ d s, f d = some s → s.length + c ≤ w) (h : brP br d f = some s) : s.length + c ≤ w + 2 := by
 rcases wU h with ⟨-, h⟩ | ⟨-, -, t, h, rfl⟩
 ·have := hf _ _ h; omega
 ·have := hf _ _ ‹f (d + 1) = some t›;simp only [List.length_append, List.length_cons, List.length_nil];omega
theorem Yv (op n who : Int) (a b : NumT) : numW (.mk op n who [a, b]) = 1 + numW a + numW b := by rw [wh]; simp; omega
theorem vC {op n who : Int} {k : List NumT} {d : Nat} {s : List UInt8} (h : numP (.mk op n who k) d = some s) : (k = [] ∧ leafP op n who = some s) ∨ ∃ a b, k = [a, b] ∧ n = 0 ∧ who = 0 ∧ twoP op a b d = some s := by
 by_cases h0 : k = []
 ·subst h0;rw [yR] at h;exact .inl ⟨rfl, h⟩
 by_cases h2 : ∀ a b, k ≠ [a, b]
 ·rw [kB _ _ _ _ _ h0 h2] at h; cases h
 ·simp only [Classical.not_forall, Classical.not_not] at h2;obtain ⟨a, b, rfl⟩ := h2;rw [xz] at h
  split at h
  ·cases h
  ·rename_i hn
   have hn : n = 0 ∧ who = 0 := Classical.not_not.1 hn;exact .inr ⟨a, b, rfl, hn.1, hn.2, h⟩
theorem VD {op : Int} {a b : NumT} {d : Nat} {s : List UInt8} {wa wb : Nat} (ha : ∀ d s, numP a d = some s → s.length ≤ wa) (hb : ∀ d s, numP b d = some s → s.length ≤ wb) (h : twoP op a b d = some s) : s.length ≤ wa + wb + 7 := by
 unfold twoP at h;have hba : ∀ br d s, brP br d (numP a) = some s → s.length ≤ wa + 2 := fun br d s h => wC (c := 0) ha h;have hbb : ∀ br d s, brP br d (numP b) = some s → s.length ≤ wb + 2 := fun br d s h => wC (c := 0) hb h
 split at h
 ·obtain ⟨u, v, h1, h2, rfl⟩ := zr h;have := ha _ _ (yQ h1).2;have := hb _ _ (yQ h2).2;simp only [minT, sgnT, List.length_append, List.length_cons, List.length_nil];omega
 split at h
 ·obtain ⟨u, v, h1, h2, rfl⟩ := zr h;have := ha _ _ (yQ h1).2;have := hb _ _ (yQ h2).2;simp only [minT, sgnT, List.length_append, List.length_cons, List.length_nil];omega
 split at h
 ·obtain ⟨u, v, h1, h2, rfl⟩ := zr h;have := hba _ _ _ h1;have := hbb _ _ _ h2;simp only [minT, sgnT, List.length_append, List.length_cons, List.length_nil];omega
 split at h
 ·obtain ⟨u, v, h1, h2, rfl⟩ := zr h;have := ha _ _ h1;have := hbb _ _ _ h2;simp only [minT, sgnT, List.length_append, List.length_cons, List.length_nil];omega
 split at h
 ·obtain ⟨u, v, h1, h2, rfl⟩ := zr h;have := ha _ _ h1;have := hbb _ _ _ h2;simp only [minT, sgnT, List.length_append, List.length_cons, List.length_nil];omega
 ·cases h
theorem xH : ∀ {x : NumT} {d : Nat} {s : List UInt8}, numP x d = some s → s.length ≤ 24 * numW x
 | .mk op n who k, d, s, h => by
   rcases vC h with ⟨hk, h⟩ | ⟨a, b, hk, -, -, h⟩
   ·have := X9 h;rw [wh, hk];simp only [List.map_nil, List.sum_nil];omega
   ·have := VD (fun d s h => xH (x := a) h) (fun d s h => xH (x := b) h) h;rw [hk, Yv];omega
termination_by x => SizeOf.sizeOf x
decreasing_by
 all_goals
  subst hk
  simp
  omega
end Tp
section
open Wd Tp Kd
variable {m : Mp} {b d p : Nat}
abbrev pr (b p d : Nat) : Ent := cel b [.int .i64 (p : Nat), .int .i64 (d : Nat)] 91
abbrev wrongV : Value := .iface 120 (.agg [].toArray)
def PrC (f : FuncId) (args : List Value) (m : Mp) (b p d : Nat) (r : Option (List UInt8)) (w : Nat) : Prop :=
 CSP Tryz.prog f args m [pr b p d] (fun v L' => ∃ s, r = some s ∧ p + w ≤ 200 ∧ v = .string (bs s) ∧ L' = [pr b (p + w) d]) (fun v _ => (r = none ∨ 200 < p + w) ∧ v = wrongV)
def TxC (f : FuncId) (args : List Value) (m : Mp) (r : Option (List UInt8)) : Prop :=
 CSP Tryz.prog f args m [] (fun v L' => ∃ s, r = some s ∧ v = .string (bs s) ∧ L' = []) (fun v _ => r = none ∧ v = wrongV)
def OkC (f : FuncId) (args : List Value) (m : Mp) (q : Prop) : Prop :=
 CSP Tryz.prog f args m [] (fun v L' => q ∧ v = U0 ∧ L' = []) (fun v _ => ¬ q ∧ v = wrongV)
theorem must33 {q : Bool} : OkC 33 [.bool q] m (q = true) := by
 refine za [] Tryz.func33 rfl rfl rfl ?_;cases q with
 | true =>
   refine tr 8 ?_;exact yO [] trivial [] (Pick.nil _) ⟨rfl, rfl, rfl⟩
 | false =>
   refine tr 8 ?_;refine pe 0 (zT zl120 pl120 rfl rfl) ?_;refine pe 0 (ZY ni120 us120 rfl) ?_;refine zE (kept := false) (W4 rfl ?_) rfl;exact pn ⟨by decide, rfl⟩
theorem Mt (k : Nat) {n d : Nat} {args : List Operand} {ats : Array TypeId} {l0 l : List Oper} {env : Env} {m : Mp} {L : List Ent} {Q Q0 : Post} {fs : List Fm} {g' : Go1} {fs' : List Fm} {env' : Env} {ty : TypeId} {pos : String} {aft : Array Edge} {gd : Option (Nat × Bool)} [Reif Tryz.prog n Q fs Q0] (hk : Holds Tryz.prog n g' fs' env' m L Q0) (hx : evs env args = some [.bool true] := by exact rfl) (hn : Nat.blt d n = true := by exact rfl) (hw : wanted l0 env ⟨some d, .call ⟨.value (.func 33), args.toArray, ats⟩, ty, pos, aft, gd⟩ = some true := by exact rfl) (h : runG tz n k (.ops l0 l) fs ((d, U0) :: env) = (g', fs', env') := by exact rfl) : VS Tryz.prog n l0 (⟨some d, .call ⟨.value (.func 33), args.toArray, ats⟩, ty, pos, aft, gd⟩ :: l) env m L Q := Cn cl33 hx must33 (fun _ _ ⟨h1, _⟩ => absurd rfl h1) (fun _ _ ⟨_, h2, h3⟩ => by subst h2 h3; exact vr k hk h) hn hw
theorem Mf {n d : Nat} {args : List Operand} {ats : Array TypeId} {l0 l : List Oper} {env : Env} {m : Mp} {L : List Ent} {Q : Post} {ty : TypeId} {pos : String} {aft : Array Edge} {gd : Option (Nat × Bool)} (hk : ∀ L', QS Q (.panic (pan wrongV)) env m (L' ++ L)) (hx : evs env args = some [.bool false] := by exact rfl) (hn : Nat.blt d n = true := by exact rfl) (hw : wanted l0 env ⟨some d, .call ⟨.value (.func 33), args.toArray, ats⟩, ty, pos, aft, gd⟩ = some true := by exact rfl) : VS Tryz.prog n l0 (⟨some d, .call ⟨.value (.func 33), args.toArray, ats⟩, ty, pos, aft, gd⟩ :: l) env m L Q := Cn cl33 hx must33 (fun _ L' ⟨_, h2⟩ => by subst h2; exact hk L') (fun _ _ ⟨h1, _⟩ => nomatch h1) hn hw
theorem part109 (hp : p ≤ 200) : CSP Tryz.prog 109 [ptr b] m [pr b p d] (fun v L' => p + 1 ≤ 200 ∧ v = U0 ∧ L' = [pr b (p + 1) d]) (fun v _ => 200 < p + 1 ∧ v = wrongV) := by
 refine za [] Tryz.func109 rfl rfl rfl ?_;by_cases h : p + 1 ≤ 200
 ·refine tr 5 ?_;refine Lb 0 sg3 .here ?_;refine Pa 2 ?_;refine Sr 6 co3 .here .here ?_;refine Lb 0 sg3 .here ?_;refine cto 0 ?_;refine Mt 1 ?_;exact yO [] trivial [_] .p0 ⟨h, rfl, rfl⟩
 ·refine tr 5 ?_;refine Lb 0 sg3 .here ?_;refine Pa 2 ?_;refine Sr 6 co3 .here .here ?_;refine Lb 0 sg3 .here ?_;refine cfo 0 ?_;refine Mf fun _ => ?_;skip;exact pn ⟨by omega, rfl⟩
theorem within113 {g : FuncId} {q : List Value} {r : Nat → Option (List UInt8)} {w : Nat} (hd : d ≤ 8) (hcl : callable Tryz.prog g = true) (hg : d + 1 ≤ 8 → ∀ m', Le m m' → PrC g q m' b p (d + 1) (r (d + 1)) w) : PrC 113 [ptr b, .func (.func g) [].toArray q.toArray] m b p d (inP d r) w := by
 refine za [.tmp 4] Tryz.func113 rfl rfl rfl ?_;unfold inP;by_cases h : d + 1 ≤ 8
 ·rw [if_pos h];refine tr 10 ?_;refine Lb 0 sg3 .here ?_;refine Pa 2 ?_;refine Sr 7 co3 .here .h1 ?_;refine Lb 0 sg3 .here ?_;refine cto 0 ?_;refine Mt 5 ?_;refine zE (yl (p := []) (q := q) (vs := []) hcl rfl rfl .k0 (fun m' hm he => hg h m' hm) rfl ?_ ?_) rfl
  ·rintro _ _ ⟨h1, rfl⟩;exact pn ⟨h1, rfl⟩
  rintro _ _ ⟨s, h1, h2, rfl, rfl⟩;refine vr 8 ?_;refine Lb 0 sg3 .here ?_;refine pe 2 (uM rfl rfl (w64 (by omega) (by omega))) ?_;refine Sr 9 co3 .here .h1 ?_;have e1 : ((d + 1 : Nat) : Int) - 1 = (d : Nat) := by omega
  rw [e1];exact zb [_] ⟨rfl, trivial⟩ [_] .p0 ⟨s, h1, h2, rfl, rfl⟩
 ·rw [if_neg h];refine tr 10 ?_;refine Lb 0 sg3 .here ?_;refine Pa 2 ?_;refine Sr 7 co3 .here .h1 ?_;refine Lb 0 sg3 .here ?_;refine cfo 0 ?_;refine Mf fun _ => ?_;exact pn ⟨.inl rfl, rfl⟩
theorem side110 {w : Int} : TxC 110 [.int .i8 w] m (sideP w) := by
 refine za [.tmp 2] Tryz.func110 rfl rfl rfl ?_;unfold sideP;by_cases h0 : w = 0
 ·rw [if_pos h0];refine tr 8 ?_;refine cta 4 ?_;refine Mt 6 ?_;refine cta 10 ?_;exact rt3 ⟨rfl, trivial⟩ ⟨sMe, rfl, rfl, rfl⟩
 rw [if_neg h0];by_cases h1 : w = 1
 ·rw [if_pos h1];refine tr 8 ?_;refine cfa 2 ?_;refine cta 1 ?_;refine Mt 6 ?_;refine cfa 11 ?_;exact rt3 ⟨rfl, trivial⟩ ⟨sFoe, rfl, rfl, rfl⟩
 ·rw [if_neg h1];refine tr 8 ?_;refine cfa 2 ?_;refine cfa 1 ?_;refine Mf fun _ => ?_;exact pn ⟨rfl, rfl⟩
theorem sum169 {op n who : Int} {K : Option Addr} {k kc : Nat} : CS Tryz.prog 169 [.agg [.int .i8 op, .int .i64 n, .int .i8 who, .slice K k kc].toArray] m [] (Gives (.bool (decide (op = 8) || decide (op = 9)))) := by
 refine yI [.tmp 2] Tryz.func169 rfl rfl rfl ?_;by_cases h8 : op = 8
 ·refine tr 2 ?_;refine Bx 6 rfl fun b1 => ?_;refine Lb 0 sg42 .here ?_;refine cta 9 ?_;exact rt1 ⟨rfl, trivial⟩ ⟨by rw [decide_eq_true h8]; rfl, rfl⟩
 by_cases h9 : op = 9
 ·refine tr 2 ?_;refine Bx 6 rfl fun b1 => ?_;refine Lb 0 sg42 .here ?_;refine cfa 2 ?_;refine Lb 0 sg42 .here ?_;refine cta 5 ?_;exact rt1 ⟨rfl, trivial⟩ ⟨by rw [decide_eq_true h9, Bool.or_true]; rfl, rfl⟩
 ·refine tr 2 ?_;refine Bx 6 rfl fun b1 => ?_;refine Lb 0 sg42 .here ?_;refine cfa 2 ?_;refine Lb 0 sg42 .here ?_;refine cfa 5 ?_;exact rt1 ⟨rfl, trivial⟩ ⟨by rw [decide_eq_false h8, decide_eq_false h9]; rfl, rfl⟩
theorem bare142 {op n who : Int} {K : Option Addr} {k kc j : Nat} (hk : k ≤ 9223372036854775807) (hj : j ≤ 10) : OkC 142 [.agg [.int .i8 op, .int .i64 n, .int .i8 who, .slice K k kc].toArray, .int .i64 (j : Nat)] m ((n = 0 ∨ op = 0) ∧ (who = 0 ∨ (1 ≤ op ∧ op ≤ 4)) ∧ k = j) := by
 refine za [] Tryz.func142 rfl rfl rfl ?_;by_cases hn : n = 0
 ·skip;by_cases hw : who = 0
  ·skip;by_cases hk2 : k = j
   ·skip;refine tr 2 ?_;refine Bx 4 rfl fun b1 => ?_;refine Lb 0 sg3 .here ?_;refine cta 7 ?_;refine Lb 0 sg42 .here ?_;refine cta 13 ?_;refine Lb 2 sg43 .here ?_;refine cto 1 ?_;refine Mt 1 ?_;exact yO [] trivial [] (Pick.nil _) ⟨by omega, rfl, rfl⟩
   ·skip;refine tr 2 ?_;refine Bx 4 rfl fun b1 => ?_;refine Lb 0 sg3 .here ?_;refine cta 7 ?_;refine Lb 0 sg42 .here ?_;refine cta 13 ?_;refine Lb 2 sg43 .here ?_;refine cfo 1 ?_;refine Mf fun _ => ?_;skip;exact pn ⟨by omega, rfl⟩
  ·skip;by_cases hg : 1 ≤ op
   ·skip;by_cases hl : op ≤ 4
    ·skip;by_cases hk2 : k = j
     ·skip;refine tr 2 ?_;refine Bx 4 rfl fun b1 => ?_;refine Lb 0 sg3 .here ?_;refine cta 7 ?_;refine Lb 0 sg42 .here ?_;refine cfa 2 ?_;refine Lb 0 sg42 .here ?_;refine cta 2 ?_;refine Lb 0 sg42 .here ?_;refine cta 5 ?_;refine Lb 2 sg43 .here ?_;refine cto 1 ?_;refine Mt 1 ?_;exact yO [] trivial [] (Pick.nil _) ⟨by omega, rfl, rfl⟩
     ·skip;refine tr 2 ?_;refine Bx 4 rfl fun b1 => ?_;refine Lb 0 sg3 .here ?_;refine cta 7 ?_;refine Lb 0 sg42 .here ?_;refine cfa 2 ?_;refine Lb 0 sg42 .here ?_;refine cta 2 ?_;refine Lb 0 sg42 .here ?_;refine cta 5 ?_;refine Lb 2 sg43 .here ?_;refine cfo 1 ?_;refine Mf fun _ => ?_;skip;exact pn ⟨by omega, rfl⟩
    ·skip;refine tr 2 ?_;refine Bx 4 rfl fun b1 => ?_;refine Lb 0 sg3 .here ?_;refine cta 7 ?_;refine Lb 0 sg42 .here ?_;refine cfa 2 ?_;refine Lb 0 sg42 .here ?_;refine cta 2 ?_;refine Lb 0 sg42 .here ?_;refine cfa 10 ?_;refine Mf fun _ => ?_;skip;exact pn ⟨by omega, rfl⟩
   ·skip;refine tr 2 ?_;refine Bx 4 rfl fun b1 => ?_;refine Lb 0 sg3 .here ?_;refine cta 7 ?_;refine Lb 0 sg42 .here ?_;refine cfa 2 ?_;refine Lb 0 sg42 .here ?_;refine cfa 14 ?_;refine Mf fun _ => ?_;skip;exact pn ⟨by omega, rfl⟩
 ·skip;by_cases ho : op = 0
  ·skip;by_cases hw : who = 0
   ·skip;by_cases hk2 : k = j
    ·skip;refine tr 2 ?_;refine Bx 4 rfl fun b1 => ?_;refine Lb 0 sg3 .here ?_;refine cfa 2 ?_;refine Lb 0 sg42 .here ?_;refine cta 3 ?_;refine Lb 0 sg42 .here ?_;refine cta 13 ?_;refine Lb 2 sg43 .here ?_;refine cto 1 ?_;refine Mt 1 ?_;exact yO [] trivial [] (Pick.nil _) ⟨by omega, rfl, rfl⟩
    ·skip;refine tr 2 ?_;refine Bx 4 rfl fun b1 => ?_;refine Lb 0 sg3 .here ?_;refine cfa 2 ?_;refine Lb 0 sg42 .here ?_;refine cta 3 ?_;refine Lb 0 sg42 .here ?_;refine cta 13 ?_;refine Lb 2 sg43 .here ?_;refine cfo 1 ?_;refine Mf fun _ => ?_;skip;exact pn ⟨by omega, rfl⟩
   ·skip;refine tr 2 ?_;refine Bx 4 rfl fun b1 => ?_;refine Lb 0 sg3 .here ?_;refine cfa 2 ?_;refine Lb 0 sg42 .here ?_;refine cta 3 ?_;refine Lb 0 sg42 .here ?_;refine cfa 2 ?_;refine Lb 0 sg42 .here ?_;refine cfo 14 ?_;refine Mf fun _ => ?_;skip;exact pn ⟨by omega, rfl⟩
  ·skip;refine tr 2 ?_;refine Bx 4 rfl fun b1 => ?_;refine Lb 0 sg3 .here ?_;refine cfa 2 ?_;refine Lb 0 sg42 .here ?_;refine cfa 23 ?_;refine Mf fun _ => ?_;skip;exact pn ⟨by omega, rfl⟩
end
section
open Wd Tp Kd
theorem ascs (l : List (List UInt8)) (h : l.all (fun s => s.all (fun b => decide (b.toNat < 128)) && decide (s.length ≤ 1000)) = true) : ∀ s ∈ l, Ascii s ∧ s.length ≤ 1000 := fun s hs => by
 have := List.all_eq_true.1 h s hs;simp only [Bool.and_eq_true, decide_eq_true_eq] at this;exact ⟨asc _ this.1, this.2⟩
theorem VO (s : List UInt8) (ts : List Wrd) : musts [s] ts = must s ts := by
 unfold musts;cases must s ts <;> rfl
variable {m : Mp} {b c at_ d p : Nat} {A : Option Addr} {ws ts : List Wrd}
theorem must58 {s : List UInt8} {X : Option Addr} {xc : Nat} (hw : WsR m A ws) (hX : Rd m X [strV s]) (ha : Ascii s) (hl : s.length ≤ 1000) (hp : Pos ws at_ ts) :
  RdC 58 [ptr b, .slice X 1 xc] m b A c ws at_ d p (must s ts) (fun _ => 0) uV := by
 have := musts58 (l := [s]) (b := b) (c := c) (d := d) (p := p) (xc := xc) hw hX (by simp) (fun s' h => by rw [List.mem_singleton.1 h]; exact ⟨ha, hl⟩) hp;rwa [VO] at this
def SumC (m : Mp) (b : Nat) (A : Option Addr) (c : Nat) (ws : List Wrd) (sum : Nat → List Wrd → R NumT) (k : Nat) : Prop :=
 ∀ m', Le m m' → ∀ (at_ d p : Nat) (ts : List Wrd), Pos ws at_ ts → d ≤ 8 → p + ts.length ≤ 4611686018427387904 → ts.length < k → RdC 127 [ptr b] m' b A c ws at_ d p (sum d ts) numW numV
abbrev twoV : NumT × NumT → Value → List Ent → Prop := fun x v Es => ∃ (q r : NumC) (e : Ent), v = .tuple [.agg q.v.toArray, .agg r.v.toArray].toArray ∧ Es = [e] ∧ ∀ ns, e.inv ns → NumR ns q.v x.1 ∧ NumR ns r.v x.2
abbrev twoW (two : Bool) : NumT × NumT → Nat := fun x => numW x.1 + if two then numW x.2 else 0
theorem brackets181 {two : Bool} {sum : Nat → List Wrd → R NumT} {k : Nat} (hw : WsR m A ws) (hp : Pos ws at_ ts) (hd : d ≤ 8) (hb : p + ts.length ≤ 4611686018427387904) (hk0 : ts.length < k + 1) (hse : ∀ d ts, ts.length < k → Tp.Ends (sum d ts) numW ts.length) (hsum : SumC m b A c ws sum k) :
  RdC 181 [ptr b, .bool two] m b A c ws at_ d p (pBr sum two d ts) (twoW two) twoV := by
 generalize hF : pBr sum two d ts = F;unfold pBr at hF;refine za [.cell 4 45, .cell 5 45] Tryz.func181 rfl rfl rfl ?_;refine tr 2 ?_;refine Al 0 zl45 fun b1 => ?_;refine Al 6 zl45 fun b2 => ?_;refine C1 cl18 rfl .h2 (fun m' hm he => is18 (s := sOpen) (hw.mono hm) hp (asc _ rfl) (by decide)) ?_;rintro _ _ ⟨rfl, rfl⟩;cases hk : isW sOpen ts with
 | false =>
   rw [if_neg (by rw [hk]; decide)] at hF;refine vr 6 ?_;refine Cp cl19 rfl .k0 (fun m' hm he => bad19 120 (hw.mono hm) hp) ?_ ?_
   ·rintro _ _ rfl;exact pn ⟨120, _, hF.symm, rfl⟩
   ·rintro _ _ h;exact h.elim
 | true =>
 rw [if_pos hk] at hF;have hl0 := zh hk;refine vr 9 ?_;refine Cp cl129 rfl .k0 (fun m' hm he => in129 (hw.mono hm) hp hd) ?_ ?_
 ·rintro _ _ ⟨h8, rfl⟩;rw [pIn, if_pos h8] at hF;exact pn ⟨121, _, hF.symm, rfl⟩
 rintro _ _ ⟨h8, rfl, rfl⟩;rw [pIn, if_neg (by omega)] at hF;dsimp only [R.bind] at hF;refine vr 5 ?_;refine Bs 0 sl61 fun b3 => ?_;refine Cp cl58 rfl .k1 (fun m' hm he => must58 (s := sOpen) (hw.mono hm) (Rd.blk (he _ (.head _))) (asc _ rfl) (by decide) hp) ?_ ?_
 ·rintro _ _ ⟨e', a', h1, rfl⟩;rw [h1] at hF;exact pn ⟨e', a', hF.symm, rfl⟩
 rintro _ _ ⟨_, ts1, at1, _, h1, hp1, ⟨rfl, rfl⟩, rfl⟩;rw [h1] at hF;dsimp only [R.bind] at hF;have hl1 : 1 + ts1.length ≤ ts.length := (zL (s := sOpen) (ts := ts)).2 _ _ h1;clear h1;refine vr 5 ?_;refine Cp cl127 rfl .k0 (fun m' hm he => hsum m' hm at1 (d + 1) p ts1 hp1 h8 (by omega) (by omega)) ?_ ?_
 ·rintro _ _ ⟨e', a', h1, rfl⟩;rw [h1] at hF;exact pn ⟨e', a', hF.symm, rfl⟩
 rintro _ _ ⟨x, ts2, at2, _, h1, hp2, ⟨q, ex, rfl, rfl, hx⟩, rfl⟩;rw [h1] at hF;dsimp only [R.bind] at hF;have hl2 := (hse (d + 1) ts1 (by omega)).2 _ _ h1;clear h1;cases two with
 | false =>
   rw [if_neg (by decide)] at hF;refine Sg 14 ag45 .h4 ?_;refine Bs 0 sl61 fun b4 => ?_;refine Cp cl58 rfl .k1 (fun m' hm he => must58 (s := sClose) (hw.mono hm) (Rd.blk (he _ (.head _))) (asc _ rfl) (by decide) hp2) ?_ ?_
   ·rintro _ _ ⟨e', a', h1, rfl⟩;rw [h1] at hF;exact pn ⟨e', a', hF.symm, rfl⟩
   rintro _ _ ⟨_, ts3, at3, _, h1, hp3, ⟨rfl, rfl⟩, rfl⟩;rw [h1] at hF;dsimp only [R.bind] at hF;have hl3 : 1 + ts3.length ≤ ts2.length := (zL (s := sClose) (ts := ts2)).2 _ _ h1;clear h1;refine vr 7 ?_;refine Lb 0 sg3 .here ?_;refine pe 2 (uM rfl rfl (w64 (by omega) (by omega))) ?_;refine Sr 3 co3 .here .h2 ?_
   refine z6 (sT [100] (.fork (sT [201, 302, 303] .done) (sT [302, 101, 303] .done))) mixed (by kernel_rfl) (fun _ _ _ _ hq => hq) ?_;refine Vu 0 rfl (ye ag45 rfl .h5 rfl) ?_;refine wW ?_ ?_;refine xp rfl (ye ag45 rfl .h4 rfl) rfl rfl rfl ?_;refine zW rfl rfl (zS ag45 rfl rfl rfl .h5 rfl rfl ?_) rfl
   refine zW rfl rfl (zS ag45 rfl rfl rfl .h4 rfl rfl ?_) rfl;refine Vm 2 ?_
   ·rw [show ((d + 1 : Nat) : Int) - 1 = (d : Nat) by omega];exact zb [_, _] ⟨⟨b1, _, _, _, rfl, .h5, .inr ⟨rfl, rfl⟩⟩, ⟨b2, _, _, _, rfl, .h4, .inr ⟨rfl, rfl⟩⟩, trivial⟩ _ (.cons .here .p1) ⟨_, ts3, at3, _, hF.symm, hp3, ⟨q, ⟨0, 0, 0, none, 0, 0⟩, ex, rfl, rfl, fun ns h => ⟨hx ns h, numPlain ⟨by decide, by decide⟩⟩⟩, rfl⟩
   ·refine zW rfl rfl (zS ag45 rfl rfl rfl .h5 rfl rfl ?_) rfl;refine Vu 0 rfl (ye ag45 rfl .h4 rfl) ?_;refine zW rfl rfl (zS ag45 rfl rfl rfl .h4 rfl rfl ?_) rfl;refine Vm 2 ?_;rw [show ((d + 1 : Nat) : Int) - 1 = (d : Nat) by omega]
    exact zb [_, _] ⟨⟨b1, _, _, _, rfl, .h5, .inr ⟨rfl, rfl⟩⟩, ⟨b2, _, _, _, rfl, .h4, .inr ⟨rfl, rfl⟩⟩, trivial⟩ _ (.cons .here .p1) ⟨_, ts3, at3, _, hF.symm, hp3, ⟨q, ⟨0, 0, 0, none, 0, 0⟩, ex, rfl, rfl, fun ns h => ⟨hx ns h, numPlain ⟨by decide, by decide⟩⟩⟩, rfl⟩
 | true =>
   rw [if_pos rfl] at hF;refine Sg 12 ag45 .h4 ?_;refine Bs 0 sl61 fun b4 => ?_;refine Cp cl58 rfl .k1 (fun m' hm he => must58 (s := sComma) (hw.mono hm) (Rd.blk (he _ (.head _))) (asc _ rfl) (by decide) hp2) ?_ ?_
   ·rintro _ _ ⟨e', a', h1, rfl⟩;rw [h1] at hF;exact pn ⟨e', a', hF.symm, rfl⟩
   rintro _ _ ⟨_, ts3, at3, _, h1, hp3, ⟨rfl, rfl⟩, rfl⟩;rw [h1] at hF;dsimp only [R.bind] at hF;have hl3 : 1 + ts3.length ≤ ts2.length := (zL (s := sComma) (ts := ts2)).2 _ _ h1;clear h1;refine vr 4 ?_;refine Cp cl127 rfl .k0 (fun m' hm he => hsum m' hm at3 (d + 1) (p + numW x) ts3 hp3 h8 (by omega) (by omega)) ?_ ?_
   ·rintro _ _ ⟨e', a', h1, rfl⟩;rw [h1] at hF;exact pn ⟨e', a', hF.symm, rfl⟩
   rintro _ _ ⟨y, ts4, at4, _, h1, hp4, ⟨r, ey, rfl, rfl, hy⟩, rfl⟩;rw [h1] at hF;dsimp only [R.bind] at hF;have hl4 := (hse (d + 1) ts3 (by omega)).2 _ _ h1;clear h1;refine Sg 5 ag45 .h5 ?_;refine Bs 0 sl61 fun b5 => ?_;refine Cp cl58 rfl .k1 (fun m' hm he => must58 (s := sClose) (hw.mono hm) (Rd.blk (he _ (.head _))) (asc _ rfl) (by decide) hp4) ?_ ?_
   ·rintro _ _ ⟨e', a', h1, rfl⟩;rw [h1] at hF;exact pn ⟨e', a', hF.symm, rfl⟩
   rintro _ _ ⟨_, ts5, at5, _, h1, hp5, ⟨rfl, rfl⟩, rfl⟩;rw [h1] at hF;dsimp only [R.bind] at hF;have hl5 : 1 + ts5.length ≤ ts4.length := (zL (s := sClose) (ts := ts4)).2 _ _ h1;clear h1;refine vr 7 ?_;refine Lb 0 sg3 .here ?_;refine pe 2 (uM rfl rfl (w64 (by omega) (by omega))) ?_;refine Sr 3 co3 .here .h2 ?_
   refine z6 (sT [100] (.fork (sT [201, 302, 303] .done) (sT [302, 101, 303] .done))) mixed (by kernel_rfl) (fun _ _ _ _ hq => hq) ?_;refine Vu 0 rfl (ye ag45 rfl .h7 rfl) ?_;refine wW ?_ ?_;refine xp rfl (ye ag45 rfl .h6 rfl) rfl rfl rfl ?_;refine zW rfl rfl (zS ag45 rfl rfl rfl .h7 rfl rfl ?_) rfl
   refine zW rfl rfl (zS ag45 rfl rfl rfl .h6 rfl rfl ?_) rfl;refine Vm 2 ?_
   ·rw [show ((d + 1 : Nat) : Int) - 1 = (d : Nat) by omega]
    exact zb [_, _] ⟨⟨b1, _, _, _, rfl, .h7, .inr ⟨rfl, rfl⟩⟩, ⟨b2, _, _, _, rfl, .h6, .inr ⟨rfl, rfl⟩⟩, trivial⟩ _ (.cons .here (Pick.pack2 (.cons .h3 .p1))) ⟨_, ts5, at5, _, hF.symm, hp5, ⟨q, r, pack [ex, ey], rfl, rfl, fun ns h => ⟨hx ns (h.1 _ (.head _)), hy ns (h.1 _ (.tail _ (.head _)))⟩⟩, by show [rd b A c ws at5 d (p + numW x + numW y), pack [ex, ey]] = [rd b A c ws at5 d (p + (numW x + numW y)), pack [ex, ey]]; rw [Nat.add_assoc]⟩
   ·refine zW rfl rfl (zS ag45 rfl rfl rfl .h7 rfl rfl ?_) rfl;refine Vu 0 rfl (ye ag45 rfl .h6 rfl) ?_;refine zW rfl rfl (zS ag45 rfl rfl rfl .h6 rfl rfl ?_) rfl;refine Vm 2 ?_;rw [show ((d + 1 : Nat) : Int) - 1 = (d : Nat) by omega]
    exact zb [_, _] ⟨⟨b1, _, _, _, rfl, .h7, .inr ⟨rfl, rfl⟩⟩, ⟨b2, _, _, _, rfl, .h6, .inr ⟨rfl, rfl⟩⟩, trivial⟩ _ (.cons .here (Pick.pack2 (.cons .h3 .p1))) ⟨_, ts5, at5, _, hF.symm, hp5, ⟨q, r, pack [ex, ey], rfl, rfl, fun ns h => ⟨hx ns (h.1 _ (.head _)), hy ns (h.1 _ (.tail _ (.head _)))⟩⟩, by show [rd b A c ws at5 d (p + numW x + numW y), pack [ex, ey]] = [rd b A c ws at5 d (p + (numW x + numW y)), pack [ex, ey]]; rw [Nat.add_assoc]⟩
end
section
open Wd Tp Kd
variable {m : Mp} {b c at_ d p : Nat} {A : Option Addr} {ws ts : List Wrd}
theorem SumC.mono {m m' : Mp} {sum : Nat → List Wrd → R NumT} {k : Nat} (h : SumC m b A c ws sum k) (hl : Le m m') : SumC m' b A c ws sum k := fun m2 h2 => h m2 (hl.trans h2)
theorem whos_at {i : Nat} (h : i < whos.length) : ([strV sLife, strV sHand, strV sDeck, strV sUnits] : List Value)[i]? = some (strV whos[i].1) := by
 match i, h with
 | 0, _ => rfl
 | 1, _ => rfl
 | 2, _ => rfl
 | 3, _ => rfl
theorem whos_op {i : Nat} (h : i < whos.length) : whos[i].2 = 1 + (i : Nat) := by
 match i, h with
 | 0, _ => rfl
 | 1, _ => rfl
 | 2, _ => rfl
 | 3, _ => rfl
theorem UJ {i : Nat} (h : i < whos.length) : Ascii whos[i].1 ∧ whos[i].1.length ≤ 1000 := ascs (whos.map (·.1)) rfl _ (List.mem_map.2 ⟨whos[i], List.getElem_mem h, rfl⟩)
theorem one173 {sum : Nat → List Wrd → R NumT} {k : Nat} (hw : WsR m A ws) (hp : Pos ws at_ ts) (hd8 : d ≤ 8) (hb : p + ts.length ≤ 4611686018427387904) (hk0 : ts.length < k + 1) (hse : ∀ d ts, ts.length < k → Tp.Ends (sum d ts) numW ts.length) (hsum : SumC m b A c ws sum k) :
  RdC 173 [ptr b] m b A c ws at_ d p (pOne sum d ts) numW numV := by
 generalize hF : pOne sum d ts = F;unfold pOne at hF;have hsm := hp.small;have hlt := hp.lt;refine za [.cell 2 45] Tryz.func173 rfl rfl rfl ?_;refine tr 2 ?_;refine Al 6 zl45 fun b1 => ?_;refine C1 cl18 rfl .h1 (fun m' hm he => is18 (s := sOpen) (hw.mono hm) hp (asc _ rfl) (by decide)) ?_;rintro _ _ ⟨rfl, rfl⟩;cases hko : isW sOpen ts with
 | true =>
   rw [if_pos hko] at hF;refine vr 6 ?_;refine Cp cl181 rfl .k0 (fun m' hm he => brackets181 (two := false) (hw.mono hm) hp hd8 hb hk0 hse (hsum.mono hm)) ?_ ?_
   ·rintro _ _ ⟨e', a', h1, rfl⟩;rw [h1] at hF;exact pn ⟨e', a', hF.symm, rfl⟩
   rintro _ _ ⟨x, ts1, at1, _, h1, hp1, ⟨q, r, e, rfl, rfl, hx⟩, rfl⟩;rw [h1] at hF;dsimp only [R.bind] at hF;clear h1;refine vr 3 ?_;refine Al 0 zl45 fun b2 => ?_;refine Al 0 zl45 fun b3 => ?_;refine Sg 0 ag45 .h1 ?_;refine Sg 4 ag45 .here ?_;refine Lc 0 ag45 .h1 ?_;refine Sg 4 ag45 .h4 ?_
   exact zb [_] ⟨⟨b1, _, _, _, rfl, .h4, .inr ⟨rfl, rfl⟩⟩, trivial⟩ _ (.cons .h2 .p2) ⟨x.1, ts1, at1, _, hF.symm, hp1, ⟨q, e, rfl, rfl, fun ns h => (hx ns h).1⟩, rfl⟩
 | false =>
 rw [if_neg (by rw [hko]; decide)] at hF;have hat := hp.word hw;have hA := hp.isSome hw;refine vr 10 ?_;refine Lb 0 sg3 .here ?_;refine Pa 2 ?_;refine Sr 4 co3 .here .h3 ?_;refine z6 (sT [0, 1, 2, 4, 5, 6, 103, 107, 8, 9, 110, 11] .done) mixed (by kernel_rfl) (fun _ _ _ _ hq => hq) ?_;refine vt 6 ?_;refine Vl 0 rfl sg51 .here ?_;refine Vl 0 rfl sg3 .here ?_
 refine Vt 1 rfl (zI ez51 rfl rfl hA (by omega)) ?_;refine Vu 0 rfl (zF sg42 rfl (hat.at_ rfl)) ?_;by_cases h2 : (hd ts).kind = 2
 ·have hnx := hp.next (by omega);rw [if_pos h2] at hF;refine Vt 0 rfl (dt (yn rfl rfl) (by assumption)) ?_;refine Vm 5 ?_;refine Cp cl57 rfl .k0 (fun m' hm he => number57 (hw.mono hm) hp) ?_ ?_
  ·rintro _ _ ⟨e', a', h1, rfl⟩;rw [pNumber, if_pos h2] at h1;cases h1
  rintro _ _ ⟨x, ts1, at1, _, h1, hp1, ⟨rfl, rfl⟩, rfl⟩;rw [pNumber, if_pos h2] at h1;cases h1;refine pe 0 (zT zl45 pl45 rfl rfl) ?_;refine Sg 4 ag45 .h1 ?_
  exact zb [_] ⟨⟨b1, _, _, _, rfl, .h1, .inr ⟨rfl, rfl⟩⟩, trivial⟩ _ (.cons .here (Pick.nilE (.nil _))) ⟨_, ts.tail, at1, _, hF.symm, hp1, ⟨⟨0, (hd ts).n, 0, none, 0, 0⟩, pack [], rfl, rfl, fun ns _ => numPlain (op := 0) ⟨by decide, by decide⟩⟩, by show [rd b A c ws at1 d (p + 1), pack []] = [rd b A c ws at1 d (p + numW (plainN 0 (hd ts).n 0)), pack []]; rw [yo]⟩
 rw [if_neg h2] at hF;refine Vt 0 rfl (df (yn rfl rfl) (by assumption)) ?_;refine Vm 7 ?_;refine Bs 5 sl61 fun b2 => ?_
 refine zj (α := Nat) (fun i => [(0, ptr b), (2, ptr b1), (42, .slice (some ⟨b2, 0, none⟩) 4 4), (43, .int .i64 4), (44, .int .i64 (i : Nat))]) (fun i => [cel b2 [strV sLife, strV sHand, strV sDeck, strV sUnits] 9, rd b A c ws at_ d (p + 1), cel b1 [.int .i8 0, .int .i64 0, .int .i8 0, .slice none 0 0] 45]) (fun i => i ≤ whos.length ∧ ∀ (j : Nat) (hj : j < whos.length), j < i → isW whos[j].1 ts = false) (fun i => whos.length - i) 0 ⟨rfl, rfl, rfl, rfl, rfl, trivial⟩ (Pick.refl _) ⟨Nat.zero_le _, fun _ _ h => by cases h⟩ ?_
 rintro i ⟨hi, hno⟩;have hwl : whos.length = 4 := rfl;by_cases hli : i < whos.length
 ·have hcx : ([strV sLife, strV sHand, strV sDeck, strV sUnits] : List Value)[i]? = some (strV whos[i].1) := whos_at hli;have hfa := fun h => qe (ts := ts) hli h hno;have hw2 := whos_op hli;have hai := UJ hli
  have hnext : isW whos[i].1 ts = false → ∀ (j : Nat) (hj : j < whos.length), j < i + 1 → isW whos[j].1 ts = false := fun h j hj h2 => by
   by_cases hji : j < i
   ·exact hno j hj hji
   ·obtain rfl : j = i := by omega
    exact h
  generalize whos[i] = sg at hcx hfa hw2 hai hnext;refine tr 2 ?_;refine cto 11 ?_;refine pe 0 (zD ez61 rfl rfl rfl (by omega)) ?_;refine lr 8 (jv sg9 rfl .here hcx) ?_;refine C1 cl56 rfl .h1 (fun m' hm he => take56 (s := sg.1) (hw.mono hm) hp hai.1 hai.2) ?_;rintro _ _ (⟨hk1, hp1, rfl, rfl⟩ | ⟨hk1, rfl, rfl⟩)
  rotate_left
  ·refine vr 7 ?_;refine Pa 2 ?_;exact QR (i + 1) (.cons .h1 .pp) ⟨hli, hnext hk1⟩ (by omega)
  have hl1 := zh hk1;rw [hfa hk1] at hF;dsimp only at hF;refine vr 6 ?_;refine Bs 0 sl61 fun b3 => ?_;refine Cp cl58 rfl .k1 (fun m' hm he => must58 (s := sOpen) (hw.mono hm) (Rd.blk (he _ (.head _))) (asc _ rfl) (by decide) hp1) ?_ ?_
  ·rintro _ _ ⟨e', a', h1, rfl⟩;rw [h1] at hF;refine zU ?_;refine zH ?_;exact pn ⟨e', a', hF.symm, rfl⟩
  rintro _ _ ⟨_, ts2, at2, _, h1, hp2, ⟨rfl, rfl⟩, rfl⟩;rw [h1] at hF;dsimp only [R.bind] at hF;have hl2 : 1 + ts2.length ≤ ts.tail.length := (zL (s := sOpen) (ts := ts.tail)).2 _ _ h1;clear h1;refine vr 5 ?_;refine pe 0 ((vn us3 ik42 rfl (w8 (by omega) (by omega)))) ?_;skip;refine pe 1 ((vS rfl rfl (w8 (by omega) (by omega)))) ?_
  refine Cp cl128 rfl .k0 (fun m' hm he => side128 (hw.mono hm) hp2) ?_ ?_
  ·rintro _ _ ⟨e', a', h1, rfl⟩;rw [h1] at hF;refine zU ?_;refine zH ?_;exact pn ⟨e', a', hF.symm, rfl⟩
  rintro _ _ ⟨w, ts3, at3, _, h1, hp3, ⟨rfl, rfl⟩, rfl⟩;rw [h1] at hF;dsimp only [R.bind] at hF;have hl3 : 1 + ts3.length ≤ ts2.length := (yj (ts := ts2)).2 _ _ h1;clear h1;refine pe 0 (zT zl45 pl45 rfl rfl) ?_;refine Al 0 zl45 fun b4 => ?_;refine Sg 5 ag45 .here ?_;refine Bs 0 sl61 fun b5 => ?_
  refine Cp cl58 rfl .k2 (fun m' hm he => must58 (s := sClose) (hw.mono hm) (Rd.blk (he _ (.head _))) (asc _ rfl) (by decide) hp3) ?_ ?_
  ·rintro _ _ ⟨e', a', h1, rfl⟩;rw [h1] at hF;refine zU ?_;refine zH ?_;exact pn ⟨e', a', hF.symm, rfl⟩
  rintro _ _ ⟨_, ts4, at4, _, h1, hp4, ⟨rfl, rfl⟩, rfl⟩;rw [h1] at hF;dsimp only [R.bind] at hF;have hl4 : 1 + ts4.length ≤ ts3.length := (zL (s := sClose) (ts := ts3)).2 _ _ h1;clear h1;rw [show ((1 : Int) + (i : Nat)) = sg.2 by omega];refine vr 4 ?_;refine Lc 0 ag45 .h2 ?_;refine Sg 5 ag45 .h5 ?_;refine zN ?_;refine zP ?_;refine zY ?_
  exact zb [_] ⟨⟨b1, _, _, _, rfl, .h5, .inr ⟨rfl, rfl⟩⟩, trivial⟩ _ (.cons .here (Pick.nilE (.nil _))) ⟨_, ts4, at4, _, hF.symm, hp4, ⟨⟨sg.2, 0, w, none, 0, 0⟩, pack [], rfl, rfl, fun ns _ => numPlain (op := sg.2) ⟨by omega, by omega⟩⟩, by show [rd b A c ws at4 d (p + 1), pack []] = [rd b A c ws at4 d (p + numW (plainN sg.2 0 w)), pack []]; rw [yo]⟩
 rw [qd (signs := whos) (ts := ts) fun j hj => hno j hj (by omega)] at hF;dsimp only at hF;refine tr 2 ?_;refine cfo 6 ?_;refine zC ?_;refine zB ?_;refine qt 6 ?_;clear hno hi hli;refine C1 cl56 rfl .h1 (fun m' hm he => take56 (s := sMana) (hw.mono hm) hp (asc _ rfl) (by decide)) ?_;rintro _ _ (⟨hk, hp1, rfl, rfl⟩ | ⟨hk, rfl, rfl⟩)
 ·have hl1 := zh hk;rw [if_pos hk] at hF;refine vr 7 ?_;refine Bs 0 sl61 fun b3 => ?_;refine Cp cl58 rfl .k1 (fun m' hm he => musts58 (l := [sOpen, sMe, sClose]) (hw.mono hm) (Rd.blk (he _ (.head _))) (by decide) (ascs _ rfl) hp1) ?_ ?_
  ·rintro _ _ ⟨e', a', h1, rfl⟩;rw [h1] at hF;exact pn ⟨e', a', hF.symm, rfl⟩
  rintro _ _ ⟨_, ts2, at2, _, h1, hp2, ⟨rfl, rfl⟩, rfl⟩;rw [h1] at hF;dsimp only [R.bind] at hF;clear h1;refine vr 4 ?_;refine pe 0 (zT zl45 pl45 rfl rfl) ?_;refine Sg 5 ag45 .h3 ?_
  exact zb [_] ⟨⟨b1, _, _, _, rfl, .h3, .inr ⟨rfl, rfl⟩⟩, trivial⟩ _ (.cons .here (Pick.nilE (.nil _))) ⟨_, ts2, at2, _, hF.symm, hp2, ⟨⟨5, 0, 0, none, 0, 0⟩, pack [], rfl, rfl, fun ns _ => numPlain (op := 5) ⟨by decide, by decide⟩⟩, by show [rd b A c ws at2 d (p + 1), pack []] = [rd b A c ws at2 d (p + numW (plainN 5 0 0)), pack []]; rw [yo]⟩
 rw [if_neg (by rw [hk]; decide)] at hF;refine vr 7 ?_;refine C1 cl56 rfl .here (fun m' hm he => take56 (s := sCost) (hw.mono hm) hp (asc _ rfl) (by decide)) ?_;rintro _ _ (⟨hk, hp1, rfl, rfl⟩ | ⟨hk, rfl, rfl⟩)
 ·have hl1 := zh hk;rw [if_pos hk] at hF;refine vr 7 ?_;refine Bs 0 sl61 fun b3 => ?_;refine Cp cl58 rfl .k1 (fun m' hm he => musts58 (l := [sOpen, sTop, sOpen, sMe, sClose, sClose]) (hw.mono hm) (Rd.blk (he _ (.head _))) (by decide) (ascs _ rfl) hp1) ?_ ?_
  ·rintro _ _ ⟨e', a', h1, rfl⟩;rw [h1] at hF;exact pn ⟨e', a', hF.symm, rfl⟩
  rintro _ _ ⟨_, ts2, at2, _, h1, hp2, ⟨rfl, rfl⟩, rfl⟩;rw [h1] at hF;dsimp only [R.bind] at hF;clear h1;refine vr 4 ?_;refine pe 0 (zT zl45 pl45 rfl rfl) ?_;refine Sg 5 ag45 .h3 ?_
  exact zb [_] ⟨⟨b1, _, _, _, rfl, .h3, .inr ⟨rfl, rfl⟩⟩, trivial⟩ _ (.cons .here (Pick.nilE (.nil _))) ⟨_, ts2, at2, _, hF.symm, hp2, ⟨⟨6, 0, 0, none, 0, 0⟩, pack [], rfl, rfl, fun ns _ => numPlain (op := 6) ⟨by decide, by decide⟩⟩, by show [rd b A c ws at2 d (p + 1), pack []] = [rd b A c ws at2 d (p + numW (plainN 6 0 0)), pack []]; rw [yo]⟩
 rw [if_neg (by rw [hk]; decide)] at hF;refine vr 7 ?_;refine C1 cl56 rfl .here (fun m' hm he => take56 (s := sPower) (hw.mono hm) hp (asc _ rfl) (by decide)) ?_;rintro _ _ (⟨hk, hp1, rfl, rfl⟩ | ⟨hk, rfl, rfl⟩)
 ·have hl1 := zh hk;rw [if_pos hk] at hF;refine vr 7 ?_;refine Bs 0 sl61 fun b3 => ?_;refine Cp cl58 rfl .k1 (fun m' hm he => musts58 (l := [sOpen, sTarget, sClose]) (hw.mono hm) (Rd.blk (he _ (.head _))) (by decide) (ascs _ rfl) hp1) ?_ ?_
  ·rintro _ _ ⟨e', a', h1, rfl⟩;rw [h1] at hF;exact pn ⟨e', a', hF.symm, rfl⟩
  rintro _ _ ⟨_, ts2, at2, _, h1, hp2, ⟨rfl, rfl⟩, rfl⟩;rw [h1] at hF;dsimp only [R.bind] at hF;clear h1;refine vr 4 ?_;refine pe 0 (zT zl45 pl45 rfl rfl) ?_;refine Sg 5 ag45 .h3 ?_
  exact zb [_] ⟨⟨b1, _, _, _, rfl, .h3, .inr ⟨rfl, rfl⟩⟩, trivial⟩ _ (.cons .here (Pick.nilE (.nil _))) ⟨_, ts2, at2, _, hF.symm, hp2, ⟨⟨7, 0, 0, none, 0, 0⟩, pack [], rfl, rfl, fun ns _ => numPlain (op := 7) ⟨by decide, by decide⟩⟩, by show [rd b A c ws at2 d (p + 1), pack []] = [rd b A c ws at2 d (p + numW (plainN 7 0 0)), pack []]; rw [yo]⟩
 rw [if_neg (by rw [hk]; decide)] at hF;refine vr 7 ?_;refine C1 cl56 rfl .here (fun m' hm he => take56 (s := sMin) (hw.mono hm) hp (asc _ rfl) (by decide)) ?_;rintro _ _ (⟨hk, hp1, rfl, rfl⟩ | ⟨hk, rfl, rfl⟩)
 ·have hl1 := zh hk;rw [if_pos hk] at hF;refine vr 7 ?_;refine Cp cl181 rfl .k0 (fun m' hm he => brackets181 (two := true) (hw.mono hm) hp1 hd8 (by omega) (by omega) hse (hsum.mono hm)) ?_ ?_
  ·rintro _ _ ⟨e', a', h1, rfl⟩;rw [h1] at hF;exact pn ⟨e', a', hF.symm, rfl⟩
  rintro _ _ ⟨x, ts2, at2, _, h1, hp2, ⟨q, r, e, rfl, rfl, hx⟩, rfl⟩;rw [h1] at hF;dsimp only [R.bind] at hF;clear h1;refine vr 3 ?_;refine Al 0 zl45 fun b3 => ?_;refine Al 0 zl45 fun b4 => ?_;refine Sg 0 ag45 .h1 ?_;refine Sg 4 ag45 .here ?_;refine Lc 0 ag45 .h1 ?_;refine Lc 0 ag45 .here ?_;refine zE ((yK cl151 rfl (fun m' hm he => pair151) rfl ?_)) rfl;rintro _ _ ⟨K, rfl, rfl⟩
  refine Sg 5 ag45 .h6 ?_
  exact zb [_] ⟨⟨b1, _, _, _, rfl, .h6, .inr ⟨rfl, rfl⟩⟩, trivial⟩ _ (.cons .h3 (Pick.pack2 (.cons .here .p2))) ⟨putN 11 x.1 x.2, ts2, at2, _, hF.symm, hp2, ⟨⟨11, 0, 0, some ⟨K, 0, none⟩, 2, 2⟩, pack [cel K (q.v ++ r.v) 45, e], rfl, rfl, fun ns h => numPair (op := 11) ⟨by decide, by decide⟩ (h.1 _ (.head _)) (hx ns (h.1 _ (.tail _ (.head _)))).1 (hx ns (h.1 _ (.tail _ (.head _)))).2⟩, by show [rd b A c ws at2 d (p + 1 + (numW x.1 + numW x.2)), pack [cel K (q.v ++ r.v) 45, e]] = [rd b A c ws at2 d (p + numW (putN 11 x.1 x.2)), pack [cel K (q.v ++ r.v) 45, e]]; rw [xy]; congr 2; omega⟩
 rw [if_neg (by rw [hk]; decide)] at hF;refine vr 7 ?_;refine C1 cl56 rfl .here (fun m' hm he => take56 (s := sMax) (hw.mono hm) hp (asc _ rfl) (by decide)) ?_;rintro _ _ (⟨hk, hp1, rfl, rfl⟩ | ⟨hk, rfl, rfl⟩)
 ·have hl1 := zh hk;rw [if_pos hk] at hF;refine vr 7 ?_;refine Cp cl181 rfl .k0 (fun m' hm he => brackets181 (two := true) (hw.mono hm) hp1 hd8 (by omega) (by omega) hse (hsum.mono hm)) ?_ ?_
  ·rintro _ _ ⟨e', a', h1, rfl⟩;rw [h1] at hF;exact pn ⟨e', a', hF.symm, rfl⟩
  rintro _ _ ⟨x, ts2, at2, _, h1, hp2, ⟨q, r, e, rfl, rfl, hx⟩, rfl⟩;rw [h1] at hF;dsimp only [R.bind] at hF;clear h1;refine vr 3 ?_;refine Al 0 zl45 fun b3 => ?_;refine Al 0 zl45 fun b4 => ?_;refine Sg 0 ag45 .h1 ?_;refine Sg 4 ag45 .here ?_;refine Lc 0 ag45 .h1 ?_;refine Lc 0 ag45 .here ?_;refine zE ((yK cl151 rfl (fun m' hm he => pair151) rfl ?_)) rfl;rintro _ _ ⟨K, rfl, rfl⟩
  refine Sg 5 ag45 .h6 ?_
  exact zb [_] ⟨⟨b1, _, _, _, rfl, .h6, .inr ⟨rfl, rfl⟩⟩, trivial⟩ _ (.cons .h3 (Pick.pack2 (.cons .here .p2))) ⟨putN 12 x.1 x.2, ts2, at2, _, hF.symm, hp2, ⟨⟨12, 0, 0, some ⟨K, 0, none⟩, 2, 2⟩, pack [cel K (q.v ++ r.v) 45, e], rfl, rfl, fun ns h => numPair (op := 12) ⟨by decide, by decide⟩ (h.1 _ (.head _)) (hx ns (h.1 _ (.tail _ (.head _)))).1 (hx ns (h.1 _ (.tail _ (.head _)))).2⟩, by show [rd b A c ws at2 d (p + 1 + (numW x.1 + numW x.2)), pack [cel K (q.v ++ r.v) 45, e]] = [rd b A c ws at2 d (p + numW (putN 12 x.1 x.2)), pack [cel K (q.v ++ r.v) 45, e]]; rw [xy]; congr 2; omega⟩
 rw [if_neg (by rw [hk]; decide)] at hF;refine vr 10 ?_;refine Cp cl19 rfl .k0 (fun m' hm he => bad19 120 (hw.mono hm) hp) ?_ ?_
 ·rintro _ _ rfl;exact pn ⟨120, _, hF.symm, rfl⟩
 ·rintro _ _ h;exact h.elim
end
section
open Wd Tp Kd
variable {m : Mp} {b c at_ d p : Nat} {A : Option Addr} {ws ts : List Wrd}
theorem Yf : SignsOk sumSigns := ⟨by decide, fun s hs => by
 simp only [sumSigns, List.mem_cons, List.not_mem_nil, or_false] at hs
 rcases hs with rfl | rfl <;> exact ⟨asc _ rfl, by decide, by decide, by decide⟩⟩
theorem Yw : SignsOk mulSigns := ⟨by decide, fun s hs => by
 simp only [mulSigns, List.mem_cons, List.not_mem_nil, or_false] at hs
 rcases hs with rfl <;> exact ⟨asc _ rfl, by decide, by decide, by decide⟩⟩
theorem term150 {sum : Nat → List Wrd → R NumT} {k n : Nat} (hw : WsR m A ws) (hp : Pos ws at_ ts) (hd8 : d ≤ 8) (hb : p + ts.length ≤ 4611686018427387904) (hk0 : ts.length < k + 1) (hn : ts.length < n) (hse : ∀ d ts, ts.length < k → Tp.Ends (sum d ts) numW ts.length) (hsum : SumC m b A c ws sum k) :
  RdC 150 [ptr b] m b A c ws at_ d p (pTerm sum n d ts) numW numV := by
 refine za [.cell 2 45] Tryz.func150 rfl rfl rfl ?_;refine tr 2 ?_;refine Al 5 zl45 fun b1 => ?_;refine Bs 0 sl61 fun b2 => ?_;refine Bs 2 sl168 fun b3 => ?_
 refine zE (zR cl149 rfl .k3 (fun m' hm he => row149 (k := k + 1) (signs := mulSigns) cl173 (hw.mono hm) ⟨Rd.blk (he _ (.tail _ (.head _))), Rd.blk (he _ (.head _))⟩ Yw (fun ts h => j7 hse ts h)
  (fun m2 h2 at_ p ts hp hb hk => one173 (hw.mono (hm.trans h2)) hp hd8 hb hk hse (hsum.mono (hm.trans h2))) hp hb hn hk0) rfl ?_ ?_) rfl
 ·rintro _ _ ⟨e', a', h1, rfl⟩;exact pn ⟨e', a', h1, rfl⟩
 rintro _ _ ⟨x, ts1, at1, _, h1, hp1, ⟨q, e, rfl, rfl, hx⟩, rfl⟩;refine Sg 3 ag45 .h4 ?_;exact zb [_] ⟨⟨b1, _, _, _, rfl, .h4, .inr ⟨rfl, rfl⟩⟩, trivial⟩ _ .pp ⟨x, ts1, at1, _, h1, hp1, ⟨q, e, rfl, rfl, hx⟩, rfl⟩
theorem sum127 : ∀ (n : Nat) {m : Mp}, WsR m A ws → SumC m b A c ws (pSum n) n
 | 0, _, _ => fun m' hm at_ d p ts hp hd8 hb hk => by cases hk
 | n + 1, m, hw => fun m' hm at_ d p ts hp hd8 hb hk => by
   refine za [.cell 2 45] Tryz.func127 rfl rfl rfl ?_;refine tr 2 ?_;refine Al 5 zl45 fun b1 => ?_;refine Bs 0 sl61 fun b2 => ?_;refine Bs 2 sl168 fun b3 => ?_
   refine zE (zR cl149 rfl .k3 (fun m1 h1 he => row149 (k := n + 1) (n := n + 1) (signs := sumSigns) cl150 (hw.mono (hm.trans h1)) ⟨Rd.blk (he _ (.tail _ (.head _))), Rd.blk (he _ (.head _))⟩ Yf
    (fun ts h => wz (k := n + 1) (fun ts h => j7 (yq n) ts h) xy (n + 1) ts h h)
    (fun m2 h2 at_ p ts hp hb hk => term150 (k := n) (hw.mono (hm.trans (h1.trans h2))) hp hd8 hb hk hk (yq n) (sum127 n (hw.mono (hm.trans (h1.trans h2))))) hp hb hk hk) rfl ?_ ?_) rfl
   ·rintro _ _ ⟨e', a', h1, rfl⟩;exact pn ⟨e', a', h1, rfl⟩
   rintro _ _ ⟨x, ts1, at1, _, h1, hp1, ⟨q, e, rfl, rfl, hx⟩, rfl⟩;refine Sg 3 ag45 .h4 ?_;exact zb [_] ⟨⟨b1, _, _, _, rfl, .h4, .inr ⟨rfl, rfl⟩⟩, trivial⟩ _ .pp ⟨x, ts1, at1, _, h1, hp1, ⟨q, e, rfl, rfl, hx⟩, rfl⟩
end
section
open Wd Tp Kd
variable {m : Mp} {b c at_ d p : Nat} {A : Option Addr} {ws ts : List Wrd}
theorem YW : ∀ (ws : List Wrd) (k : Nat), (wsV ws).drop (k * 4) = wsV (ws.drop k)
 | ws, 0 => by simp
 | [], k + 1 => by simp [wsV]
 | w :: r, k + 1 => by
   have ih := YW r k
   have : (wsV (w :: r)).drop ((k + 1) * 4) = (wsV r).drop (k * 4) := by
    simp only [wsV, List.flatMap_cons];rw [show (k + 1) * 4 = (wV w).length + k * 4 by simp [wV]; omega, ← List.drop_drop, List.drop_left]
   rw [this, ih, List.drop_succ_cons]
def numNext (w : Wrd) : Bool := decide (w.text ∈ [sLt, sLe, sEq, sPlus, sMinus, sStar])
theorem X1 (d : Int) (w : Wrd) (r : List Wrd) : outer d (w :: r) = if w.kind ≠ 3 then outer d r else if 0 < (if w.text = sOpen then d + 1 else if w.text = sClose then d - 1 else d) then outer (if w.text = sOpen then d + 1 else if w.text = sClose then d - 1 else d) r else if (hd r).kind ≠ 3 then true else !numNext (hd r) := by
 rw [outer]
 rfl
theorem outer182 (hw : WsR m A ws) (hp : Pos ws at_ ts) (hcap : ws.length ≤ c) : CS Tryz.prog 182 [ptr b] m [rd b A c ws at_ d p] (fun v L' => v = .bool (outer 0 ts) ∧ L' = [rd b A c ws at_ d p]) := by
 have hsm := hp.small;have hlt := hp.lt;have hlen := hp.len;have hA := hp.isSome hw
 have hS : Rd m (cutA A at_ c 4) (wsV ts) := by
  have := hw.cut (l := at_) (mm := c) (sz := 4) ts.length (by omega);rwa [YW, hp.eq, List.take_of_length_le (by rw [Zb]; omega)] at this
 have hS1 : (cutA A at_ c 4).isSome = true := hS.isSome (by rw [Zb]; have := hp.good.ne; have : 0 < ts.length := List.length_pos_iff.2 this; omega);refine yI [.tmp 2] Tryz.func182 rfl rfl rfl ?_;generalize hF : outer 0 ts = F;refine tr 12 ?_;refine z6 (sT [0, 1, 2, 4, 5, 6, 10, 103, 107, 8, 9] .done) mixed (by kernel_rfl) (fun _ _ _ _ hq => hq) ?_;refine vt 7 ?_
 refine Vl 0 rfl sg51 .here ?_;refine Vl 0 rfl sg3 .here ?_;refine Vt 1 rfl (UA _ ez51 rfl rfl rfl (by omega)) ?_;refine Vm 2 ?_
 refine zj (α := Nat × Int) (fun y => [(0, ptr b), (3, .int .i64 y.2), (15, .slice (cutA A at_ c 4) (ws.length - at_) (c - at_)), (16, .int .i64 ((ws.length - at_ : Nat) : Int)), (17, .int .i64 (y.1 : Nat))]) (fun _ => [rd b A c ws at_ d p]) (fun y => y.1 ≤ ts.length ∧ -(y.1 : Int) ≤ y.2 ∧ y.2 ≤ y.1 ∧ outer y.2 (ts.drop y.1) = F) (fun y => ts.length - y.1) (0, 0) ⟨rfl, rfl, rfl, rfl, rfl, trivial⟩ (Pick.refl _) ⟨Nat.zero_le _, by decide, by decide, hF⟩ ?_
 rintro ⟨i, z⟩ ⟨hi, hz1, hz2, ho⟩;dsimp only at hi hz1 hz2 ho;dsimp only;by_cases hli : i < ts.length
 rotate_left
 ·rw [List.drop_eq_nil_of_le (by omega), outer] at ho;subst ho;refine tr 2 ?_;refine cfo 6 ?_;refine zC ?_;refine zB ?_;refine qt 7 ?_;exact zm [_] ⟨rfl, trivial⟩ [_] .p0 ⟨rfl, rfl⟩
 have hat := hS.elem (i * 4) 4;rw [Zc hli] at hat;rw [List.drop_eq_getElem_cons hli, X1] at ho
 -- the next word, if this one is a mark
 have hnx : ts[i].kind = 3 → at_ + i + 1 < ws.length ∧ ∃ w, hd (ts.drop (i + 1)) = w ∧ At m ((sa A).add ((at_ + i + 1) * 4)) [.int .i8 w.kind, .string (bs w.text), .int .i64 w.n, .int .i64 w.at_] := fun h3 => by
  have h1 : i + 1 < ts.length := by
   by_cases h : i + 1 < ts.length
   ·exact h
   ·have hg := hp.good;have hl : i = ts.length - 1 := by omega
    exfalso
    have key : ∀ {l : List Wrd}, GoodT l → ∀ (h : l.length - 1 < l.length), l[l.length - 1].kind = 0 := fun {l} hg => by
     induction hg with
     | last h => intro _; exact h
     | @cons w r h _ _ hr ih =>
       intro _;have hr0 : 0 < r.length := List.length_pos_iff.2 hr.ne;have := ih (by omega);simp only [List.length_cons, Nat.add_sub_cancel];rw [List.getElem_cons]
       split
       ·omega
       ·exact this
    have := key hg (by omega);subst hl;omega
  have h2 : at_ + i + 1 < ws.length := by omega
  refine ⟨h2, ts[i + 1], ?_, ?_⟩
  ·rw [List.drop_eq_getElem_cons h1]; rfl
  ·have h3 := hw.elem ((at_ + i + 1) * 4) 4;rw [Zc h2] at h3
   have h4 : ws[at_ + i + 1] = ts[i + 1] := by
    have := hp.eq;subst this;rw [List.getElem_drop]
    congr 1
   rw [h4] at h3;exact h3
 generalize hw0 : ts[i] = w at hat ho hnx;unfold wV at hat;by_cases h3 : w.kind = 3
 rotate_left
 ·rw [if_pos h3] at ho;refine tr 2 ?_;refine cto 11 ?_;refine pe 0 (zI ez51 rfl rfl hS1 (by omega)) ?_;refine La 0 ag58 hat ?_;refine Al 1 zl58 fun b1 => ?_;refine Sg 6 ag58 .here ?_;refine Lb 0 sg42 .here ?_;refine cta 8 ?_;refine Pa 2 ?_;exact QR (i + 1, z) .p1 ⟨hli, by dsimp only; omega, by dsimp only; omega, ho⟩ (by dsimp only; omega)
 obtain ⟨hn1, w2, hn2, hn3⟩ := hnx h3;rw [if_neg (by simp [h3]), hn2] at ho;refine tr 2 ?_;refine cto 11 ?_;refine pe 0 (zI ez51 rfl rfl hS1 (by omega)) ?_;refine La 0 ag58 hat ?_;refine Al 1 zl58 fun b1 => ?_;refine Sg 6 ag58 .here ?_;refine Lb 0 sg42 .here ?_;refine cfo 7 ?_
 refine qm (α := Int) (fun z' => [(0, ptr b), (4, .int .i64 (i : Nat)), (15, .slice (cutA A at_ c 4) (ws.length - at_) (c - at_)), (16, .int .i64 ((ws.length - at_ : Nat) : Int)), (17, .int .i64 (i : Nat)), (3, .int .i64 z')]) (fun _ => [rd b A c ws at_ d p]) (fun z' => z' = if w.text = sOpen then z + 1 else if w.text = sClose then z - 1 else z) ?_ ?_
 ·by_cases h1 : w.text = sOpen
  ·rw [if_pos h1];refine tr 2 ?_;refine Lb 5 sg9 .here ?_;refine cta 6 ?_;refine Pa 3 ?_;exact QR (z + 1) .p1 rfl (by decide)
  rw [if_neg h1];by_cases h2 : w.text = sClose
  ·rw [if_pos h2];refine tr 2 ?_;refine Lb 5 sg9 .here ?_;refine cfa 6 ?_;refine cta 6 ?_;refine pe 3 (uM rfl rfl (w64 (by omega) (by omega))) ?_;exact QR (z - 1) .p1 rfl (by decide)
  rw [if_neg h2];refine tr 2 ?_;refine Lb 5 sg9 .here ?_;refine cfa 6 ?_;refine cfa 6 ?_;exact QR z .p1 rfl (by decide)
 intro z' hz';rw [← hz'] at ho
 have hzz : -((i : Int) + 1) ≤ z' ∧ z' ≤ (i : Int) + 1 := by
  rw [hz']
  split
  ·omega
  ·split <;> omega
 clear hz';by_cases hpos : 0 < z'
 ·rw [if_pos hpos] at ho;have hgt : z' > 0 := hpos;refine tr 4 ?_;refine cta 8 ?_;refine Pa 2 ?_;exact QR (i + 1, z') .p0 ⟨hli, by dsimp only; omega, by dsimp only; omega, ho⟩ (by dsimp only; omega)
 rw [if_neg hpos] at ho;have hgt : ¬ z' > 0 := hpos;by_cases hk3 : w2.kind = 3
 rotate_left
 ·rw [if_pos hk3] at ho;subst ho;refine tr 4 ?_;refine cfa 6 ?_;refine z6 (sT [0, 1, 2, 4, 5, 6, 8, 103, 107, 9, 10, 11, 112, 213, 314] .done) mixed (by kernel_rfl) (fun _ _ _ _ hq => hq) ?_;refine vt 7 ?_;refine Vl 0 rfl sg51 .here ?_;refine Vl 0 rfl sg3 .here ?_;refine Vt 0 rfl (zi rfl rfl (by omega)) ?_;refine Vt 0 rfl (vS rfl rfl (w64 (by omega) (by omega))) ?_
  refine Vt 0 rfl (zI ez51 rfl rfl hA (by omega)) ?_;refine Vu 0 rfl (zJ ag58 rfl rfl hn3) ?_;refine z1 rfl (yH zl58 rfl (fun b2 => ?_)) rfl;refine zW rfl rfl (zS ag58 rfl rfl rfl .here rfl rfl ?_) rfl;refine Vm 5 ?_;refine Lb 0 sg42 .here ?_;refine cta 12 ?_;refine zN ?_;refine zP ?_;refine zY ?_
  exact zm [_] ⟨rfl, trivial⟩ [_] .p1 ⟨rfl, rfl⟩
 rw [if_neg (by simp [hk3])] at ho;unfold numNext at ho;by_cases e1 : w2.text = sLt
 ·have e : F = false := by rw [← ho]; simp [e1]
  subst e;refine tr 4 ?_;refine cfa 6 ?_;refine z6 (sT [0, 1, 2, 4, 5, 6, 8, 103, 107, 9, 10, 11, 112, 213, 314] .done) mixed (by kernel_rfl) (fun _ _ _ _ hq => hq) ?_;refine vt 7 ?_;refine Vl 0 rfl sg51 .here ?_;refine Vl 0 rfl sg3 .here ?_;refine Vt 0 rfl (zi rfl rfl (by omega)) ?_;refine Vt 0 rfl (vS rfl rfl (w64 (by omega) (by omega))) ?_
  refine Vt 0 rfl (zI ez51 rfl rfl hA (by omega)) ?_;refine Vu 0 rfl (zJ ag58 rfl rfl hn3) ?_;refine z1 rfl (yH zl58 rfl (fun b2 => ?_)) rfl;refine zW rfl rfl (zS ag58 rfl rfl rfl .here rfl rfl ?_) rfl;refine Vm 5 ?_;refine Lb 0 sg42 .here ?_;refine cfo 9 ?_;refine Lb 6 sg9 .here ?_;refine cta 17 ?_;refine zN ?_;refine zP ?_
  refine zY ?_;exact zm [_] ⟨rfl, trivial⟩ [_] .p1 ⟨rfl, rfl⟩
 by_cases e2 : w2.text = sLe
 ·have e : F = false := by rw [← ho]; simp [e2]
  subst e;refine tr 4 ?_;refine cfa 6 ?_;refine z6 (sT [0, 1, 2, 4, 5, 6, 8, 103, 107, 9, 10, 11, 112, 213, 314] .done) mixed (by kernel_rfl) (fun _ _ _ _ hq => hq) ?_;refine vt 7 ?_;refine Vl 0 rfl sg51 .here ?_;refine Vl 0 rfl sg3 .here ?_;refine Vt 0 rfl (zi rfl rfl (by omega)) ?_;refine Vt 0 rfl (vS rfl rfl (w64 (by omega) (by omega))) ?_
  refine Vt 0 rfl (zI ez51 rfl rfl hA (by omega)) ?_;refine Vu 0 rfl (zJ ag58 rfl rfl hn3) ?_;refine z1 rfl (yH zl58 rfl (fun b2 => ?_)) rfl;refine zW rfl rfl (zS ag58 rfl rfl rfl .here rfl rfl ?_) rfl;refine Vm 5 ?_;refine Lb 0 sg42 .here ?_;refine cfo 9 ?_;refine Lb 6 sg9 .here ?_;refine cfa 6 ?_;refine cta 17 ?_;refine zN ?_
  refine zP ?_;refine zY ?_;exact zm [_] ⟨rfl, trivial⟩ [_] .p1 ⟨rfl, rfl⟩
 by_cases e3 : w2.text = sEq
 ·have e : F = false := by rw [← ho]; simp [e3]
  subst e;refine tr 4 ?_;refine cfa 6 ?_;refine z6 (sT [0, 1, 2, 4, 5, 6, 8, 103, 107, 9, 10, 11, 112, 213, 314] .done) mixed (by kernel_rfl) (fun _ _ _ _ hq => hq) ?_;refine vt 7 ?_;refine Vl 0 rfl sg51 .here ?_;refine Vl 0 rfl sg3 .here ?_;refine Vt 0 rfl (zi rfl rfl (by omega)) ?_;refine Vt 0 rfl (vS rfl rfl (w64 (by omega) (by omega))) ?_
  refine Vt 0 rfl (zI ez51 rfl rfl hA (by omega)) ?_;refine Vu 0 rfl (zJ ag58 rfl rfl hn3) ?_;refine z1 rfl (yH zl58 rfl (fun b2 => ?_)) rfl;refine zW rfl rfl (zS ag58 rfl rfl rfl .here rfl rfl ?_) rfl;refine Vm 5 ?_;refine Lb 0 sg42 .here ?_;refine cfo 9 ?_;refine Lb 6 sg9 .here ?_;refine cfa 6 ?_;refine cfa 6 ?_;refine cta 17 ?_;refine zN ?_
  refine zP ?_;refine zY ?_;exact zm [_] ⟨rfl, trivial⟩ [_] .p1 ⟨rfl, rfl⟩
 by_cases e4 : w2.text = sPlus
 ·have e : F = false := by rw [← ho]; simp [e4]
  subst e;refine tr 4 ?_;refine cfa 6 ?_;refine z6 (sT [0, 1, 2, 4, 5, 6, 8, 103, 107, 9, 10, 11, 112, 213, 314] .done) mixed (by kernel_rfl) (fun _ _ _ _ hq => hq) ?_;refine vt 7 ?_;refine Vl 0 rfl sg51 .here ?_;refine Vl 0 rfl sg3 .here ?_;refine Vt 0 rfl (zi rfl rfl (by omega)) ?_;refine Vt 0 rfl (vS rfl rfl (w64 (by omega) (by omega))) ?_
  refine Vt 0 rfl (zI ez51 rfl rfl hA (by omega)) ?_;refine Vu 0 rfl (zJ ag58 rfl rfl hn3) ?_;refine z1 rfl (yH zl58 rfl (fun b2 => ?_)) rfl;refine zW rfl rfl (zS ag58 rfl rfl rfl .here rfl rfl ?_) rfl;refine Vm 5 ?_;refine Lb 0 sg42 .here ?_;refine cfo 9 ?_;refine Lb 6 sg9 .here ?_;refine cfa 6 ?_;refine cfa 6 ?_;refine cfa 6 ?_;refine cta 17 ?_
  refine zN ?_;refine zP ?_;refine zY ?_;exact zm [_] ⟨rfl, trivial⟩ [_] .p1 ⟨rfl, rfl⟩
 by_cases e5 : w2.text = sMinus
 ·have e : F = false := by rw [← ho]; simp [e5]
  subst e;refine tr 4 ?_;refine cfa 6 ?_;refine z6 (sT [0, 1, 2, 4, 5, 6, 8, 103, 107, 9, 10, 11, 112, 213, 314] .done) mixed (by kernel_rfl) (fun _ _ _ _ hq => hq) ?_;refine vt 7 ?_;refine Vl 0 rfl sg51 .here ?_;refine Vl 0 rfl sg3 .here ?_;refine Vt 0 rfl (zi rfl rfl (by omega)) ?_;refine Vt 0 rfl (vS rfl rfl (w64 (by omega) (by omega))) ?_
  refine Vt 0 rfl (zI ez51 rfl rfl hA (by omega)) ?_;refine Vu 0 rfl (zJ ag58 rfl rfl hn3) ?_;refine z1 rfl (yH zl58 rfl (fun b2 => ?_)) rfl;refine zW rfl rfl (zS ag58 rfl rfl rfl .here rfl rfl ?_) rfl;refine Vm 5 ?_;refine Lb 0 sg42 .here ?_;refine cfo 9 ?_;refine Lb 6 sg9 .here ?_;refine cfa 6 ?_;refine cfa 6 ?_;refine cfa 6 ?_;refine cfa 6 ?_
  refine cta 17 ?_;refine zN ?_;refine zP ?_;refine zY ?_;exact zm [_] ⟨rfl, trivial⟩ [_] .p1 ⟨rfl, rfl⟩
 by_cases e6 : w2.text = sStar
 ·have e : F = false := by rw [← ho]; simp [e6]
  subst e;refine tr 4 ?_;refine cfa 6 ?_;refine z6 (sT [0, 1, 2, 4, 5, 6, 8, 103, 107, 9, 10, 11, 112, 213, 314] .done) mixed (by kernel_rfl) (fun _ _ _ _ hq => hq) ?_;refine vt 7 ?_;refine Vl 0 rfl sg51 .here ?_;refine Vl 0 rfl sg3 .here ?_;refine Vt 0 rfl (zi rfl rfl (by omega)) ?_;refine Vt 0 rfl (vS rfl rfl (w64 (by omega) (by omega))) ?_
  refine Vt 0 rfl (zI ez51 rfl rfl hA (by omega)) ?_;refine Vu 0 rfl (zJ ag58 rfl rfl hn3) ?_;refine z1 rfl (yH zl58 rfl (fun b2 => ?_)) rfl;refine zW rfl rfl (zS ag58 rfl rfl rfl .here rfl rfl ?_) rfl;refine Vm 5 ?_;refine Lb 0 sg42 .here ?_;refine cfo 9 ?_;refine Lb 6 sg9 .here ?_;refine cfa 6 ?_;refine cfa 6 ?_;refine cfa 6 ?_;refine cfa 6 ?_
  refine cfa 5 ?_;refine cta 14 ?_;refine zN ?_;refine zP ?_;refine zY ?_;exact zm [_] ⟨rfl, trivial⟩ [_] .p1 ⟨rfl, rfl⟩
 have e : F = true := by rw [← ho]; simp [e1, e2, e3, e4, e5, e6]
 subst e;refine tr 4 ?_;refine cfa 6 ?_;refine z6 (sT [0, 1, 2, 4, 5, 6, 8, 103, 107, 9, 10, 11, 112, 213, 314] .done) mixed (by kernel_rfl) (fun _ _ _ _ hq => hq) ?_;refine vt 7 ?_;refine Vl 0 rfl sg51 .here ?_;refine Vl 0 rfl sg3 .here ?_;refine Vt 0 rfl (zi rfl rfl (by omega)) ?_;refine Vt 0 rfl (vS rfl rfl (w64 (by omega) (by omega))) ?_
 refine Vt 0 rfl (zI ez51 rfl rfl hA (by omega)) ?_;refine Vu 0 rfl (zJ ag58 rfl rfl hn3) ?_;refine z1 rfl (yH zl58 rfl (fun b2 => ?_)) rfl;refine zW rfl rfl (zS ag58 rfl rfl rfl .here rfl rfl ?_) rfl;refine Vm 5 ?_;refine Lb 0 sg42 .here ?_;refine cfo 9 ?_;refine Lb 6 sg9 .here ?_;refine cfa 6 ?_;refine cfa 6 ?_;refine cfa 6 ?_;refine cfa 6 ?_
 refine cfa 5 ?_;refine cfa 15 ?_;refine zN ?_;refine zP ?_;refine zY ?_;exact zm [_] ⟨rfl, trivial⟩ [_] .p1 ⟨rfl, rfl⟩
end
section
open Wd Tp Kd
theorem cl154 : callable Tryz.prog 154 = true := by kernel_rfl
structure CondC where
 op : Int
 who : Int
 name : List UInt8
 N : Option Addr
 n : Nat
 nc : Nat
 K : Option Addr
 k : Nat
 kc : Nat
abbrev CondC.v (q : CondC) : List Value := [.int .i8 q.op, .int .i8 q.who, .string (bs q.name), .slice q.N q.n q.nc, .slice q.K q.k q.kc]
abbrev condV : CondT → Value → List Ent → Prop := fun x v Es => ∃ (q : CondC) (e : Ent), v = .agg q.v.toArray ∧ Es = [e] ∧ ∀ ns, e.inv ns → CondR ns q.v x
theorem condPair {m : Mp} {op : Int} {K : Nat} {q r : CondC} {x y : CondT} (ho : In8 op) (h : (cel K (q.v ++ r.v) 48).inv m) (hx : CondR m q.v x) (hy : CondR m r.v y) : CondR m [.int .i8 op, .int .i8 0, .string (bs []), .slice none 0 0, .slice (some ⟨K, 0, none⟩) 2 2] (putC op x y) :=
 .mk (vs := []) (us := q.v ++ r.v) ho ⟨by decide, by decide⟩ (by decide) rfl (by decide) (Rd.nil _ _) rfl (fun i h => by cases h) rfl (by decide) (Rd.blk h) rfl fun i hi => by
  have : i = 0 ∨ i = 1 := by have : i < 2 := hi; omega
  rcases this with rfl | rfl
  ·exact hx
  ·exact hy
theorem join154 {m : Mp} {op : Int} {q r : CondC} : CS Tryz.prog 154 [.int .i8 op, .agg q.v.toArray, .agg r.v.toArray] m [] (fun v L' => ∃ K, v = .agg [.int .i8 op, .int .i8 0, .string (bs []), .slice none 0 0, .slice (some ⟨K, 0, none⟩) 2 2].toArray ∧ L' = [cel K (q.v ++ r.v) 48]) := by
 refine yI [.cell 6 48] Tryz.func154 rfl rfl rfl ?_;refine tr 2 ?_;refine Bx 0 rfl fun b1 => ?_;refine Bx 0 rfl fun b2 => ?_;refine Al 5 zl48 fun b3 => ?_;refine Lc 0 ag48 .h2 ?_;refine Lc 0 ag48 .h1 ?_;refine Bs 0 sl46 fun b4 => ?_;refine pe 0 (zT zl48 pl48 rfl rfl) ?_;refine Sg 3 ag48 .h1 ?_;exact zm [_] ⟨⟨b3, _, _, _, rfl, .h1, .inr ⟨rfl, rfl⟩⟩, trivial⟩ _ .p0 ⟨b4, rfl, rfl⟩
theorem row152 {m : Mp} {b c at_ d p : Nat} {A : Option Addr} {ws ts : List Wrd} {g : FuncId} {one : List Wrd → R CondT} {signs : List (List UInt8 × Int)} {X Y : Option Addr} {xc yc n k : Nat} (hcl : callable Tryz.prog g = true) (hw : WsR m A ws) (hsg : SignsR m X Y signs) (hso : SignsOk signs)
  (he1 : ∀ ts, ts.length < k → Tp.Ends (one ts) condW ts.length)
  (hone : ∀ m', Le m m' → ∀ (at_ p : Nat) (ts : List Wrd), Pos ws at_ ts → p + ts.length ≤ 4611686018427000000 → ts.length < k → RdC g [ptr b] m' b A c ws at_ d p (one ts) condW condV)
  (hp : Pos ws at_ ts) (hb : p + ts.length ≤ 4611686018427000000) (hn : ts.length < n) (hk : ts.length < k) :
  RdC 152 [ptr b, .slice X signs.length xc, .slice Y signs.length yc, .func (.func g) [ptr b].toArray [].toArray, .func (.func 154) [].toArray [].toArray] m b A c ws at_ d p (pRow one signs putC n ts) condW condV := by
 generalize hF : pRow one signs putC n ts = F;unfold pRow at hF;obtain ⟨hsl, hs8⟩ := hso;refine za [.cell 10 48] Tryz.func152 rfl rfl rfl ?_;refine tr 2 ?_;refine Al 2 zl48 fun b1 => ?_
 refine TS_scopeJ' (α := RowS CondT CondC) 0 rfl (fun y => [(0, ptr b), (1, .slice X signs.length xc), (2, .slice Y signs.length yc), (3, .func (.func g) [ptr b].toArray [].toArray), (4, .func (.func 154) [].toArray [].toArray), (10, ptr b1), (11, ptr y.bx)]) (fun y => [rd b A c ws y.at_ d y.p, y.e, cel y.bx y.q.v 48, cel b1 [.int .i8 0, .int .i8 0, .string (bs []), .slice none 0 0, .slice none 0 0] 48])
  (fun y => pRest one signs putC y.n y.x y.ts = F ∧ Pos ws y.at_ y.ts ∧ y.p + y.ts.length ≤ 4611686018427000000 ∧ y.ts.length < y.n ∧ y.ts.length < k ∧ y.p = p + condW y.x ∧ ∀ ns, y.e.inv ns → CondR ns y.q.v y.x) (fun y => y.n) ?_ (fun hpass => ?_)
 ·rintro ⟨n, bx, a, p1, ts, x, q, e⟩ ⟨hF, hp, hb, hn, hk, hpw, hx⟩;dsimp only at hF hp hb hn hk hpw hx;dsimp only;obtain ⟨n, rfl⟩ : ∃ n', n = n' + 1 := ⟨n - 1, by omega⟩;refine tr 9 ?_
  refine zj (α := Nat) (fun i => [(0, ptr b), (1, .slice X signs.length xc), (2, .slice Y signs.length yc), (3, .func (.func g) [ptr b].toArray [].toArray), (4, .func (.func 154) [].toArray [].toArray), (10, ptr b1), (11, ptr bx), (17, .slice X signs.length xc), (18, .int .i64 (signs.length : Nat)), (19, .int .i64 (i : Nat))]) (fun i => [rd b A c ws a d p1, e, cel bx q.v 48, cel b1 [.int .i8 0, .int .i8 0, .string (bs []), .slice none 0 0, .slice none 0 0] 48]) (fun i => i ≤ signs.length ∧ ∀ (j : Nat) (hj : j < signs.length), j < i → isW signs[j].1 ts = false) (fun i => signs.length - i) 0 ⟨rfl, rfl, rfl, rfl, rfl, rfl, rfl, rfl, rfl, rfl, trivial⟩ (Pick.refl _) ⟨Nat.zero_le _, fun _ _ h => by cases h⟩ ?_
  rintro i ⟨hi, hno⟩;by_cases hlt : i < signs.length
  rotate_left
  ·have hfn := qd (signs := signs) (ts := ts) fun j hj => hno j hj (by omega);unfold pRest at hF;rw [hfn] at hF;dsimp only at hF;refine tr 2 ?_;refine cfo 6 ?_;refine zC ?_;refine zB ?_;refine qt 3 ?_;refine Lc 0 ag48 .h2 ?_;refine Sg 3 ag48 .h3 ?_;refine jf ?_
   exact zb [_] ⟨⟨b1, _, _, _, rfl, .h3, .inr ⟨rfl, rfl⟩⟩, trivial⟩ _ .pp ⟨x, ts, a, [e], hF.symm, hp, ⟨q, e, rfl, rfl, hx⟩, by rw [hpw]⟩
  have hX1 : X.isSome = true := hsg.x.isSome (by rw [List.length_map]; omega);have hY1 : Y.isSome = true := hsg.y.isSome (by rw [List.length_map]; omega);have hcx := hsg.x.at_ (show (signs.map fun s => strV s.1)[i]? = some (strV signs[i].1) by simp [hlt]);have hcy := hsg.y.at_ (show (signs.map fun s => Value.int .i8 s.2)[i]? = some (.int .i8 signs[i].2) by simp [hlt])
  have hai := hs8 signs[i] (List.getElem_mem hlt);have hfa := fun h => qe (ts := ts) hlt h hno
  have hnext : isW signs[i].1 ts = false → ∀ (j : Nat) (hj : j < signs.length), j < i + 1 → isW signs[j].1 ts = false := fun h j hj h2 => by
   by_cases hji : j < i
   ·exact hno j hj hji
   ·obtain rfl : j = i := by omega
    exact h
  generalize signs[i] = sg at hcx hcy hai hfa hnext;refine tr 2 ?_;refine cto 11 ?_;refine pe 0 (zD ez61 rfl rfl hX1 (by omega)) ?_;refine Lo 8 sg9 rfl hcx ?_;refine C1 cl56 rfl .here (fun m' hm he => take56 (s := sg.1) (hw.mono hm) hp hai.1 hai.2.1) ?_;rintro _ _ (⟨hk1, hp2, rfl, rfl⟩ | ⟨hk1, rfl, rfl⟩)
  rotate_left
  ·refine vr 7 ?_;refine Pa 2 ?_;exact QR (i + 1) (Pick.refl _) ⟨hlt, hnext hk1⟩ (by omega)
  have hl1 := zh hk1;unfold pRest at hF;rw [hfa hk1] at hF;dsimp only at hF;have hend := he1 ts.tail (by omega);refine vr 8 ?_;refine Lb 0 sg3 .here ?_;refine Pa 2 ?_;refine Sr 5 co3 .here .h3 ?_;refine zE (yl (p := [ptr b]) (q := []) (vs := []) hcl rfl rfl .k0 (fun m' hm he => hone m' hm (a + 1) (p1 + 1) ts.tail hp2 (by omega) (by omega)) rfl ?_ ?_) rfl
  ·rintro _ _ ⟨e', a', h1, rfl⟩;rw [h1] at hF;refine zU ?_;refine zH ?_;refine zU ?_;refine wt ?_;exact pn ⟨e', a', hF.symm, rfl⟩
  rintro _ _ ⟨y, ts2, at2, _, h1, hp3, ⟨r, ey, rfl, rfl, hy⟩, rfl⟩;rw [h1] at hF;have hlen := hend.2 y ts2 h1;have hyp := ya y;change pRest one signs putC n (putC sg.2 x y) ts2 = F at hF;refine Al 0 zl48 fun b2 => ?_;refine Sg 3 ag48 .here ?_;refine z6 (sT [0, 1, 2, 3, 104, 105, 106, 307, 308] .done) mixed (by kernel_rfl) (fun _ _ _ _ hq => hq) ?_;refine vt 3 ?_
  refine Vt 0 rfl (zD ez168 rfl rfl hY1 (by omega)) ?_;refine Vu 0 rfl (zF sg42 rfl hcy) ?_;refine Vu 0 rfl (ye ag48 rfl .h4 rfl) ?_;refine Vu 0 rfl (ye ag48 rfl .here rfl) ?_;refine zW rfl rfl ((W5 (p := []) (q := []) (vs := [.int .i8 sg.2, .agg q.v.toArray, .agg r.v.toArray]) cl154 rfl rfl (fun m' hm he => join154) rfl ?_)) rfl;rintro _ _ ⟨K, rfl, rfl⟩
  refine zW rfl rfl (zS ag48 rfl rfl rfl .h5 rfl rfl ?_) rfl;refine Vm 1 ?_;refine W3 ?_;refine xx ?_;refine wI ?_;refine uu ?_;refine xx ?_;refine wI ?_
  exact qp (⟨n, bx, at2, p1 + 1 + condW y, ts2, putC sg.2 x y, ⟨sg.2, 0, [], none, 0, 0, some ⟨K, 0, none⟩, 2, 2⟩, pack [cel K (q.v ++ r.v) 48, ey, e]⟩ : RowS CondT CondC) ⟨rfl, rfl, rfl, rfl, rfl, rfl, rfl, trivial⟩ (.cons .h2 (Pick.pack3 (.cons .here (.cons .h1 (.cons .h1 (.cons .h1 .p1))))))
   ⟨hF, hp3, by dsimp only; omega, by dsimp only; omega, by dsimp only; omega, by dsimp only; rw [uj]; omega, fun ns h => condPair hai.2.2 (h.1 _ (.head _)) (hx ns (h.1 _ (.tail _ (.tail _ (.head _))))) (hy ns (h.1 _ (.tail _ (.head _))))⟩ (fun k0 h => by cases h; exact Nat.lt_succ_self _)
 ·refine tr 3 ?_;refine zE (yl (p := [ptr b]) (q := []) (vs := []) hcl rfl rfl .k1 (fun m' hm he => hone m' hm at_ p ts hp hb hk) rfl ?_ ?_) rfl
  ·rintro _ _ ⟨e', a', h1, rfl⟩;rw [h1] at hF;refine uL ?_;refine wt ?_;exact pn ⟨e', a', hF.symm, rfl⟩
  rintro _ _ ⟨y, ts2, at2, _, h1, hp3, ⟨r, ey, rfl, rfl, hy⟩, rfl⟩;rw [h1] at hF;have hlen := (he1 ts hk).2 y ts2 h1;have hyp := ya y;change pRest one signs putC n y ts2 = F at hF;refine Al 0 zl48 fun b2 => ?_;refine Sg 3 ag48 .here ?_;refine XU ?_;refine qt 1 ?_
  exact XV (k0 := n) (⟨n, b2, at2, p + condW y, ts2, y, r, ey⟩ : RowS CondT CondC) (hpass _ ⟨hF, hp3, by show p + condW y + ts2.length ≤ 4611686018427000000; omega, by show ts2.length < n; omega, by show ts2.length < k; omega, rfl, hy⟩) ⟨rfl, rfl, rfl, rfl, rfl, rfl, rfl, trivial⟩ (.cons .h1 (.cons .h1 .pp))
end
end Go.Proofs.YtpgiokjfkcddeaaGreatDoor
