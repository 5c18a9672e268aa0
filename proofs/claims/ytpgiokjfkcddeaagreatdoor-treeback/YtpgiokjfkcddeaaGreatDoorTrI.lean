/- Parts of the proof: contracts of functions of the program, and plain lemmas. No condition. -/
import Derived.Test.YtpgiokjfkcddeaaGreatDoorFacts
import Derived.Test.YtpgiokjfkcddeaaGreatDoorEng2
import Derived.Shelf.Strings.OnBuilder
import Derived.Shelf.Strconv.Itoa3
import Derived.Test.YtpgiokjfkcddeaaGreatDoorProg
import Derived.Lib.ItoaLen
set_option maxHeartbeats 64000000
set_option maxRecDepth 100000
namespace Go.Proofs.YtpgiokjfkcddeaaGreatDoor
open Go.Eng
section
open Wd Tp Kd
variable {b c : Nat} {A : Option Addr} {ws : List Wrd}
theorem uU {ts ts' : List Wrd} {w : Int} (h : pSide ts = .ok w ts') : In8 w := by
 unfold pSide at h
 split at h
 ·cases h; exact ⟨by decide, by decide⟩
 ·split at h
  ·cases h; exact ⟨by decide, by decide⟩
  ·cases h
theorem UL {ts ts' : List Wrd} {w : Int} (h : pWho ts = .ok w ts') : In8 w := by
 unfold pWho at h
 split at h
 ·cases h; exact ⟨by decide, by decide⟩
 ·exact uU h
theorem vD {ws ts ts' : List Wrd} {at_ : Nat} {s : List UInt8} (hp : Pos ws at_ ts) (h : pName ts = .ok s ts') : s.length ≤ 65536 := by
 unfold pName at h
 split at h
 ·rename_i hk
  cases h;exact hp.good.text (by omega)
 ·cases h
theorem Wm {i : Nat} (h : i < lessSigns.length) : ([strV sLt, strV sLe, strV sEq] : List Value)[i]? = some (strV lessSigns[i].1) := by
 match i, h with
 | 0, _ => rfl
 | 1, _ => rfl
 | 2, _ => rfl
theorem Wl {i : Nat} (h : i < lessSigns.length) : lessSigns[i].2 = (i : Nat) := by
 match i, h with
 | 0, _ => rfl
 | 1, _ => rfl
 | 2, _ => rfl
theorem Yx {i : Nat} (h : i < lessSigns.length) : Ascii lessSigns[i].1 ∧ lessSigns[i].1.length ≤ 1000 := ascs (lessSigns.map (·.1)) rfl _ (List.mem_map.2 ⟨lessSigns[i], List.getElem_mem h, rfl⟩)
theorem condNot {m : Mp} {K : Nat} {q : CondC} {x : CondT} (h : (cel K q.v 48).inv m) (hx : CondR m q.v x) : CondR m [.int .i8 3, .int .i8 0, .string (bs []), .slice none 0 0, .slice (some ⟨K, 0, none⟩) 1 1] (.mk 3 0 [] [] [x]) :=
 .mk (vs := []) (us := q.v) ⟨by decide, by decide⟩ ⟨by decide, by decide⟩ (by decide) rfl (by decide) (Rd.nil _ _) rfl (fun i h => by cases h) rfl (by decide) (Rd.blk h) rfl fun i hi => by
  have : i = 0 := by have : i < 1 := hi; omega
  subst this;exact hx
theorem condHolds {m : Mp} {w : Int} {s : List UInt8} (hw : In8 w) (hs : s.length ≤ maxLen) : CondR m [.int .i8 6, .int .i8 w, .string (bs s), .slice none 0 0, .slice none 0 0] (.mk 6 w s [] []) :=
 .mk (vs := []) (us := []) ⟨by decide, by decide⟩ hw hs rfl (by decide) (Rd.nil _ _) rfl (fun i h => by cases h) rfl (by decide) (Rd.nil _ _) rfl fun i h => by cases h
theorem condLess {m : Mp} {op : Int} {K : Nat} {q r : NumC} {x y : NumT} (ho : In8 op) (h : (cel K (q.v ++ r.v) 45).inv m) (hx : NumR m q.v x) (hy : NumR m r.v y) : CondR m [.int .i8 op, .int .i8 0, .string (bs []), .slice (some ⟨K, 0, none⟩) 2 2, .slice none 0 0] (.mk op 0 [] [x, y] []) :=
 .mk (vs := q.v ++ r.v) (us := []) ho ⟨by decide, by decide⟩ (by decide) rfl (by decide) (Rd.blk h) rfl (fun i hi => by
  have : i = 0 ∨ i = 1 := by have : i < 2 := hi; omega
  rcases this with rfl | rfl
  ·exact hx
  ·exact hy) rfl (by decide) (Rd.nil _ _) rfl fun i h => by cases h
def CnC (m : Mp) (b : Nat) (A : Option Addr) (c : Nat) (ws : List Wrd) (cond : Nat → List Wrd → R CondT) (k : Nat) : Prop :=
 ∀ m', Le m m' → ∀ (at_ d p : Nat) (ts : List Wrd), Pos ws at_ ts → d ≤ 8 → p + ts.length ≤ 4611686018427000000 → ts.length < k → RdC 130 [ptr b] m' b A c ws at_ d p (cond d ts) condW condV
theorem CnC.mono {m m' : Mp} {cond : Nat → List Wrd → R CondT} {k : Nat} (h : CnC m b A c ws cond k) (hl : Le m m') : CnC m' b A c ws cond k := fun m2 h2 => h m2 (hl.trans h2)
theorem test174 {m : Mp} {sum : Nat → List Wrd → R NumT} {cond : Nat → List Wrd → R CondT} {k : Nat} (hT : Tabs m) (hw : WsR m A ws) (hcap : ws.length ≤ c) (hse : ∀ d ts, ts.length < k + 1 → Tp.Ends (sum d ts) numW ts.length) (hsum : SumC m b A c ws sum (k + 1)) (hce : ∀ d ts, ts.length < k → Tp.Ends (cond d ts) condW ts.length) (hcond : CnC m b A c ws cond k) :
  ∀ (n : Nat) (m' : Mp), Le m m' → ∀ (at_ d p : Nat) (ts : List Wrd), Pos ws at_ ts → d ≤ 8 → p + ts.length ≤ 4611686018427000000 → ts.length < n → ts.length < k + 1 → RdC 174 [ptr b] m' b A c ws at_ d p (pTest sum cond n d ts) condW condV
 | 0, _, _, _, _, _, _, _, _, _, h, _ => by cases h
 | n + 1, m', hm, at_, d, p, ts, hp, hd8, hb, hn, hk0 => by
   generalize hF : pTest sum cond (n + 1) d ts = F;unfold pTest at hF;have hsm := hp.small;have hlt := hp.lt;refine za [.cell 2 48] Tryz.func174 rfl rfl rfl ?_;refine tr 2 ?_;refine Al 7 zl48 fun b1 => ?_;refine C1 cl18 rfl .h1 (fun m1 h1 he => is18 (s := sNot) (hw.mono (hm.trans h1)) hp (asc _ rfl) (by decide)) ?_;rintro _ _ ⟨rfl, rfl⟩;cases hkn : isW sNot ts with
   | true =>
     rw [if_pos hkn] at hF;have hl1 := zh hkn;have hp1 := hp.isW hkn;refine vr 7 ?_;refine Cp cl129 rfl .k0 (fun m1 h1 he => in129 (hw.mono (hm.trans h1)) hp hd8) ?_ ?_
     ·rintro _ _ ⟨h8, rfl⟩;rw [pIn, if_pos h8] at hF;exact pn ⟨121, _, hF.symm, rfl⟩
     rintro _ _ ⟨h8, rfl, rfl⟩;rw [pIn, if_neg (by omega)] at hF;dsimp only [R.bind] at hF;refine vr 7 ?_;refine Lb 0 sg3 .here ?_;refine Pa 2 ?_;refine Sr 7 co3 .here .h1 ?_;refine Lb 0 sg3 .here ?_;refine Pa 2 ?_;refine Sr 5 co3 .here .h3 ?_
     refine Cp cl174 rfl .k0 (fun m1 h1 he => test174 hT hw hcap hse hsum hce hcond n m1 (hm.trans h1) (at_ + 1) (d + 1) (p + 1) ts.tail hp1 h8 (by omega) (by omega) (by omega)) ?_ ?_
     ·rintro _ _ ⟨e', a', h1, rfl⟩;rw [h1] at hF;exact pn ⟨e', a', hF.symm, rfl⟩
     rintro _ _ ⟨x, ts2, at2, _, h1, hp2, ⟨q, e, rfl, rfl, hx⟩, rfl⟩;rw [h1] at hF;dsimp only [R.bind] at hF;clear h1;refine Al 0 zl48 fun b2 => ?_;refine Sg 7 ag48 .here ?_;refine Lb 0 sg3 .h1 ?_;refine pe 2 (uM rfl rfl (w64 (by omega) (by omega))) ?_;refine Sr 4 co3 .h1 .h2 ?_;refine Lc 0 ag48 .here ?_;refine Bs 0 sl46 fun b3 => ?_;refine pe 0 (zT zl48 pl48 rfl rfl) ?_
     refine Sg 5 ag48 .h4 ?_;rw [show ((d + 1 : Nat) : Int) - 1 = (d : Nat) by omega]
     exact zb [_] ⟨⟨b1, _, _, _, rfl, .h4, .inr ⟨rfl, rfl⟩⟩, trivial⟩ _ (.cons .h2 (Pick.pack2 (.cons .here .p1))) ⟨_, ts2, at2, _, hF.symm, hp2, ⟨⟨3, 0, [], none, 0, 0, some ⟨b3, 0, none⟩, 1, 1⟩, pack [cel b3 q.v 48, e], rfl, rfl, fun ns h => condNot (h.1 _ (.head _)) (hx ns (h.1 _ (.tail _ (.head _))))⟩, by show [rd b A c ws at2 d (p + 1 + condW x), pack [cel b3 q.v 48, e]] = [rd b A c ws at2 d (p + condW (.mk 3 0 [] [] [x])), pack [cel b3 q.v 48, e]]; rw [yd]; simp only [List.map_nil, List.map_cons, List.sum_nil, List.sum_cons, Nat.add_zero, Nat.add_assoc]⟩
   | false =>
   rw [if_neg (by rw [hkn]; decide)] at hF;refine vr 7 ?_;refine C1 cl18 rfl .here (fun m1 h1 he => is18 (s := sOpen) (hw.mono (hm.trans h1)) hp (asc _ rfl) (by decide)) ?_;rintro _ _ ⟨rfl, rfl⟩;cases hko : isW sOpen ts with
   | true =>
     refine vr 2 ?_;refine C1 cl182 rfl .here (fun m1 h1 he => outer182 (hw.mono (hm.trans h1)) hp hcap) ?_;rintro _ _ ⟨rfl, rfl⟩;cases hou : outer 0 ts with
     | true =>
       rw [if_pos (by rw [hko, hou]; rfl)] at hF;have hl1 := zh hko;have hp1 := hp.isW hko;refine vr 8 ?_;refine Cp cl129 rfl .k0 (fun m1 h1 he => in129 (hw.mono (hm.trans h1)) hp hd8) ?_ ?_
       ·rintro _ _ ⟨h8, rfl⟩;rw [pIn, if_pos h8] at hF;exact pn ⟨121, _, hF.symm, rfl⟩
       rintro _ _ ⟨h8, rfl, rfl⟩;rw [pIn, if_neg (by omega)] at hF;dsimp only [R.bind] at hF;refine vr 7 ?_;refine Lb 0 sg3 .here ?_;refine Pa 2 ?_;refine Sr 5 co3 .here .h1 ?_;refine Cp cl130 rfl .k0 (fun m1 h1 he => hcond m1 (hm.trans h1) (at_ + 1) (d + 1) p ts.tail hp1 h8 (by omega) (by omega)) ?_ ?_
       ·rintro _ _ ⟨e', a', h1, rfl⟩;rw [h1] at hF;exact pn ⟨e', a', hF.symm, rfl⟩
       rintro _ _ ⟨x, ts2, at2, _, h1, hp2, ⟨q, e, rfl, rfl, hx⟩, rfl⟩;rw [h1] at hF;dsimp only [R.bind] at hF;have hl2 := (hce (d + 1) ts.tail (by omega)).2 _ _ h1;clear h1;refine Al 0 zl48 fun b2 => ?_;refine Sg 5 ag48 .here ?_;refine Bs 0 sl61 fun b3 => ?_
       refine Cp cl58 rfl .k2 (fun m1 h1 he => must58 (s := sClose) (hw.mono (hm.trans h1)) (Rd.blk (he _ (.head _))) (asc _ rfl) (by decide) hp2) ?_ ?_
       ·rintro _ _ ⟨e', a', h1, rfl⟩;rw [h1] at hF;exact pn ⟨e', a', hF.symm, rfl⟩
       rintro _ _ ⟨_, ts3, at3, _, h1, hp3, ⟨rfl, rfl⟩, rfl⟩;rw [h1] at hF;dsimp only [R.bind] at hF;have hl3 : 1 + ts3.length ≤ ts2.length := (zL (s := sClose) (ts := ts2)).2 _ _ h1;clear h1;refine vr 7 ?_;refine Lb 0 sg3 .here ?_;refine pe 2 (uM rfl rfl (w64 (by omega) (by omega))) ?_;refine Sr 4 co3 .here .h2 ?_;refine Lc 0 ag48 .h2 ?_;refine Sg 5 ag48 .h4 ?_
       rw [show ((d + 1 : Nat) : Int) - 1 = (d : Nat) by omega];exact zb [_] ⟨⟨b1, _, _, _, rfl, .h4, .inr ⟨rfl, rfl⟩⟩, trivial⟩ _ (.cons .here .p2) ⟨x, ts3, at3, _, hF.symm, hp3, ⟨q, e, rfl, rfl, hx⟩, rfl⟩
     | false =>
       have hF2 := hF;rw [if_neg (by rw [hko, hou]; decide)] at hF2;clear hF;have hF := hF2;clear hF2;refine vr 13 ?_;refine Lb 0 sg3 .here ?_;refine Pa 2 ?_;refine Sr 6 co3 .here .h3 ?_;refine C1 cl56 rfl .here (fun m1 h1 he => take56 (s := sHolds) (hw.mono (hm.trans h1)) hp (asc _ rfl) (by decide)) ?_;rintro _ _ (⟨hk, hp1, rfl, rfl⟩ | ⟨hk, rfl, rfl⟩)
       ·have hl1 := zh hk;rw [if_pos hk] at hF;refine vr 6 ?_;refine Bs 0 sl61 fun b2 => ?_;refine Cp cl58 rfl .k1 (fun m1 h1 he => must58 (s := sOpen) (hw.mono (hm.trans h1)) (Rd.blk (he _ (.head _))) (asc _ rfl) (by decide) hp1) ?_ ?_
        ·rintro _ _ ⟨e', a', h1, rfl⟩;rw [h1] at hF;exact pn ⟨e', a', hF.symm, rfl⟩
        rintro _ _ ⟨_, ts2, at2, _, h1, hp2, ⟨rfl, rfl⟩, rfl⟩;rw [h1] at hF;dsimp only [R.bind] at hF;have hl2 : 1 + ts2.length ≤ ts.tail.length := (zL (s := sOpen) (ts := ts.tail)).2 _ _ h1;clear h1;refine vr 5 ?_;refine Cp cl128 rfl .k0 (fun m1 h1 he => side128 (hw.mono (hm.trans h1)) hp2) ?_ ?_
        ·rintro _ _ ⟨e', a', h1, rfl⟩;rw [h1] at hF;exact pn ⟨e', a', hF.symm, rfl⟩
        rintro _ _ ⟨w, ts3, at3, _, h1, hp3, ⟨rfl, rfl⟩, rfl⟩;rw [h1] at hF;dsimp only [R.bind] at hF;have hl3 : 1 + ts3.length ≤ ts2.length := (yj (ts := ts2)).2 _ _ h1;have hw8 := uU h1;clear h1;refine pe 0 (zT zl48 pl48 rfl rfl) ?_;refine Al 0 zl48 fun b3 => ?_;refine Sg 5 ag48 .here ?_;refine Bs 0 sl61 fun b4 => ?_
        refine Cp cl58 rfl .k2 (fun m1 h1 he => must58 (s := sComma) (hw.mono (hm.trans h1)) (Rd.blk (he _ (.head _))) (asc _ rfl) (by decide) hp3) ?_ ?_
        ·rintro _ _ ⟨e', a', h1, rfl⟩;rw [h1] at hF;exact pn ⟨e', a', hF.symm, rfl⟩
        rintro _ _ ⟨_, ts4, at4, _, h1, hp4, ⟨rfl, rfl⟩, rfl⟩;rw [h1] at hF;dsimp only [R.bind] at hF;have hl4 : 1 + ts4.length ≤ ts3.length := (zL (s := sComma) (ts := ts3)).2 _ _ h1;clear h1;refine vr 5 ?_;refine Cp cl55 rfl .k0 (fun m1 h1 he => name55 (hT.mono (hm.trans h1)) (hw.mono (hm.trans h1)) hp4) ?_ ?_
        ·rintro _ _ ⟨e', a', h1, rfl⟩;rw [h1] at hF;exact pn ⟨e', a', hF.symm, rfl⟩
        rintro _ _ ⟨s, ts5, at5, _, h1, hp5, ⟨rfl, rfl⟩, rfl⟩;rw [h1] at hF;dsimp only [R.bind] at hF;have hl5 : 1 + ts5.length ≤ ts4.length := (yr (ts := ts4)).2 _ _ h1;have hs5 := vD hp4 h1;clear h1;refine vr 1 ?_;refine Sr 5 co9 .h2 .h2 ?_;refine Bs 0 sl61 fun b5 => ?_
        refine Cp cl58 rfl .k1 (fun m1 h1 he => must58 (s := sClose) (hw.mono (hm.trans h1)) (Rd.blk (he _ (.head _))) (asc _ rfl) (by decide) hp5) ?_ ?_
        ·rintro _ _ ⟨e', a', h1, rfl⟩;rw [h1] at hF;exact pn ⟨e', a', hF.symm, rfl⟩
        rintro _ _ ⟨_, ts6, at6, _, h1, hp6, ⟨rfl, rfl⟩, rfl⟩;rw [h1] at hF;dsimp only [R.bind] at hF;have hl6 : 1 + ts6.length ≤ ts5.length := (zL (s := sClose) (ts := ts5)).2 _ _ h1;clear h1;refine vr 4 ?_;refine Lc 0 ag48 .h3 ?_;refine Sg 4 ag48 .h5 ?_
        exact zb [_] ⟨⟨b1, _, _, _, rfl, .h5, .inr ⟨rfl, rfl⟩⟩, trivial⟩ _ (.cons .here (Pick.nilE (.nil _))) ⟨_, ts6, at6, _, hF.symm, hp6, ⟨⟨6, w, s, none, 0, 0, none, 0, 0⟩, pack [], rfl, rfl, fun ns _ => condHolds (s := s) hw8 (by unfold maxLen; omega)⟩, by show [rd b A c ws at6 d (p + 1), pack []] = [rd b A c ws at6 d (p + condW (.mk 6 w s [] [])), pack []]; rw [yd]; rfl⟩
       rw [if_neg (by rw [hk]; decide)] at hF;refine vr 8 ?_;refine Cp cl127 rfl .k0 (fun m1 h1 he => hsum m1 (hm.trans h1) at_ d (p + 1) ts hp hd8 (by omega) (by omega)) ?_ ?_
       ·rintro _ _ ⟨e', a', h1, rfl⟩;rw [h1] at hF;exact pn ⟨e', a', hF.symm, rfl⟩
       rintro _ _ ⟨a, ts1, at1, _, h1, hp1, ⟨q, ea, rfl, rfl, ha⟩, rfl⟩;rw [h1] at hF;dsimp only [R.bind] at hF;have hl1 := (hse d ts (by omega)).2 _ _ h1;clear h1;have hap := qV a;refine Al 0 zl45 fun b2 => ?_;refine Sg 5 ag45 .here ?_;refine Bs 5 sl61 fun b3 => ?_
       refine zj (α := Nat) (fun i => [(0, ptr b), (2, ptr b1), (6, ptr b2), (97, .slice (some ⟨b3, 0, none⟩) 3 3), (98, .int .i64 3), (99, .int .i64 (i : Nat))]) (fun i => [cel b3 [strV sLt, strV sLe, strV sEq] 9, cel b2 q.v 45, rd b A c ws at1 d (p + 1 + numW a), ea, cel b1 [.int .i8 0, .int .i8 0, .string (bs []), .slice none 0 0, .slice none 0 0] 48]) (fun i => i ≤ lessSigns.length ∧ ∀ (j : Nat) (hj : j < lessSigns.length), j < i → isW lessSigns[j].1 ts1 = false) (fun i => lessSigns.length - i) 0 ⟨rfl, rfl, rfl, rfl, rfl, rfl, trivial⟩ (Pick.refl _) ⟨Nat.zero_le _, fun _ _ h => by cases h⟩ ?_
       rintro i ⟨hi, hno⟩;have hwl : lessSigns.length = 3 := rfl;by_cases hli : i < lessSigns.length
       ·have hcx : ([strV sLt, strV sLe, strV sEq] : List Value)[i]? = some (strV lessSigns[i].1) := Wm hli;have hfa := fun h => qe (ts := ts1) hli h hno;have hw2 := Wl hli;have hai := Yx hli
        have hnext : isW lessSigns[i].1 ts1 = false → ∀ (j : Nat) (hj : j < lessSigns.length), j < i + 1 → isW lessSigns[j].1 ts1 = false := fun h j hj h2 => by
         by_cases hji : j < i
         ·exact hno j hj hji
         ·obtain rfl : j = i := by omega
          exact h
        generalize lessSigns[i] = sg at hcx hfa hw2 hai hnext;refine tr 2 ?_;refine cto 11 ?_;refine pe 0 (zD ez61 rfl rfl rfl (by omega)) ?_;refine lr 8 (jv sg9 rfl .here hcx) ?_;refine C1 cl56 rfl .h2 (fun m1 h1 he => take56 (s := sg.1) (hw.mono (hm.trans h1)) hp1 hai.1 hai.2) ?_;rintro _ _ (⟨hk1, hp2, rfl, rfl⟩ | ⟨hk1, rfl, rfl⟩)
        rotate_left
        ·refine vr 7 ?_;refine Pa 2 ?_;exact QR (i + 1) (.cons .h1 (.cons .h1 (.cons .here .pp))) ⟨hli, hnext hk1⟩ (by omega)
        have hl2 := zh hk1;rw [hfa hk1] at hF;dsimp only at hF;refine vr 6 ?_;refine Cp cl127 rfl .k0 (fun m1 h1 he => hsum m1 (hm.trans h1) (at1 + 1) d (p + 1 + numW a) ts1.tail hp2 hd8 (by omega) (by omega)) ?_ ?_
        ·rintro _ _ ⟨e', a', h1, rfl⟩;rw [h1] at hF;refine zU ?_;refine zH ?_;exact pn ⟨e', a', hF.symm, rfl⟩
        rintro _ _ ⟨y, ts3, at3, _, h1, hp3, ⟨r, ey, rfl, rfl, hy⟩, rfl⟩;rw [h1] at hF;dsimp only [R.bind] at hF;clear h1;refine Al 0 zl45 fun b4 => ?_;refine Sg 5 ag45 .here ?_;refine pe 0 ((vn us3 ik42 rfl (w8 (by omega) (by omega)))) ?_;skip;refine pe 0 ((vS rfl rfl (w8 (by omega) (by omega)))) ?_;rw [show ((0 : Int) + (i : Nat)) = sg.2 by omega];refine Lc 0 ag45 .h4 ?_
        refine Lc 0 ag45 .here ?_;refine Bs 0 sl43 fun b5 => ?_;refine pe 0 (zT zl48 pl48 rfl rfl) ?_;refine Sg 5 ag48 .h7 ?_;refine zN ?_;refine zP ?_;refine zY ?_
        exact zb [_] ⟨⟨b1, _, _, _, rfl, .h7, .inr ⟨rfl, rfl⟩⟩, trivial⟩ _ (.cons .h2 (Pick.pack3 (.cons .here (.cons .h4 .p1)))) ⟨_, ts3, at3, _, hF.symm, hp3, ⟨⟨sg.2, 0, [], some ⟨b5, 0, none⟩, 2, 2, none, 0, 0⟩, pack [cel b5 (q.v ++ r.v) 45, ea, ey], rfl, rfl, fun ns h => condLess (op := sg.2) ⟨by omega, by omega⟩ (h.1 _ (.head _)) (ha ns (h.1 _ (.tail _ (.head _)))) (hy ns (h.1 _ (.tail _ (.tail _ (.head _)))))⟩, by show [rd b A c ws at3 d (p + 1 + numW a + numW y), pack [cel b5 (q.v ++ r.v) 45, ea, ey]] = [rd b A c ws at3 d (p + condW (.mk sg.2 0 [] [a, y] [])), pack [cel b5 (q.v ++ r.v) 45, ea, ey]]; rw [yd]; simp only [List.map_nil, List.map_cons, List.sum_nil, List.sum_cons, Nat.add_zero, Nat.add_assoc]⟩
       rw [qd (signs := lessSigns) (ts := ts1) fun j hj => hno j hj (by omega)] at hF;dsimp only at hF;refine tr 2 ?_;refine cfo 6 ?_;refine zC ?_;refine zB ?_;refine qt 4 ?_;refine Cp cl19 rfl .k2 (fun m1 h1 he => bad19 120 (hw.mono (hm.trans h1)) hp1) ?_ ?_
       ·rintro _ _ rfl;exact pn ⟨120, _, hF.symm, rfl⟩
       ·rintro _ _ h;exact h.elim
   | false =>
   rw [if_neg (by rw [hko]; simp)] at hF;refine vr 16 ?_;refine Lb 0 sg3 .here ?_;refine Pa 2 ?_;refine Sr 6 co3 .here .h3 ?_;refine C1 cl56 rfl .here (fun m1 h1 he => take56 (s := sHolds) (hw.mono (hm.trans h1)) hp (asc _ rfl) (by decide)) ?_;rintro _ _ (⟨hk, hp1, rfl, rfl⟩ | ⟨hk, rfl, rfl⟩)
   ·have hl1 := zh hk;rw [if_pos hk] at hF;refine vr 6 ?_;refine Bs 0 sl61 fun b2 => ?_;refine Cp cl58 rfl .k1 (fun m1 h1 he => must58 (s := sOpen) (hw.mono (hm.trans h1)) (Rd.blk (he _ (.head _))) (asc _ rfl) (by decide) hp1) ?_ ?_
    ·rintro _ _ ⟨e', a', h1, rfl⟩;rw [h1] at hF;exact pn ⟨e', a', hF.symm, rfl⟩
    rintro _ _ ⟨_, ts2, at2, _, h1, hp2, ⟨rfl, rfl⟩, rfl⟩;rw [h1] at hF;dsimp only [R.bind] at hF;have hl2 : 1 + ts2.length ≤ ts.tail.length := (zL (s := sOpen) (ts := ts.tail)).2 _ _ h1;clear h1;refine vr 5 ?_;refine Cp cl128 rfl .k0 (fun m1 h1 he => side128 (hw.mono (hm.trans h1)) hp2) ?_ ?_
    ·rintro _ _ ⟨e', a', h1, rfl⟩;rw [h1] at hF;exact pn ⟨e', a', hF.symm, rfl⟩
    rintro _ _ ⟨w, ts3, at3, _, h1, hp3, ⟨rfl, rfl⟩, rfl⟩;rw [h1] at hF;dsimp only [R.bind] at hF;have hl3 : 1 + ts3.length ≤ ts2.length := (yj (ts := ts2)).2 _ _ h1;have hw8 := uU h1;clear h1;refine pe 0 (zT zl48 pl48 rfl rfl) ?_;refine Al 0 zl48 fun b3 => ?_;refine Sg 5 ag48 .here ?_;refine Bs 0 sl61 fun b4 => ?_
    refine Cp cl58 rfl .k2 (fun m1 h1 he => must58 (s := sComma) (hw.mono (hm.trans h1)) (Rd.blk (he _ (.head _))) (asc _ rfl) (by decide) hp3) ?_ ?_
    ·rintro _ _ ⟨e', a', h1, rfl⟩;rw [h1] at hF;exact pn ⟨e', a', hF.symm, rfl⟩
    rintro _ _ ⟨_, ts4, at4, _, h1, hp4, ⟨rfl, rfl⟩, rfl⟩;rw [h1] at hF;dsimp only [R.bind] at hF;have hl4 : 1 + ts4.length ≤ ts3.length := (zL (s := sComma) (ts := ts3)).2 _ _ h1;clear h1;refine vr 5 ?_;refine Cp cl55 rfl .k0 (fun m1 h1 he => name55 (hT.mono (hm.trans h1)) (hw.mono (hm.trans h1)) hp4) ?_ ?_
    ·rintro _ _ ⟨e', a', h1, rfl⟩;rw [h1] at hF;exact pn ⟨e', a', hF.symm, rfl⟩
    rintro _ _ ⟨s, ts5, at5, _, h1, hp5, ⟨rfl, rfl⟩, rfl⟩;rw [h1] at hF;dsimp only [R.bind] at hF;have hl5 : 1 + ts5.length ≤ ts4.length := (yr (ts := ts4)).2 _ _ h1;have hs5 := vD hp4 h1;clear h1;refine vr 1 ?_;refine Sr 5 co9 .h2 .h2 ?_;refine Bs 0 sl61 fun b5 => ?_
    refine Cp cl58 rfl .k1 (fun m1 h1 he => must58 (s := sClose) (hw.mono (hm.trans h1)) (Rd.blk (he _ (.head _))) (asc _ rfl) (by decide) hp5) ?_ ?_
    ·rintro _ _ ⟨e', a', h1, rfl⟩;rw [h1] at hF;exact pn ⟨e', a', hF.symm, rfl⟩
    rintro _ _ ⟨_, ts6, at6, _, h1, hp6, ⟨rfl, rfl⟩, rfl⟩;rw [h1] at hF;dsimp only [R.bind] at hF;have hl6 : 1 + ts6.length ≤ ts5.length := (zL (s := sClose) (ts := ts5)).2 _ _ h1;clear h1;refine vr 4 ?_;refine Lc 0 ag48 .h3 ?_;refine Sg 4 ag48 .h5 ?_
    exact zb [_] ⟨⟨b1, _, _, _, rfl, .h5, .inr ⟨rfl, rfl⟩⟩, trivial⟩ _ (.cons .here (Pick.nilE (.nil _))) ⟨_, ts6, at6, _, hF.symm, hp6, ⟨⟨6, w, s, none, 0, 0, none, 0, 0⟩, pack [], rfl, rfl, fun ns _ => condHolds (s := s) hw8 (by unfold maxLen; omega)⟩, by show [rd b A c ws at6 d (p + 1), pack []] = [rd b A c ws at6 d (p + condW (.mk 6 w s [] [])), pack []]; rw [yd]; rfl⟩
   rw [if_neg (by rw [hk]; decide)] at hF;refine vr 8 ?_;refine Cp cl127 rfl .k0 (fun m1 h1 he => hsum m1 (hm.trans h1) at_ d (p + 1) ts hp hd8 (by omega) (by omega)) ?_ ?_
   ·rintro _ _ ⟨e', a', h1, rfl⟩;rw [h1] at hF;exact pn ⟨e', a', hF.symm, rfl⟩
   rintro _ _ ⟨a, ts1, at1, _, h1, hp1, ⟨q, ea, rfl, rfl, ha⟩, rfl⟩;rw [h1] at hF;dsimp only [R.bind] at hF;have hl1 := (hse d ts (by omega)).2 _ _ h1;clear h1;have hap := qV a;refine Al 0 zl45 fun b2 => ?_;refine Sg 5 ag45 .here ?_;refine Bs 5 sl61 fun b3 => ?_
   refine zj (α := Nat) (fun i => [(0, ptr b), (2, ptr b1), (6, ptr b2), (97, .slice (some ⟨b3, 0, none⟩) 3 3), (98, .int .i64 3), (99, .int .i64 (i : Nat))]) (fun i => [cel b3 [strV sLt, strV sLe, strV sEq] 9, cel b2 q.v 45, rd b A c ws at1 d (p + 1 + numW a), ea, cel b1 [.int .i8 0, .int .i8 0, .string (bs []), .slice none 0 0, .slice none 0 0] 48]) (fun i => i ≤ lessSigns.length ∧ ∀ (j : Nat) (hj : j < lessSigns.length), j < i → isW lessSigns[j].1 ts1 = false) (fun i => lessSigns.length - i) 0 ⟨rfl, rfl, rfl, rfl, rfl, rfl, trivial⟩ (Pick.refl _) ⟨Nat.zero_le _, fun _ _ h => by cases h⟩ ?_
   rintro i ⟨hi, hno⟩;have hwl : lessSigns.length = 3 := rfl;by_cases hli : i < lessSigns.length
   ·have hcx : ([strV sLt, strV sLe, strV sEq] : List Value)[i]? = some (strV lessSigns[i].1) := Wm hli;have hfa := fun h => qe (ts := ts1) hli h hno;have hw2 := Wl hli;have hai := Yx hli
    have hnext : isW lessSigns[i].1 ts1 = false → ∀ (j : Nat) (hj : j < lessSigns.length), j < i + 1 → isW lessSigns[j].1 ts1 = false := fun h j hj h2 => by
     by_cases hji : j < i
     ·exact hno j hj hji
     ·obtain rfl : j = i := by omega
      exact h
    generalize lessSigns[i] = sg at hcx hfa hw2 hai hnext;refine tr 2 ?_;refine cto 11 ?_;refine pe 0 (zD ez61 rfl rfl rfl (by omega)) ?_;refine lr 8 (jv sg9 rfl .here hcx) ?_;refine C1 cl56 rfl .h2 (fun m1 h1 he => take56 (s := sg.1) (hw.mono (hm.trans h1)) hp1 hai.1 hai.2) ?_;rintro _ _ (⟨hk1, hp2, rfl, rfl⟩ | ⟨hk1, rfl, rfl⟩)
    rotate_left
    ·refine vr 7 ?_;refine Pa 2 ?_;exact QR (i + 1) (.cons .h1 (.cons .h1 (.cons .here .pp))) ⟨hli, hnext hk1⟩ (by omega)
    have hl2 := zh hk1;rw [hfa hk1] at hF;dsimp only at hF;refine vr 6 ?_;refine Cp cl127 rfl .k0 (fun m1 h1 he => hsum m1 (hm.trans h1) (at1 + 1) d (p + 1 + numW a) ts1.tail hp2 hd8 (by omega) (by omega)) ?_ ?_
    ·rintro _ _ ⟨e', a', h1, rfl⟩;rw [h1] at hF;refine zU ?_;refine zH ?_;exact pn ⟨e', a', hF.symm, rfl⟩
    rintro _ _ ⟨y, ts3, at3, _, h1, hp3, ⟨r, ey, rfl, rfl, hy⟩, rfl⟩;rw [h1] at hF;dsimp only [R.bind] at hF;clear h1;refine Al 0 zl45 fun b4 => ?_;refine Sg 5 ag45 .here ?_;refine pe 0 ((vn us3 ik42 rfl (w8 (by omega) (by omega)))) ?_;skip;refine pe 0 ((vS rfl rfl (w8 (by omega) (by omega)))) ?_;rw [show ((0 : Int) + (i : Nat)) = sg.2 by omega];refine Lc 0 ag45 .h4 ?_
    refine Lc 0 ag45 .here ?_;refine Bs 0 sl43 fun b5 => ?_;refine pe 0 (zT zl48 pl48 rfl rfl) ?_;refine Sg 5 ag48 .h7 ?_;refine zN ?_;refine zP ?_;refine zY ?_
    exact zb [_] ⟨⟨b1, _, _, _, rfl, .h7, .inr ⟨rfl, rfl⟩⟩, trivial⟩ _ (.cons .h2 (Pick.pack3 (.cons .here (.cons .h4 .p1)))) ⟨_, ts3, at3, _, hF.symm, hp3, ⟨⟨sg.2, 0, [], some ⟨b5, 0, none⟩, 2, 2, none, 0, 0⟩, pack [cel b5 (q.v ++ r.v) 45, ea, ey], rfl, rfl, fun ns h => condLess (op := sg.2) ⟨by omega, by omega⟩ (h.1 _ (.head _)) (ha ns (h.1 _ (.tail _ (.head _)))) (hy ns (h.1 _ (.tail _ (.tail _ (.head _)))))⟩, by show [rd b A c ws at3 d (p + 1 + numW a + numW y), pack [cel b5 (q.v ++ r.v) 45, ea, ey]] = [rd b A c ws at3 d (p + condW (.mk sg.2 0 [] [a, y] [])), pack [cel b5 (q.v ++ r.v) 45, ea, ey]]; rw [yd]; simp only [List.map_nil, List.map_cons, List.sum_nil, List.sum_cons, Nat.add_zero, Nat.add_assoc]⟩
   rw [qd (signs := lessSigns) (ts := ts1) fun j hj => hno j hj (by omega)] at hF;dsimp only at hF;refine tr 2 ?_;refine cfo 6 ?_;refine zC ?_;refine zB ?_;refine qt 4 ?_;refine Cp cl19 rfl .k2 (fun m1 h1 he => bad19 120 (hw.mono (hm.trans h1)) hp1) ?_ ?_
   ·rintro _ _ rfl;exact pn ⟨120, _, hF.symm, rfl⟩
   ·rintro _ _ h;exact h.elim
end
section
open Wd Tp Kd
variable {m : Mp} {b c at_ d p : Nat} {A : Option Addr} {ws ts : List Wrd}
theorem XQ : SignsOk andSigns := ⟨by decide, fun s hs => by
 simp only [andSigns, List.mem_cons, List.not_mem_nil, or_false] at hs
 rcases hs with rfl <;> exact ⟨asc _ rfl, by decide, by decide, by decide⟩⟩
theorem X2 : SignsOk orSigns := ⟨by decide, fun s hs => by
 simp only [orSigns, List.mem_cons, List.not_mem_nil, or_false] at hs
 rcases hs with rfl <;> exact ⟨asc _ rfl, by decide, by decide, by decide⟩⟩
theorem both153 {cond : Nat → List Wrd → R CondT} {k : Nat} (hT : Tabs m) (hw : WsR m A ws) (hcap : ws.length ≤ c) (hp : Pos ws at_ ts) (hd8 : d ≤ 8) (hb : p + ts.length ≤ 4611686018427000000) (hk0 : ts.length < k + 1) (hce : ∀ d ts, ts.length < k → Tp.Ends (cond d ts) condW ts.length) (hcond : CnC m b A c ws cond k) :
  RdC 153 [ptr b] m b A c ws at_ d p (pBoth cond (k + 1) d ts) condW condV := by
 refine za [.cell 2 48] Tryz.func153 rfl rfl rfl ?_;refine tr 2 ?_;refine Al 5 zl48 fun b1 => ?_;refine Bs 0 sl61 fun b2 => ?_;refine Bs 2 sl168 fun b3 => ?_
 refine zE (zR cl152 rfl .k3 (fun m' hm he => row152 (k := k + 1) (n := k + 1) (signs := andSigns) cl174 (hw.mono hm) ⟨Rd.blk (he _ (.tail _ (.head _))), Rd.blk (he _ (.head _))⟩ XQ
  (fun ts h => uS (yq (k + 1)) hce (k + 1) d ts h h)
  (fun m2 h2 at_ p ts hp hb hk => test174 (hT.mono (hm.trans h2)) (hw.mono (hm.trans h2)) hcap (yq (k + 1)) (sum127 (k + 1) (hw.mono (hm.trans h2))) hce (hcond.mono (hm.trans h2)) (k + 1) m2 (Le.refl _) at_ d p ts hp hd8 hb hk hk) hp hb hk0 hk0) rfl ?_ ?_) rfl
 ·rintro _ _ ⟨e', a', h1, rfl⟩;exact pn ⟨e', a', h1, rfl⟩
 rintro _ _ ⟨x, ts1, at1, _, h1, hp1, ⟨q, e, rfl, rfl, hx⟩, rfl⟩;refine Sg 3 ag48 .h4 ?_;exact zb [_] ⟨⟨b1, _, _, _, rfl, .h4, .inr ⟨rfl, rfl⟩⟩, trivial⟩ _ .pp ⟨x, ts1, at1, _, h1, hp1, ⟨q, e, rfl, rfl, hx⟩, rfl⟩
theorem cond130 (hcap : ws.length ≤ c) : ∀ (n : Nat) {m : Mp}, Tabs m → WsR m A ws → CnC m b A c ws (pCond n) n
 | 0, _, _, _ => fun m' hm at_ d p ts hp hd8 hb hk => by cases hk
 | n + 1, m, hT, hw => fun m' hm at_ d p ts hp hd8 hb hk => by
   refine za [.cell 2 48] Tryz.func130 rfl rfl rfl ?_;refine tr 2 ?_;refine Al 5 zl48 fun b1 => ?_;refine Bs 0 sl61 fun b2 => ?_;refine Bs 2 sl168 fun b3 => ?_
   refine zE (zR cl152 rfl .k3 (fun m1 h1 he => row152 (k := n + 1) (n := n + 1) (signs := orSigns) cl153 (hw.mono (hm.trans h1)) ⟨Rd.blk (he _ (.tail _ (.head _))), Rd.blk (he _ (.head _))⟩ X2
    (fun ts h => wz (k := n + 1) (fun ts h => uS (yq (n + 1)) (vN n) (n + 1) d ts h h) uj (n + 1) ts h h)
    (fun m2 h2 at_ p ts hp hb hk => both153 (k := n) (hT.mono (hm.trans (h1.trans h2))) (hw.mono (hm.trans (h1.trans h2))) hcap hp hd8 hb hk (vN n) (cond130 hcap n (hT.mono (hm.trans (h1.trans h2))) (hw.mono (hm.trans (h1.trans h2))))) hp hb hk hk) rfl ?_ ?_) rfl
   ·rintro _ _ ⟨e', a', h1, rfl⟩;exact pn ⟨e', a', h1, rfl⟩
   rintro _ _ ⟨x, ts1, at1, _, h1, hp1, ⟨q, e, rfl, rfl, hx⟩, rfl⟩;refine Sg 3 ag48 .h4 ?_;exact zb [_] ⟨⟨b1, _, _, _, rfl, .h4, .inr ⟨rfl, rfl⟩⟩, trivial⟩ _ .pp ⟨x, ts1, at1, _, h1, hp1, ⟨q, e, rfl, rfl, hx⟩, rfl⟩
end
section
open Wd Tp Kd
structure EffC where
 op : Int
 who : Int
 n : NumC
 name : List UInt8
 c : CondC
 T : Option Addr
 t : Nat
 tc : Nat
 E : Option Addr
 e : Nat
 ec : Nat
abbrev EffC.v (q : EffC) : List Value := [.int .i8 q.op, .int .i8 q.who, .int .i8 q.n.op, .int .i64 q.n.n, .int .i8 q.n.who, .slice q.n.K q.n.k q.n.kc, .string (bs q.name), .int .i8 q.c.op, .int .i8 q.c.who, .string (bs q.c.name), .slice q.c.N q.c.n q.c.nc, .slice q.c.K q.c.k q.c.kc, .slice q.T q.t q.tc, .slice q.E q.e q.ec]
abbrev effV : EffT → Value → List Ent → Prop := fun x v Es => ∃ (q : EffC) (e : Ent), v = .agg q.v.toArray ∧ Es = [e] ∧ ∀ ns, e.inv ns → EffR ns q.v x
abbrev effsV : List EffT → Value → List Ent → Prop := fun l v Es => ∃ (K : Option Addr) (kc : Nat) (e : Ent), v = .slice K l.length kc ∧ Es = [e] ∧ ∀ ns, e.inv ns → EffsR ns K l.length l
theorem cond0_R (m : Mp) : CondR m [.int .i8 0, .int .i8 0, .string (bs []), .slice none 0 0, .slice none 0 0] cond0 :=
 .mk (vs := []) (us := []) ⟨by decide, by decide⟩ ⟨by decide, by decide⟩ (by decide) rfl (by decide) (Rd.nil _ _) rfl (fun i h => by cases h) rfl (by decide) (Rd.nil _ _) rfl fun i h => by cases h
theorem effPlain {m : Mp} {op who : Int} {q : NumC} {x : NumT} {name : List UInt8} (ho : In8 op) (hw : In8 who) (hx : NumR m q.v x) (hn : name.length ≤ maxLen) :
  EffR m [.int .i8 op, .int .i8 who, .int .i8 q.op, .int .i64 q.n, .int .i8 q.who, .slice q.K q.k q.kc, .string (bs name), .int .i8 0, .int .i8 0, .string (bs []), .slice none 0 0, .slice none 0 0, .slice none 0 0, .slice none 0 0] (eff0 op who x name) :=
 .mk (ns := q.v) (cs := [.int .i8 0, .int .i8 0, .string (bs []), .slice none 0 0, .slice none 0 0]) (vs := []) (us := []) ho hw hx hn (cond0_R m) rfl (by decide) (Rd.nil _ _) rfl (fun i h => by cases h) rfl (by decide) (Rd.nil _ _) rfl fun i h => by cases h
theorem effIf {m : Mp} {q : CondC} {x : CondT} {t e : List EffT} {T E : Option Addr} {tc ec : Nat} (hx : CondR m q.v x) (ht : EffsR m T t.length t) (he : EffsR m E e.length e) :
  EffR m [.int .i8 8, .int .i8 0, .int .i8 0, .int .i64 0, .int .i8 0, .slice none 0 0, .string (bs []), .int .i8 q.op, .int .i8 q.who, .string (bs q.name), .slice q.N q.n q.nc, .slice q.K q.k q.kc, .slice T t.length tc, .slice E e.length ec] (.mk 8 0 num0 [] x t e) := by
 obtain ⟨-, h2, vs, h3, h4, h5⟩ := ht;obtain ⟨-, g2, us, g3, g4, g5⟩ := he;exact .mk (ns := [.int .i8 0, .int .i64 0, .int .i8 0, .slice none 0 0]) (cs := q.v) (vs := vs) (us := us) ⟨by decide, by decide⟩ ⟨by decide, by decide⟩ (numPlain (op := 0) ⟨by decide, by decide⟩) (by decide) hx rfl h2 h3 h4 h5 rfl g2 g3 g4 g5
def BlC (m : Mp) (b : Nat) (A : Option Addr) (c : Nat) (ws : List Wrd) (blk : Nat → List Wrd → R (List EffT)) (k : Nat) : Prop :=
 ∀ m', Le m m' → ∀ (at_ d p : Nat) (ts : List Wrd), Pos ws at_ ts → d ≤ 8 → p + ts.length ≤ 4611686018427000000 → ts.length < k → RdC 61 [ptr b] m' b A c ws at_ d p (blk d ts) effsW effsV
variable {m : Mp} {b c at_ d p : Nat} {A : Option Addr} {ws ts : List Wrd}
theorem BlC.mono {m m' : Mp} {blk : Nat → List Wrd → R (List EffT)} {k : Nat} (h : BlC m b A c ws blk k) (hl : Le m m') : BlC m' b A c ws blk k := fun m2 h2 => h m2 (hl.trans h2)
theorem effect99 {blk : Nat → List Wrd → R (List EffT)} {n k : Nat} (hT : Tabs m) (hw : WsR m A ws) (hcap : ws.length ≤ c) (hp : Pos ws at_ ts) (hd8 : d ≤ 8) (hb : p + ts.length ≤ 4611686018427000000) (hk0 : ts.length < k + 1) (hkn : k < n)
  (hbe : ∀ d ts, ts.length < k → Tp.Ends (blk d ts) effsW ts.length) (hblk : BlC m b A c ws blk k) : RdC 99 [ptr b] m b A c ws at_ d p (pEff blk n d ts) effW effV := by
 generalize hF : pEff blk n d ts = F;unfold pEff at hF;have hsm := hp.small;have hlt := hp.lt;have hlen := hp.len;refine za [.cell 2 50] Tryz.func99 rfl rfl rfl ?_;refine tr 2 ?_;refine Al 7 zl50 fun b1 => ?_;refine Lb 0 sg3 .h1 ?_;refine Pa 2 ?_;refine Sr 7 co3 .h1 .h3 ?_;refine C1 cl56 rfl .h1 (fun m' hm he => take56 (s := sHarm) (hw.mono hm) hp (asc _ rfl) (by decide)) ?_
 rintro _ _ (⟨hk, hp1, rfl, rfl⟩ | ⟨hk, rfl, rfl⟩)
 ·have hl1 := zh hk;rw [if_pos hk] at hF;refine vr 7 ?_;refine Cp cl126 rfl .k0 (fun m' hm he => who126 (hw.mono hm) hp1) ?_ ?_
  ·rintro _ _ ⟨e', a', h1, rfl⟩;rw [h1] at hF;exact pn ⟨e', a', hF.symm, rfl⟩
  rintro _ _ ⟨w, ts2, at2, _, h1, hp2, ⟨rfl, rfl⟩, rfl⟩;rw [h1] at hF;dsimp only [R.bind] at hF;have hl2 : 1 + ts2.length ≤ ts.tail.length := (qM (ts := ts.tail)).2 _ _ h1;have hw8 := UL h1;clear h1;refine vr 1 ?_;refine Sr 1 co42 .h1 .here ?_;refine Sr 4 co42 .h1 .h1 ?_
  refine Cp cl127 rfl .k0 (fun m' hm he => sum127 n (hw.mono hm) m' (Le.refl _) at2 d (p + 1) ts2 hp2 hd8 (by omega) (by omega)) ?_ ?_
  ·rintro _ _ ⟨e', a', h1, rfl⟩;rw [h1] at hF;exact pn ⟨e', a', hF.symm, rfl⟩
  rintro _ _ ⟨x, ts3, at3, _, h1, hp3, ⟨q, e, rfl, rfl, hx⟩, rfl⟩;rw [h1] at hF;dsimp only [R.bind] at hF;have hl3 := (yq n d ts2 (by omega)).2 _ _ h1;clear h1;unfold pSemi at hF;refine vr 1 ?_;refine zE (zc ag45 rfl rfl rfl .h2 (.there (.there (.cons (.cons (.cons (.cons .nil)))))) rfl ?_) rfl;refine vr 6 ?_;refine Bs 0 sl61 fun b2 => ?_
  refine Cp cl58 rfl .k1 (fun m' hm he => must58 (s := sSemi) (hw.mono hm) (Rd.blk (he _ (.head _))) (asc _ rfl) (by decide) hp3) ?_ ?_
  ·rintro _ _ ⟨e', a', h1, rfl⟩;rw [h1] at hF;exact pn ⟨e', a', hF.symm, rfl⟩
  rintro _ _ ⟨_, tsz, atz, _, h1, hpz, ⟨rfl, rfl⟩, rfl⟩;rw [h1] at hF;dsimp only [R.bind] at hF;have hlz : 1 + tsz.length ≤ ts3.length := (zL (s := sSemi) (ts := ts3)).2 _ _ h1;clear h1;refine vr 4 ?_;refine Lc 0 ag50 .h3 ?_;refine Sg 3 ag50 .h3 ?_
  exact zb [_] ⟨⟨b1, _, _, _, rfl, .h3, .inr ⟨rfl, rfl⟩⟩, trivial⟩ _ (.cons .here .p1) ⟨_, tsz, atz, _, hF.symm, hpz, ⟨⟨0, w, q, [], ⟨0, 0, [], none, 0, 0, none, 0, 0⟩, none, 0, 0, none, 0, 0⟩, e, rfl, rfl, fun ns h => effPlain (op := 0) (who := w) (name := []) ⟨by decide, by decide⟩ hw8 (hx ns h) (by decide)⟩, by show [rd b A c ws atz d (p + 1 + numW x), e] = [rd b A c ws atz d (p + effW (eff0 0 w x [])), e]; rw [vb _ _ _ _ (by decide), if_pos (by decide), Nat.add_assoc]⟩
 rw [if_neg (by rw [hk]; decide)] at hF;refine vr 7 ?_;refine C1 cl56 rfl .here (fun m' hm he => take56 (s := sMend) (hw.mono hm) hp (asc _ rfl) (by decide)) ?_;rintro _ _ (⟨hk, hp1, rfl, rfl⟩ | ⟨hk, rfl, rfl⟩)
 ·have hl1 := zh hk;rw [if_pos hk] at hF;refine vr 7 ?_;refine Cp cl126 rfl .k0 (fun m' hm he => who126 (hw.mono hm) hp1) ?_ ?_
  ·rintro _ _ ⟨e', a', h1, rfl⟩;rw [h1] at hF;exact pn ⟨e', a', hF.symm, rfl⟩
  rintro _ _ ⟨w, ts2, at2, _, h1, hp2, ⟨rfl, rfl⟩, rfl⟩;rw [h1] at hF;dsimp only [R.bind] at hF;have hl2 : 1 + ts2.length ≤ ts.tail.length := (qM (ts := ts.tail)).2 _ _ h1;have hw8 := UL h1;clear h1;refine vr 1 ?_;refine Sr 1 co42 .h1 .here ?_;refine Sr 4 co42 .h1 .h1 ?_
  refine Cp cl127 rfl .k0 (fun m' hm he => sum127 n (hw.mono hm) m' (Le.refl _) at2 d (p + 1) ts2 hp2 hd8 (by omega) (by omega)) ?_ ?_
  ·rintro _ _ ⟨e', a', h1, rfl⟩;rw [h1] at hF;exact pn ⟨e', a', hF.symm, rfl⟩
  rintro _ _ ⟨x, ts3, at3, _, h1, hp3, ⟨q, e, rfl, rfl, hx⟩, rfl⟩;rw [h1] at hF;dsimp only [R.bind] at hF;have hl3 := (yq n d ts2 (by omega)).2 _ _ h1;clear h1;unfold pSemi at hF;refine vr 1 ?_;refine zE (zc ag45 rfl rfl rfl .h2 (.there (.there (.cons (.cons (.cons (.cons .nil)))))) rfl ?_) rfl;refine vr 6 ?_;refine Bs 0 sl61 fun b2 => ?_
  refine Cp cl58 rfl .k1 (fun m' hm he => must58 (s := sSemi) (hw.mono hm) (Rd.blk (he _ (.head _))) (asc _ rfl) (by decide) hp3) ?_ ?_
  ·rintro _ _ ⟨e', a', h1, rfl⟩;rw [h1] at hF;exact pn ⟨e', a', hF.symm, rfl⟩
  rintro _ _ ⟨_, tsz, atz, _, h1, hpz, ⟨rfl, rfl⟩, rfl⟩;rw [h1] at hF;dsimp only [R.bind] at hF;have hlz : 1 + tsz.length ≤ ts3.length := (zL (s := sSemi) (ts := ts3)).2 _ _ h1;clear h1;refine vr 4 ?_;refine Lc 0 ag50 .h3 ?_;refine Sg 3 ag50 .h3 ?_
  exact zb [_] ⟨⟨b1, _, _, _, rfl, .h3, .inr ⟨rfl, rfl⟩⟩, trivial⟩ _ (.cons .here .p1) ⟨_, tsz, atz, _, hF.symm, hpz, ⟨⟨1, w, q, [], ⟨0, 0, [], none, 0, 0, none, 0, 0⟩, none, 0, 0, none, 0, 0⟩, e, rfl, rfl, fun ns h => effPlain (op := 1) (who := w) (name := []) ⟨by decide, by decide⟩ hw8 (hx ns h) (by decide)⟩, by show [rd b A c ws atz d (p + 1 + numW x), e] = [rd b A c ws atz d (p + effW (eff0 1 w x [])), e]; rw [vb _ _ _ _ (by decide), if_pos (by decide), Nat.add_assoc]⟩
 rw [if_neg (by rw [hk]; decide)] at hF;refine vr 7 ?_;refine C1 cl56 rfl .here (fun m' hm he => take56 (s := sDraw) (hw.mono hm) hp (asc _ rfl) (by decide)) ?_;rintro _ _ (⟨hk, hp1, rfl, rfl⟩ | ⟨hk, rfl, rfl⟩)
 ·have hl1 := zh hk;rw [if_pos hk] at hF;refine vr 7 ?_;refine Cp cl128 rfl .k0 (fun m' hm he => side128 (hw.mono hm) hp1) ?_ ?_
  ·rintro _ _ ⟨e', a', h1, rfl⟩;rw [h1] at hF;exact pn ⟨e', a', hF.symm, rfl⟩
  rintro _ _ ⟨w, ts2, at2, _, h1, hp2, ⟨rfl, rfl⟩, rfl⟩;rw [h1] at hF;dsimp only [R.bind] at hF;have hl2 : 1 + ts2.length ≤ ts.tail.length := (yj (ts := ts.tail)).2 _ _ h1;have hw8 := uU h1;clear h1;refine vr 1 ?_;refine Sr 1 co42 .h1 .here ?_;refine Sr 4 co42 .h1 .h1 ?_
  refine Cp cl127 rfl .k0 (fun m' hm he => sum127 n (hw.mono hm) m' (Le.refl _) at2 d (p + 1) ts2 hp2 hd8 (by omega) (by omega)) ?_ ?_
  ·rintro _ _ ⟨e', a', h1, rfl⟩;rw [h1] at hF;exact pn ⟨e', a', hF.symm, rfl⟩
  rintro _ _ ⟨x, ts3, at3, _, h1, hp3, ⟨q, e, rfl, rfl, hx⟩, rfl⟩;rw [h1] at hF;dsimp only [R.bind] at hF;have hl3 := (yq n d ts2 (by omega)).2 _ _ h1;clear h1;unfold pSemi at hF;refine vr 1 ?_;refine zE (zc ag45 rfl rfl rfl .h2 (.there (.there (.cons (.cons (.cons (.cons .nil)))))) rfl ?_) rfl;refine vr 6 ?_;refine Bs 0 sl61 fun b2 => ?_
  refine Cp cl58 rfl .k1 (fun m' hm he => must58 (s := sSemi) (hw.mono hm) (Rd.blk (he _ (.head _))) (asc _ rfl) (by decide) hp3) ?_ ?_
  ·rintro _ _ ⟨e', a', h1, rfl⟩;rw [h1] at hF;exact pn ⟨e', a', hF.symm, rfl⟩
  rintro _ _ ⟨_, tsz, atz, _, h1, hpz, ⟨rfl, rfl⟩, rfl⟩;rw [h1] at hF;dsimp only [R.bind] at hF;have hlz : 1 + tsz.length ≤ ts3.length := (zL (s := sSemi) (ts := ts3)).2 _ _ h1;clear h1;refine vr 4 ?_;refine Lc 0 ag50 .h3 ?_;refine Sg 3 ag50 .h3 ?_
  exact zb [_] ⟨⟨b1, _, _, _, rfl, .h3, .inr ⟨rfl, rfl⟩⟩, trivial⟩ _ (.cons .here .p1) ⟨_, tsz, atz, _, hF.symm, hpz, ⟨⟨2, w, q, [], ⟨0, 0, [], none, 0, 0, none, 0, 0⟩, none, 0, 0, none, 0, 0⟩, e, rfl, rfl, fun ns h => effPlain (op := 2) (who := w) (name := []) ⟨by decide, by decide⟩ hw8 (hx ns h) (by decide)⟩, by show [rd b A c ws atz d (p + 1 + numW x), e] = [rd b A c ws atz d (p + effW (eff0 2 w x [])), e]; rw [vb _ _ _ _ (by decide), if_pos (by decide), Nat.add_assoc]⟩
 rw [if_neg (by rw [hk]; decide)] at hF;refine vr 7 ?_;refine C1 cl56 rfl .here (fun m' hm he => take56 (s := sGain) (hw.mono hm) hp (asc _ rfl) (by decide)) ?_;rintro _ _ (⟨hk, hp1, rfl, rfl⟩ | ⟨hk, rfl, rfl⟩)
 ·have hl1 := zh hk;rw [if_pos hk] at hF;refine vr 6 ?_;refine Cp cl127 rfl .k0 (fun m' hm he => sum127 n (hw.mono hm) m' (Le.refl _) (at_ + 1) d (p + 1) ts.tail hp1 hd8 (by omega) (by omega)) ?_ ?_
  ·rintro _ _ ⟨e', a', h1, rfl⟩;rw [h1] at hF;exact pn ⟨e', a', hF.symm, rfl⟩
  rintro _ _ ⟨x, ts3, at3, _, h1, hp3, ⟨q, e, rfl, rfl, hx⟩, rfl⟩;rw [h1] at hF;dsimp only [R.bind] at hF;have hl3 := (yq n d ts.tail (by omega)).2 _ _ h1;clear h1;unfold pSemi at hF;refine vr 1 ?_;refine Sr 1 co42 .h2 .here ?_;refine zE (zc ag45 rfl rfl rfl .h2 (.there (.there (.cons (.cons (.cons (.cons .nil)))))) rfl ?_) rfl;refine vr 6 ?_;refine Bs 0 sl61 fun b2 => ?_
  refine Cp cl58 rfl .k1 (fun m' hm he => must58 (s := sSemi) (hw.mono hm) (Rd.blk (he _ (.head _))) (asc _ rfl) (by decide) hp3) ?_ ?_
  ·rintro _ _ ⟨e', a', h1, rfl⟩;rw [h1] at hF;exact pn ⟨e', a', hF.symm, rfl⟩
  rintro _ _ ⟨_, tsz, atz, _, h1, hpz, ⟨rfl, rfl⟩, rfl⟩;rw [h1] at hF;dsimp only [R.bind] at hF;have hlz : 1 + tsz.length ≤ ts3.length := (zL (s := sSemi) (ts := ts3)).2 _ _ h1;clear h1;refine vr 4 ?_;refine Lc 0 ag50 .h3 ?_;refine Sg 3 ag50 .h3 ?_
  exact zb [_] ⟨⟨b1, _, _, _, rfl, .h3, .inr ⟨rfl, rfl⟩⟩, trivial⟩ _ (.cons .here .p1) ⟨_, tsz, atz, _, hF.symm, hpz, ⟨⟨3, 0, q, [], ⟨0, 0, [], none, 0, 0, none, 0, 0⟩, none, 0, 0, none, 0, 0⟩, e, rfl, rfl, fun ns h => effPlain (op := 3) (who := 0) (name := []) ⟨by decide, by decide⟩ ⟨by decide, by decide⟩ (hx ns h) (by decide)⟩, by show [rd b A c ws atz d (p + 1 + numW x), e] = [rd b A c ws atz d (p + effW (eff0 3 0 x [])), e]; rw [vb _ _ _ _ (by decide), if_pos (by decide), Nat.add_assoc]⟩
 rw [if_neg (by rw [hk]; decide)] at hF;refine vr 7 ?_;refine C1 cl56 rfl .here (fun m' hm he => take56 (s := sLook) (hw.mono hm) hp (asc _ rfl) (by decide)) ?_;rintro _ _ (⟨hk, hp1, rfl, rfl⟩ | ⟨hk, rfl, rfl⟩)
 ·have hl1 := zh hk;rw [if_pos hk] at hF;refine vr 6 ?_;refine Cp cl127 rfl .k0 (fun m' hm he => sum127 n (hw.mono hm) m' (Le.refl _) (at_ + 1) d (p + 1) ts.tail hp1 hd8 (by omega) (by omega)) ?_ ?_
  ·rintro _ _ ⟨e', a', h1, rfl⟩;rw [h1] at hF;exact pn ⟨e', a', hF.symm, rfl⟩
  rintro _ _ ⟨x, ts3, at3, _, h1, hp3, ⟨q, e, rfl, rfl, hx⟩, rfl⟩;rw [h1] at hF;dsimp only [R.bind] at hF;have hl3 := (yq n d ts.tail (by omega)).2 _ _ h1;clear h1;unfold pSemi at hF;refine vr 1 ?_;refine Sr 1 co42 .h2 .here ?_;refine zE (zc ag45 rfl rfl rfl .h2 (.there (.there (.cons (.cons (.cons (.cons .nil)))))) rfl ?_) rfl;refine vr 6 ?_;refine Bs 0 sl61 fun b2 => ?_
  refine Cp cl58 rfl .k1 (fun m' hm he => must58 (s := sSemi) (hw.mono hm) (Rd.blk (he _ (.head _))) (asc _ rfl) (by decide) hp3) ?_ ?_
  ·rintro _ _ ⟨e', a', h1, rfl⟩;rw [h1] at hF;exact pn ⟨e', a', hF.symm, rfl⟩
  rintro _ _ ⟨_, tsz, atz, _, h1, hpz, ⟨rfl, rfl⟩, rfl⟩;rw [h1] at hF;dsimp only [R.bind] at hF;have hlz : 1 + tsz.length ≤ ts3.length := (zL (s := sSemi) (ts := ts3)).2 _ _ h1;clear h1;refine vr 4 ?_;refine Lc 0 ag50 .h3 ?_;refine Sg 3 ag50 .h3 ?_
  exact zb [_] ⟨⟨b1, _, _, _, rfl, .h3, .inr ⟨rfl, rfl⟩⟩, trivial⟩ _ (.cons .here .p1) ⟨_, tsz, atz, _, hF.symm, hpz, ⟨⟨5, 0, q, [], ⟨0, 0, [], none, 0, 0, none, 0, 0⟩, none, 0, 0, none, 0, 0⟩, e, rfl, rfl, fun ns h => effPlain (op := 5) (who := 0) (name := []) ⟨by decide, by decide⟩ ⟨by decide, by decide⟩ (hx ns h) (by decide)⟩, by show [rd b A c ws atz d (p + 1 + numW x), e] = [rd b A c ws atz d (p + effW (eff0 5 0 x [])), e]; rw [vb _ _ _ _ (by decide), if_pos (by decide), Nat.add_assoc]⟩
 rw [if_neg (by rw [hk]; decide)] at hF;refine vr 7 ?_;refine C1 cl56 rfl .here (fun m' hm he => take56 (s := sDrop) (hw.mono hm) hp (asc _ rfl) (by decide)) ?_;rintro _ _ (⟨hk, hp1, rfl, rfl⟩ | ⟨hk, rfl, rfl⟩)
 ·have hl1 := zh hk;rw [if_pos hk] at hF;refine vr 6 ?_;refine Cp cl128 rfl .k0 (fun m' hm he => side128 (hw.mono hm) hp1) ?_ ?_
  ·rintro _ _ ⟨e', a', h1, rfl⟩;rw [h1] at hF;exact pn ⟨e', a', hF.symm, rfl⟩
  rintro _ _ ⟨w, ts2, at2, _, h1, hp2, ⟨rfl, rfl⟩, rfl⟩;rw [h1] at hF;dsimp only [R.bind] at hF;have hl2 : 1 + ts2.length ≤ ts.tail.length := (yj (ts := ts.tail)).2 _ _ h1;have hw8 := uU h1;clear h1;unfold pSemi at hF;refine vr 1 ?_;refine Sr 1 co42 .h1 .here ?_;refine Sr 6 co42 .h1 .h1 ?_;refine Bs 0 sl61 fun b2 => ?_
  refine Cp cl58 rfl .k1 (fun m' hm he => must58 (s := sSemi) (hw.mono hm) (Rd.blk (he _ (.head _))) (asc _ rfl) (by decide) hp2) ?_ ?_
  ·rintro _ _ ⟨e', a', h1, rfl⟩;rw [h1] at hF;exact pn ⟨e', a', hF.symm, rfl⟩
  rintro _ _ ⟨_, tsz, atz, _, h1, hpz, ⟨rfl, rfl⟩, rfl⟩;rw [h1] at hF;dsimp only [R.bind] at hF;have hlz : 1 + tsz.length ≤ ts2.length := (zL (s := sSemi) (ts := ts2)).2 _ _ h1;clear h1;refine vr 4 ?_;refine Lc 0 ag50 .h2 ?_;refine Sg 3 ag50 .h2 ?_
  exact zb [_] ⟨⟨b1, _, _, _, rfl, .h2, .inr ⟨rfl, rfl⟩⟩, trivial⟩ _ (.cons .here (Pick.nilE (.nil _))) ⟨_, tsz, atz, _, hF.symm, hpz, ⟨⟨4, w, ⟨0, 0, 0, none, 0, 0⟩, [], ⟨0, 0, [], none, 0, 0, none, 0, 0⟩, none, 0, 0, none, 0, 0⟩, pack [], rfl, rfl, fun ns h => effPlain (op := 4) (who := w) (name := []) (q := ⟨0, 0, 0, none, 0, 0⟩) (x := num0) ⟨by decide, by decide⟩ hw8 (numPlain (op := 0) ⟨by decide, by decide⟩) (by decide)⟩, by show [rd b A c ws atz d (p + 1), pack []] = [rd b A c ws atz d (p + effW (eff0 4 w num0 [])), pack []]; rw [vb _ _ _ _ (by decide), if_neg (by decide)]⟩
 rw [if_neg (by rw [hk]; decide)] at hF;refine vr 7 ?_;refine C1 cl56 rfl .here (fun m' hm he => take56 (s := sShow) (hw.mono hm) hp (asc _ rfl) (by decide)) ?_;rintro _ _ (⟨hk, hp1, rfl, rfl⟩ | ⟨hk, rfl, rfl⟩)
 ·have hl1 := zh hk;rw [if_pos hk] at hF;refine vr 6 ?_;refine Cp cl128 rfl .k0 (fun m' hm he => side128 (hw.mono hm) hp1) ?_ ?_
  ·rintro _ _ ⟨e', a', h1, rfl⟩;rw [h1] at hF;exact pn ⟨e', a', hF.symm, rfl⟩
  rintro _ _ ⟨w, ts2, at2, _, h1, hp2, ⟨rfl, rfl⟩, rfl⟩;rw [h1] at hF;dsimp only [R.bind] at hF;have hl2 : 1 + ts2.length ≤ ts.tail.length := (yj (ts := ts.tail)).2 _ _ h1;have hw8 := uU h1;clear h1;unfold pSemi at hF;refine vr 1 ?_;refine Sr 1 co42 .h1 .here ?_;refine Sr 6 co42 .h1 .h1 ?_;refine Bs 0 sl61 fun b2 => ?_
  refine Cp cl58 rfl .k1 (fun m' hm he => must58 (s := sSemi) (hw.mono hm) (Rd.blk (he _ (.head _))) (asc _ rfl) (by decide) hp2) ?_ ?_
  ·rintro _ _ ⟨e', a', h1, rfl⟩;rw [h1] at hF;exact pn ⟨e', a', hF.symm, rfl⟩
  rintro _ _ ⟨_, tsz, atz, _, h1, hpz, ⟨rfl, rfl⟩, rfl⟩;rw [h1] at hF;dsimp only [R.bind] at hF;have hlz : 1 + tsz.length ≤ ts2.length := (zL (s := sSemi) (ts := ts2)).2 _ _ h1;clear h1;refine vr 4 ?_;refine Lc 0 ag50 .h2 ?_;refine Sg 3 ag50 .h2 ?_
  exact zb [_] ⟨⟨b1, _, _, _, rfl, .h2, .inr ⟨rfl, rfl⟩⟩, trivial⟩ _ (.cons .here (Pick.nilE (.nil _))) ⟨_, tsz, atz, _, hF.symm, hpz, ⟨⟨6, w, ⟨0, 0, 0, none, 0, 0⟩, [], ⟨0, 0, [], none, 0, 0, none, 0, 0⟩, none, 0, 0, none, 0, 0⟩, pack [], rfl, rfl, fun ns h => effPlain (op := 6) (who := w) (name := []) (q := ⟨0, 0, 0, none, 0, 0⟩) (x := num0) ⟨by decide, by decide⟩ hw8 (numPlain (op := 0) ⟨by decide, by decide⟩) (by decide)⟩, by show [rd b A c ws atz d (p + 1), pack []] = [rd b A c ws atz d (p + effW (eff0 6 w num0 [])), pack []]; rw [vb _ _ _ _ (by decide), if_neg (by decide)]⟩
 rw [if_neg (by rw [hk]; decide)] at hF;refine vr 7 ?_;refine C1 cl56 rfl .here (fun m' hm he => take56 (s := sSummon) (hw.mono hm) hp (asc _ rfl) (by decide)) ?_;rintro _ _ (⟨hk, hp1, rfl, rfl⟩ | ⟨hk, rfl, rfl⟩)
 ·have hl1 := zh hk;rw [if_pos hk] at hF;refine vr 6 ?_;refine Cp cl55 rfl .k0 (fun m' hm he => name55 (hT.mono hm) (hw.mono hm) hp1) ?_ ?_
  ·rintro _ _ ⟨e', a', h1, rfl⟩;rw [h1] at hF;exact pn ⟨e', a', hF.symm, rfl⟩
  rintro _ _ ⟨s, ts2, at2, _, h1, hp2, ⟨rfl, rfl⟩, rfl⟩;rw [h1] at hF;dsimp only [R.bind] at hF;have hl2 : 1 + ts2.length ≤ ts.tail.length := (yr (ts := ts.tail)).2 _ _ h1;have hs5 := vD hp1 h1;clear h1;unfold pSemi at hF;refine vr 1 ?_;refine Sr 1 co42 .h1 .here ?_;refine Sr 6 co9 .h1 .h6 ?_;refine Bs 0 sl61 fun b2 => ?_
  refine Cp cl58 rfl .k1 (fun m' hm he => must58 (s := sSemi) (hw.mono hm) (Rd.blk (he _ (.head _))) (asc _ rfl) (by decide) hp2) ?_ ?_
  ·rintro _ _ ⟨e', a', h1, rfl⟩;rw [h1] at hF;exact pn ⟨e', a', hF.symm, rfl⟩
  rintro _ _ ⟨_, tsz, atz, _, h1, hpz, ⟨rfl, rfl⟩, rfl⟩;rw [h1] at hF;dsimp only [R.bind] at hF;have hlz : 1 + tsz.length ≤ ts2.length := (zL (s := sSemi) (ts := ts2)).2 _ _ h1;clear h1;refine vr 4 ?_;refine Lc 0 ag50 .h2 ?_;refine Sg 3 ag50 .h2 ?_
  exact zb [_] ⟨⟨b1, _, _, _, rfl, .h2, .inr ⟨rfl, rfl⟩⟩, trivial⟩ _ (.cons .here (Pick.nilE (.nil _))) ⟨_, tsz, atz, _, hF.symm, hpz, ⟨⟨7, 0, ⟨0, 0, 0, none, 0, 0⟩, s, ⟨0, 0, [], none, 0, 0, none, 0, 0⟩, none, 0, 0, none, 0, 0⟩, pack [], rfl, rfl, fun ns h => effPlain (op := 7) (who := 0) (q := ⟨0, 0, 0, none, 0, 0⟩) (x := num0) (name := s) ⟨by decide, by decide⟩ ⟨by decide, by decide⟩ (numPlain (op := 0) ⟨by decide, by decide⟩) (by unfold maxLen; omega)⟩, by show [rd b A c ws atz d (p + 1), pack []] = [rd b A c ws atz d (p + effW (eff0 7 0 num0 s)), pack []]; rw [vb _ _ _ _ (by decide), if_neg (by decide)]⟩
 rw [if_neg (by rw [hk]; decide)] at hF;refine vr 7 ?_;refine C1 cl18 rfl .here (fun m' hm he => is18 (s := sIf) (hw.mono hm) hp (asc _ rfl) (by decide)) ?_;rintro _ _ ⟨rfl, rfl⟩;cases hki : isW sIf ts with
 | true =>
   rw [if_pos hki] at hF;have hl1 := zh hki;have hp1 := hp.isW hki;refine vr 7 ?_;refine Cp cl129 rfl .k0 (fun m1 h1 he => in129 (hw.mono h1) hp hd8) ?_ ?_
   ·rintro _ _ ⟨h8, rfl⟩;rw [pIn, if_pos h8] at hF;exact pn ⟨121, _, hF.symm, rfl⟩
   rintro _ _ ⟨h8, rfl, rfl⟩;rw [pIn, if_neg (by omega)] at hF;dsimp only [R.bind] at hF;refine vr 7 ?_;refine Lb 0 sg3 .here ?_;refine Pa 2 ?_;refine Sr 5 co3 .here .h1 ?_;refine Cp cl130 rfl .k0 (fun m' hm he => cond130 hcap n (hT.mono hm) (hw.mono hm) m' (Le.refl _) (at_ + 1) (d + 1) (p + 1) ts.tail hp1 h8 (by omega) (by omega)) ?_ ?_
   ·rintro _ _ ⟨e', a', h1, rfl⟩;rw [h1] at hF;exact pn ⟨e', a', hF.symm, rfl⟩
   rintro _ _ ⟨x, ts2, at2, _, h1, hp2, ⟨qc, ec, rfl, rfl, hx⟩, rfl⟩;rw [h1] at hF;dsimp only [R.bind] at hF;have hl2 := (vN n (d + 1) ts.tail (by omega)).2 _ _ h1;clear h1;have hcp := ya x;refine vr 1 ?_;refine Sr 1 co42 .h2 .here ?_
   refine zE (zc ag48 rfl rfl rfl .h2 (.there (.there (.there (.there (.there (.there (.there (.cons (.cons (.cons (.cons (.cons .nil)))))))))))) rfl ?_) rfl;refine vr 5 ?_;refine Cp cl61 rfl .k0 (fun m' hm he => hblk m' hm at2 (d + 1) (p + 1 + condW x) ts2 hp2 h8 (by omega) (by omega)) ?_ ?_
   ·rintro _ _ ⟨e', a', h1, rfl⟩;rw [h1] at hF;exact pn ⟨e', a', hF.symm, rfl⟩
   rintro _ _ ⟨t, ts3, at3, _, h1, hp3, ⟨KT, ct, et, rfl, rfl, ht⟩, rfl⟩;rw [h1] at hF;dsimp only [R.bind] at hF;have hl3 := (hbe (d + 1) ts2 (by omega)).2 _ _ h1;clear h1;refine vr 1 ?_;refine Sr 5 co38 .h3 .h12 ?_;refine Bs 0 sl61 fun b2 => ?_;refine Cp cl58 rfl .k1 (fun m' hm he => must58 (s := sElse) (hw.mono hm) (Rd.blk (he _ (.head _))) (asc _ rfl) (by decide) hp3) ?_ ?_
   ·rintro _ _ ⟨e', a', h1, rfl⟩;rw [h1] at hF;exact pn ⟨e', a', hF.symm, rfl⟩
   rintro _ _ ⟨_, ts4, at4, _, h1, hp4, ⟨rfl, rfl⟩, rfl⟩;rw [h1] at hF;dsimp only [R.bind] at hF;have hl4 : 1 + ts4.length ≤ ts3.length := (zL (s := sElse) (ts := ts3)).2 _ _ h1;clear h1;refine vr 5 ?_;refine Cp cl61 rfl .k0 (fun m' hm he => hblk m' hm at4 (d + 1) (p + 1 + condW x + effsW t) ts4 hp4 h8 (by omega) (by omega)) ?_ ?_
   ·rintro _ _ ⟨e', a', h1, rfl⟩;rw [h1] at hF;exact pn ⟨e', a', hF.symm, rfl⟩
   rintro _ _ ⟨e, ts5, at5, _, h1, hp5, ⟨KE, ce, ee, rfl, rfl, hee⟩, rfl⟩;rw [h1] at hF;dsimp only [R.bind] at hF;clear h1;refine vr 1 ?_;refine Sr 7 co38 .h5 .h13 ?_;refine Lb 0 sg3 .here ?_;refine pe 2 (uM rfl rfl (w64 (by omega) (by omega))) ?_;refine Sr 4 co3 .here .h2 ?_;refine Lc 0 ag50 .h5 ?_;refine Sg 5 ag50 .h5 ?_;rw [show ((d + 1 : Nat) : Int) - 1 = (d : Nat) by omega]
   exact zb [_] ⟨⟨b1, _, _, _, rfl, .h5, .inr ⟨rfl, rfl⟩⟩, trivial⟩ _ (.cons .here (Pick.pack3 (.cons .h3 (.cons .h2 .p0)))) ⟨_, ts5, at5, _, hF.symm, hp5, ⟨⟨8, 0, ⟨0, 0, 0, none, 0, 0⟩, [], qc, KT, t.length, ct, KE, e.length, ce⟩, pack [ec, et, ee], rfl, rfl, fun ns h => effIf (hx ns (h.1 _ (.head _))) (ht ns (h.1 _ (.tail _ (.head _)))) (hee ns (h.1 _ (.tail _ (.tail _ (.head _)))))⟩, by show [rd b A c ws at5 d (p + 1 + condW x + effsW t + effsW e), pack [ec, et, ee]] = [rd b A c ws at5 d (p + effW (.mk 8 0 num0 [] x t e)), pack [ec, et, ee]]; rw [wl, if_pos rfl, if_neg (by decide)]; simp only [Nat.add_assoc, Nat.zero_add, Nat.add_zero]; rfl⟩
 | false =>
 rw [if_neg (by rw [hki]; decide)] at hF;refine vr 6 ?_;refine Cp cl19 rfl .k0 (fun m' hm he => bad19 120 (hw.mono hm) hp) ?_ ?_
 ·rintro _ _ rfl;exact pn ⟨120, _, hF.symm, rfl⟩
 ·rintro _ _ h;exact h.elim
end
section
open Wd Tp Kd
variable {m : Mp} {b c at_ d p : Nat} {A : Option Addr} {ws ts : List Wrd}
def EsC (m : Mp) (xs : List Value) (l : List EffT) : Prop := xs.length = l.length * 14 ∧ ∀ (i : Nat) (hi : i < l.length), EffR m ((xs.drop (i * 14)).take 14) l[i]
theorem EsC.snoc {m : Mp} {xs : List Value} {l : List EffT} {q : EffC} {x : EffT} (h : EsC m xs l) (hx : EffR m q.v x) : EsC m (xs ++ q.v) (l ++ [x]) := by
 obtain ⟨h1, h2⟩ := h;refine ⟨by rw [List.length_append, List.length_append, h1]; show l.length * 14 + 14 = (l.length + 1) * 14; omega, fun i hi => ?_⟩;have hi2 : i < l.length + 1 := by simpa using hi
 by_cases hlt : i < l.length
 ·rw [List.getElem_append_left hlt, List.drop_append_of_le_length (by omega), List.take_append_of_le_length (by rw [List.length_drop]; omega)];exact h2 i hlt
 ·have : i = l.length := by omega
  subst this;rw [← h1, List.drop_left];simp only [List.getElem_concat_length];exact hx
theorem EsC.list {m : Mp} {K : Option Addr} {kc : Nat} {xs : List Value} {l : List EffT} (h : EsC m xs l) (ho : (own 50 14 K l.length kc xs).inv m) (hl : l.length ≤ maxLen) : EffsR m K l.length l := ⟨rfl, hl, xs, Eng.Own.rd ho, h.1, h.2⟩
structure BlkS where
 n : Nat
 at_ : Nat
 p : Nat
 ts : List Wrd
 l : List EffT
 K : Option Addr
 kc : Nat
 xs : List Value
 e : Ent
theorem block61 (hcap : ws.length ≤ c) : ∀ (n : Nat) {m : Mp}, Tabs m → WsR m A ws → BlC m b A c ws (pBlock n) n
 | 0, _, _, _ => fun m' hm at_ d p ts hp hd8 hb hk => by cases hk
 | n + 1, m, hT, hw => fun m' hm at_ d p ts hp hd8 hb hk => by
   generalize hF : pBlock (n + 1) d ts = F;unfold pBlock at hF;have hsm := hp.small;have hlen := hp.len;refine za [.tmp 2] Tryz.func61 rfl rfl rfl ?_;refine tr 8 ?_;refine Bs 0 sl61 fun b1 => ?_;refine Cp cl58 rfl .k1 (fun m1 h1 he => must58 (s := sLb) (hw.mono (hm.trans h1)) (Rd.blk (he _ (.head _))) (asc _ rfl) (by decide) hp) ?_ ?_
   ·rintro _ _ ⟨e', a', h1, rfl⟩;rw [h1] at hF;exact pn ⟨e', a', hF.symm, rfl⟩
   rintro _ _ ⟨_, ts1, at1, _, h1, hp1, ⟨rfl, rfl⟩, rfl⟩;rw [h1] at hF;dsimp only [R.bind] at hF;have hl1 : 1 + ts1.length ≤ ts.length := (zL (s := sLb) (ts := ts)).2 _ _ h1;clear h1;have hone := fun ts (h : ts.length < n + 1) => XC (d := d) (k := n) (n := n + 1) (by omega) (yx n) ts h;refine vr 4 ?_;refine xK 50 14 ?_
   refine zj (α := BlkS) (fun y => [(0, ptr b), (2, .slice y.K y.l.length y.kc)]) (fun y => [rd b A c ws y.at_ d y.p, own 50 14 y.K y.l.length y.kc y.xs, y.e])
    (fun y => pMany (pEff (pBlock n) (n + 1) d) y.n y.l y.ts = F ∧ Pos ws y.at_ y.ts ∧ y.p = p + effsW y.l ∧ y.p + y.ts.length ≤ 4611686018427000000 ∧ y.ts.length < y.n ∧ y.ts.length < n + 1 ∧ y.l.length + y.ts.length ≤ 65537 ∧ ∀ ns, y.e.inv ns → EsC ns y.xs y.l) (fun y => y.n)
    ⟨n + 1, at1, p, ts1, [], none, 0, [], pack []⟩ ⟨rfl, rfl, trivial⟩ (.cons .h1 (.cons .here (Pick.nilE (.nil _)))) ⟨hF, hp1, rfl, by show p + ts1.length ≤ _; omega, by show ts1.length < n + 1; omega, by show ts1.length < n + 1; omega, by show 0 + ts1.length ≤ _; omega, fun ns _ => ⟨rfl, fun i h => by cases h⟩⟩ ?_
   clear hF hl1 hp1;rintro ⟨j, a, p1, ts, l, K, kc, xs, e⟩ ⟨hF, hp, hpw, hb, hj, hk, hll, hx⟩;dsimp only at hF hp hpw hb hj hk hll hx;dsimp only;obtain ⟨j, rfl⟩ : ∃ j', j = j' + 1 := ⟨j - 1, by omega⟩;unfold pMany at hF;refine tr 4 ?_;refine C1 cl18 rfl .here (fun m1 h1 he => is18 (s := sRb) (hw.mono (hm.trans h1)) hp (asc _ rfl) (by decide)) ?_;rintro _ _ ⟨rfl, rfl⟩;cases hkb : isW sRb ts with
   | true =>
     rw [if_pos hkb] at hF;have hnx := hp.isW hkb;refine vr 6 ?_;refine zC ?_;refine zB ?_;refine qt 4 ?_;refine Bs 0 sl61 fun b2 => ?_;refine Cp cl58 rfl .k1 (fun m1 h1 he => must58 (s := sRb) (hw.mono (hm.trans h1)) (Rd.blk (he _ (.head _))) (asc _ rfl) (by decide) hp) ?_ ?_
     ·rintro _ _ ⟨e', a', h1, rfl⟩;rw [must, if_pos hkb] at h1;cases h1
     rintro _ _ ⟨_, ts2, at2, _, h1, hp2, ⟨rfl, rfl⟩, rfl⟩;rw [must, if_pos hkb] at h1;cases h1;refine vr 9 ?_;exact zb [_] ⟨rfl, trivial⟩ _ (.cons .here (Pick.pack2 (.cons .h1 .p1))) ⟨l, ts.tail, at2, _, hF.symm, hp2, ⟨K, kc, pack [own 50 14 K l.length kc xs, e], rfl, rfl, fun ns h => (hx ns (h.1 _ (.tail _ (.head _)))).list (h.1 _ (.head _)) (by unfold maxLen; omega)⟩, by rw [hpw]; rfl⟩
   | false =>
     rw [if_neg (by rw [hkb]; decide)] at hF;refine vr 10 ?_;refine Cp cl99 rfl .k0 (fun m1 h1 he => effect99 (k := n) (n := n + 1) (hT.mono (hm.trans h1)) (hw.mono (hm.trans h1)) hcap hp hd8 hb hk (by omega) (yx n) (block61 hcap n (hT.mono (hm.trans h1)) (hw.mono (hm.trans h1)))) ?_ ?_
     ·rintro _ _ ⟨e', a', h1, rfl⟩;rw [h1] at hF;refine zU ?_;refine zH ?_;exact pn ⟨e', a', hF.symm, rfl⟩
     rintro _ _ ⟨x, ts2, at2, _, h1, hp2, ⟨q, ex, rfl, rfl, hq⟩, rfl⟩;have hl2 := (hone ts hk).2 _ _ h1;have hxp := y4 x;rw [h1] at hF;change pMany (pEff (pBlock n) (n + 1) d) j (l ++ [x]) ts2 = F at hF;clear h1;have e1 : l.length + 1 = (l ++ [x]).length := by simp
     have e2 : effsW (l ++ [x]) = effsW l + effW x := by simp [effsW]
     refine Al 0 zl50 fun b2 => ?_;refine Sg 4 ag50 .here ?_;refine Lc 0 ag50 .here ?_;refine Bs 0 sl38 fun b3 => ?_;refine zE (yg sl38 rfl rfl rfl rfl .here (fun _ _ => .h4) rfl rfl (by first | omega | (simp only [maxLen]; omega)) (by omega) rfl (fun A1 c1 => ?_)) rfl;refine vr 3 ?_;rw [e1]
     exact QR (⟨j, at2, p1 + effW x, ts2, l ++ [x], A1, c1, xs ++ q.v, pack [e, ex]⟩ : BlkS) (.cons .h2 (.cons .h3 (Pick.pack2 (.cons .h3 .p2)))) ⟨hF, hp2, by dsimp only; rw [e2, hpw, Nat.add_assoc], by show p1 + effW x + ts2.length ≤ _; omega, by show ts2.length < j; omega, by show ts2.length < n + 1; omega, by show (l ++ [x]).length + ts2.length ≤ _; rw [← e1]; omega, fun ns h => (hx ns (h.1 _ (.head _))).snoc (hq ns (h.1 _ (.tail _ (.head _))))⟩ (Nat.lt_succ_self _)
end
section
open Wd Tp Kd
variable {m : Mp} {b c at_ d p : Nat} {A : Option Addr} {ws ts : List Wrd}
def RdN (m : Mp) (K : Option Addr) (kc : Nat) (l : List (List UInt8)) : Prop := Rd m K (l.map strV) ∧ l.length ≤ kc
theorem RdN.mono {m m' : Mp} {K : Option Addr} {kc : Nat} {l : List (List UInt8)} (h : RdN m K kc l) (hl : Le m m') : RdN m' K kc l := ⟨h.1.mono hl, h.2⟩
theorem RdN.z (m : Mp) : RdN m none 0 [] := ⟨Rd.nil _ _, Nat.zero_le _⟩
abbrev nmsV : List (List UInt8) → Value → List Ent → Prop := fun l v Es => ∃ (K : Option Addr) (kc : Nat) (e : Ent), v = .slice K l.length kc ∧ Es = [e] ∧ l.length ≤ 65537 ∧ (∀ s ∈ l, s.length ≤ 65536) ∧ ∀ ns, e.inv ns → RdN ns K kc l
structure NmS where
 n : Nat
 at_ : Nat
 ts : List Wrd
 l : List (List UInt8)
 K : Option Addr
 kc : Nat
theorem names70 {n : Nat} (hT : Tabs m) (hw : WsR m A ws) (hp : Pos ws at_ ts) (hn : ts.length < n) : RdC 70 [ptr b] m b A c ws at_ d p (pNames n [] ts) (fun _ => 0) nmsV := by
 generalize hF : pNames n [] ts = F;refine za [.tmp 2] Tryz.func70 rfl rfl rfl ?_;have hsm := hp.small;have hlen := hp.len;refine tr 6 ?_;refine xK 9 1 ?_
 refine zj (α := NmS) (fun y => [(0, ptr b), (2, .slice y.K y.l.length y.kc)]) (fun y => [rd b A c ws y.at_ d p, own 9 1 y.K y.l.length y.kc (y.l.map strV)])
  (fun y => pNames y.n y.l y.ts = F ∧ Pos ws y.at_ y.ts ∧ y.ts.length < y.n ∧ y.l.length + y.ts.length ≤ 65537 ∧ ∀ s ∈ y.l, s.length ≤ 65536) (fun y => y.n)
  ⟨n, at_, ts, [], none, 0⟩ ⟨rfl, rfl, trivial⟩ (.cons .h1 .p0) ⟨hF, hp, hn, by show 0 + ts.length ≤ _; omega, fun s h => by cases h⟩ ?_
 clear hF hp hn hlen;rintro ⟨j, a, ts, l, K, kc⟩ ⟨hF, hp, hj, hll, hx⟩;dsimp only at hF hp hj hll hx;dsimp only;obtain ⟨j, rfl⟩ : ∃ j', j = j' + 1 := ⟨j - 1, by omega⟩;unfold pNames at hF;refine tr 4 ?_;refine Cp cl55 rfl .k0 (fun m' hm he => name55 (hT.mono hm) (hw.mono hm) hp) ?_ ?_
 ·rintro _ _ ⟨e', a', h1, rfl⟩;rw [h1] at hF;refine zU ?_;refine zH ?_;exact pn ⟨e', a', hF.symm, rfl⟩
 rintro _ _ ⟨s, ts2, at2, _, h1, hp2, ⟨rfl, rfl⟩, rfl⟩;rw [h1] at hF;dsimp only [R.bind] at hF;have hl2 : 1 + ts2.length ≤ ts.length := (yr (ts := ts)).2 _ _ h1;have hs5 := vD hp h1;clear h1
 have hx2 : ∀ t ∈ l ++ [s], t.length ≤ 65536 := fun t ht => by
  rcases List.mem_append.1 ht with h | h
  ·exact hx t h
  ·rw [List.mem_singleton.1 h]; exact hs5
 have e1 : l.length + 1 = (l ++ [s]).length := by simp
 have e2 : l.map strV ++ [.string (bs s)] = (l ++ [s]).map strV := by simp [strV]
 refine vr 7 ?_;refine Bs 0 sl61 fun b1 => ?_;refine zE (yg sl61 rfl rfl rfl rfl .here (fun _ _ => .h2) rfl rfl (by first | omega | (simp only [maxLen]; omega)) (by omega) rfl (fun A1 c1 => ?_)) rfl;refine vr 6 ?_;refine C1 cl56 rfl .h1 (fun m' hm he => take56 (s := sComma) (hw.mono hm) hp2 (asc _ rfl) (by decide)) ?_;rintro _ _ (⟨hk, hp3, rfl, rfl⟩ | ⟨hk, rfl, rfl⟩)
 ·have hl1 := zh hk;rw [if_pos hk] at hF;refine vr 6 ?_
  exact z7 (⟨j, at2 + 1, ts2.tail, l ++ [s], A1, c1⟩ : NmS) ⟨rfl, by rw [← e1]; rfl, trivial⟩ (.cons .here (Pick.cons (e := own 9 1 A1 (l ++ [s]).length c1 ((l ++ [s]).map strV)) (by rw [← e2, ← e1]; exact .h1) (.nil _))) ⟨hF, hp3, by show ts2.tail.length < j; omega, by show (l ++ [s]).length + ts2.tail.length ≤ _; rw [← e1]; omega, hx2⟩ (Nat.lt_succ_self _)
 rw [if_neg (by rw [hk]; decide)] at hF;refine vr 12 ?_;refine zN ?_;refine zP ?_;rw [e1]
 exact zb [_] ⟨rfl, trivial⟩ _ (.cons .here (Pick.cons (e := own 9 1 A1 (l ++ [s]).length c1 ((l ++ [s]).map strV)) (by rw [← e2, ← e1]; exact .h1) (.nil _))) ⟨l ++ [s], ts2, at2, _, hF.symm, hp2, ⟨A1, c1, _, rfl, rfl, by rw [← e1]; omega, hx2, fun ns h => ⟨Eng.Own.rd h, Eng.Own.le h⟩⟩, rfl⟩
end
section
open Wd Tp Kd
variable {m : Mp} {b c at_ d p : Nat} {A : Option Addr} {ws ts : List Wrd}
theorem xV {v : List UInt8 → Value} {k : List UInt8} : ∀ {l : List (List UInt8)} {i : Nat}, k ∉ l → findM k i (l.map fun s => (s, v s)) = none
 | [], _, _ => rfl
 | s :: r, i, h => by
   unfold findM;simp only [List.map_cons];rw [if_neg (fun e => h (by rw [e]; exact .head _))];exact xV fun hm => h (.tail _ hm)
theorem VZ {k : List UInt8} (l : List (List UInt8)) : (getM (l.map fun s => (s, Value.bool true)) k).getD (.bool false) = .bool (decide (k ∈ l)) := by
 by_cases h : k ∈ l
 ·rw [decide_eq_true h]
  have : ∀ (l : List (List UInt8)) (i : Nat), k ∈ l → ∃ j, findM k i (l.map fun s => (s, Value.bool true)) = some (j, .bool true) := by
   intro l
   induction l with
   | nil => intro i h; cases h
   | cons s r ih =>
     intro i h;unfold findM;simp only [List.map_cons];by_cases hk : k = s
     ·rw [if_pos hk]; exact ⟨_, rfl⟩
     ·rw [if_neg hk];exact ih _ (by rcases List.mem_cons.1 h with h | h; exact absurd h hk; exact h)
  obtain ⟨j, hj⟩ := this l 0 h;rw [getM, hj]
  rfl
 ·rw [decide_eq_false h, getM, xV (v := fun _ => Value.bool true) h]
  rfl
theorem VJ {k : List UInt8} {l : List (List UInt8)} (h : k ∉ l) : putM (l.map fun s => (s, Value.bool true)) k (.bool true) = (l ++ [k]).map fun s => (s, Value.bool true) := by
 rw [putM, xV (v := fun _ => Value.bool true) h, List.map_append]
 rfl
abbrev ruM (keys : List (List UInt8 × FuncId × List Value)) : List (List UInt8 × Value) := keys.map fun k => (k.1, .func (.func k.2.1) [].toArray k.2.2.toArray)
theorem getM_ru {k : List UInt8} : ∀ (keys : List (List UInt8 × FuncId × List Value)), (k ∈ keys.map (·.1) ∧ ∃ x ∈ keys, x.1 = k ∧ getM (ruM keys) k = some (.func (.func x.2.1) [].toArray x.2.2.toArray)) ∨ (k ∉ keys.map (·.1) ∧ getM (ruM keys) k = none) := by
 have gen : ∀ (keys : List (List UInt8 × FuncId × List Value)) (i : Nat), (k ∈ keys.map (·.1) ∧ ∃ x ∈ keys, x.1 = k ∧ ∃ j, findM k i (ruM keys) = some (j, .func (.func x.2.1) [].toArray x.2.2.toArray)) ∨ (k ∉ keys.map (·.1) ∧ findM k i (ruM keys) = none) := by
  intro keys
  induction keys with
  | nil => intro i; exact .inr ⟨by simp, rfl⟩
  | cons x r ih =>
    intro i;by_cases h : k = x.1
    ·refine .inl ⟨by rw [h]; exact .head _, x, .head _, h.symm, i, ?_⟩;show findM k i ((x.1, _) :: ruM r) = _;unfold findM;rw [if_pos h]
    ·have e : findM k i (ruM (x :: r)) = findM k (i + 1) (ruM r) := by
      show findM k i ((x.1, _) :: ruM r) = _;rw [findM, if_neg h]
     rcases ih (i + 1) with ⟨h1, y, h2, h3, j, h4⟩ | ⟨h1, h2⟩
     ·exact .inl ⟨.tail _ h1, y, .tail _ h2, h3, j, by rw [e]; exact h4⟩
     ·refine .inr ⟨fun hm => ?_, by rw [e]; exact h2⟩;rcases List.mem_cons.1 hm with hm | hm
      ·exact h hm
      ·exact h1 hm
 intro keys;rcases gen keys 0 with ⟨h1, y, h2, h3, j, h4⟩ | ⟨h1, h2⟩
 ·exact .inl ⟨h1, y, h2, h3, by rw [getM, h4]; rfl⟩
 ·exact .inr ⟨h1, by rw [getM, h2]; rfl⟩
def RuC {σ : Type} (m : Mp) (b : Nat) (A : Option Addr) (c : Nat) (ws : List Wrd) (f : FuncId) (q : List Value) (rd1 : σ → List Wrd → R σ) (I I2 : σ → Nat → Ent → Prop) (n : Nat) : Prop :=
 ∀ m', Le m m' → ∀ (x : σ) (e : Ent) (at_ p : Nat) (ts : List Wrd), I x p e → Pos ws at_ ts → p + ts.length ≤ 4611686018427000000 → ts.length < n →
  CSP Tryz.prog f q m' [rd b A c ws at_ 0 p, e] (fun v L' => ∃ x' ts' at' p' e', rd1 x ts = .ok x' ts' ∧ Pos ws at' ts' ∧ p' + ts'.length ≤ p + ts.length ∧ ts'.length ≤ ts.length ∧ I2 x' p' e' ∧ v = U0 ∧ L' = [rd b A c ws at' 0 p', e'])
   (fun v _ => ∃ e a, rd1 x ts = .bad e a ∧ v = fltV e a)
structure RuS (σ : Type) where
 n : Nat
 at_ : Nat
 p : Nat
 ts : List Wrd
 seen : List (List UInt8)
 x : σ
 e : Ent
theorem rules59 {σ : Type} {keys : List (List UInt8 × FuncId × List Value)} {read : List UInt8 → σ → List Wrd → R σ} {parts : σ → Nat} {I : List (List UInt8) → σ → Nat → Ent → Prop} {mb n : Nat} {x : σ} {e : Ent}
  (hM : MapAt m mb (ruM keys)) (hcl : ∀ k ∈ keys, callable Tryz.prog k.2.1 = true)
  (hR : ∀ k ∈ keys, ∀ seen, k.1 ∉ seen → RuC m b A c ws k.2.1 k.2.2 (read k.1) (I seen) (I (seen ++ [k.1])) n)
  (hI : ∀ seen x p e, I seen x p e → (200 < p ↔ 200 < parts x)) (hx : I [] x p e) (hw : WsR m A ws) (hp : Pos ws at_ ts) (hb : p + ts.length ≤ 4611686018427000000) (hn : ts.length < n) :
  CSP Tryz.prog 59 [ptr b, .map (some mb)] m [rd b A c ws at_ 0 p, e]
   (fun v L' => ∃ x' ts' at' p' e' seen, ((must sLb ts).bind fun _ ts => pRules (keys.map (·.1)) read parts n [] x ts) = .ok x' ts' ∧ Pos ws at' ts' ∧ p' ≤ 200 ∧ I seen x' p' e' ∧ v = U0 ∧ L' = [rd b A c ws at' 0 p', e'])
   (fun v _ => ∃ e a, ((must sLb ts).bind fun _ ts => pRules (keys.map (·.1)) read parts n [] x ts) = .bad e a ∧ v = fltV e a) := by
 generalize hF : ((must sLb ts).bind fun _ ts => pRules (keys.map (·.1)) read parts n [] x ts) = F;have hsm := hp.small;have hlen := hp.len;refine za [] Tryz.func59 rfl rfl rfl ?_;refine tr 3 ?_;refine Bs 0 sl61 fun b1 => ?_;refine Cp cl58 rfl .k1 (fun m' hm he => must58 (s := sLb) (hw.mono hm) (Rd.blk (he _ (.head _))) (asc _ rfl) (by decide) hp) ?_ ?_
 ·rintro _ _ ⟨e', a', h1, rfl⟩;rw [h1] at hF;exact pn ⟨e', a', hF.symm, rfl⟩
 rintro _ _ ⟨_, ts1, at1, _, h1, hp1, ⟨rfl, rfl⟩, rfl⟩;rw [h1] at hF;dsimp only [R.bind] at hF;have hl1 : 1 + ts1.length ≤ ts.length := (zL (s := sLb) (ts := ts)).2 _ _ h1;clear h1;refine vr 4 ?_;refine zE (vR rfl (fun b2 => ?_)) rfl;refine vr 5 ?_
 refine zj (α := RuS σ) (fun y => [(0, ptr b), (1, .map (some mb)), (4, .map (some b2))]) (fun y => [rd b A c ws y.at_ 0 y.p, smap b2 (y.seen.map fun s => (s, Value.bool true)), y.e])
  (fun y => pRules (keys.map (·.1)) read parts y.n y.seen y.x y.ts = F ∧ Pos ws y.at_ y.ts ∧ y.p + y.ts.length ≤ 4611686018427000000 ∧ y.ts.length < n ∧ y.ts.length < y.n ∧ I y.seen y.x y.p y.e) (fun y => y.n)
  ⟨n, at1, p, ts1, [], x, e⟩ ⟨rfl, rfl, rfl, trivial⟩ (.cons .h1 (.cons .here .p1)) ⟨hF, hp1, by show p + ts1.length ≤ _; omega, by show ts1.length < n; omega, by show ts1.length < n; omega, hx⟩ ?_
 clear hF hl1 hp1 hx;rintro ⟨j, a, p1, ts, seen, x, e⟩ ⟨hF, hp, hb, hn, hj, hx⟩;dsimp only at hF hp hb hn hj hx;dsimp only;obtain ⟨j, rfl⟩ : ∃ j', j = j' + 1 := ⟨j - 1, by omega⟩;unfold pRules at hF;refine tr 4 ?_;refine C1 cl18 rfl .here (fun m1 h1 he => is18 (s := sRb) (hw.mono h1) hp (asc _ rfl) (by decide)) ?_;rintro _ _ ⟨rfl, rfl⟩;have hp200 := hI _ _ _ _ hx;cases hkb : isW sRb ts with
 | true =>
   rw [if_pos hkb] at hF;have hnx := hp.isW hkb;by_cases h2 : 200 < p1
   ·rw [if_pos (hp200.1 h2)] at hF;refine vr 6 ?_;refine zC ?_;refine zB ?_;refine qt 7 ?_;refine Lb 0 sg3 .here ?_;refine cto 5 ?_;refine Cp cl19 rfl .k0 (fun m' hm he => bad19 3 (hw.mono hm) hp) ?_ ?_
    ·rintro _ _ rfl;exact pn ⟨3, _, hF.symm, rfl⟩
    ·rintro _ _ h;exact h.elim
   rw [if_neg (fun h => h2 (hp200.2 h))] at hF;refine vr 6 ?_;refine zC ?_;refine zB ?_;refine qt 7 ?_;refine Lb 0 sg3 .here ?_;refine cfo 7 ?_;refine Bs 0 sl61 fun b3 => ?_;refine Cp cl58 rfl .k1 (fun m' hm he => must58 (s := sRb) (hw.mono hm) (Rd.blk (he _ (.head _))) (asc _ rfl) (by decide) hp) ?_ ?_
   ·rintro _ _ ⟨e', a', h1, rfl⟩;rw [must, if_pos hkb] at h1;cases h1
   rintro _ _ ⟨_, ts2, at2, _, h1, hp2, ⟨rfl, rfl⟩, rfl⟩;rw [must, if_pos hkb] at h1;cases h1;refine vr 1 ?_;exact yO [] trivial _ (.cons .here .p2) ⟨x, ts.tail, at2, p1, e, seen, hF.symm, hp2, by omega, hx, rfl, rfl⟩
 | false =>
   rw [if_neg (by rw [hkb]; decide)] at hF;have hat := hp.word hw;have hA := hp.isSome hw;have hlt := hp.lt;refine vr 8 ?_;refine z6 (sT [0, 1, 2, 4, 5, 6, 103, 107, 8, 9, 110, 11] .done) mixed (by kernel_rfl) (fun _ _ _ _ hq => hq) ?_;refine vt 6 ?_;refine Vl 0 rfl sg51 .here ?_;refine Vl 0 rfl sg3 .here ?_;refine Vt 1 rfl (zI ez51 rfl rfl hA (by omega)) ?_
   refine Vu 1 rfl (zF sg9 rfl (hat.at_ rfl)) ?_;refine Vm 5 ?_;refine lr 10 (WR hM ms108 rfl rfl mz108) ?_;rcases getM_ru (k := (hd ts).text) keys with ⟨hin, k, hk, hke, hg⟩ | ⟨hin, hg⟩
   ·rw [hg];dsimp only [Option.getD_some, Option.isSome_some];by_cases h1 : (hd ts).kind = 1
    ·rw [if_pos ⟨h1, hin⟩] at hF;have hp2 := hp.next (by omega)
     have htl : ts.tail.length + 1 = ts.length := by
      have := hp2.len;have := hp.len;omega
     refine z6 (sT [0, 1, 2, 3, 4, 5, 7, 8, 9, 106, 110, 11, 12, 113, 14, 15, 16] .done) mixed (by kernel_rfl) (fun _ _ _ _ hq => hq) ?_;refine vt 9 ?_;refine Vl 0 rfl sg51 .here ?_;refine Vl 0 rfl sg3 .here ?_;refine Vt 1 rfl (zI ez51 rfl rfl hA (by omega)) ?_;refine Vu 0 rfl (zF sg42 rfl (hat.at_ rfl)) ?_;refine Vt 2 rfl (df (kl rfl rfl) (by omega)) ?_;refine Vm 6 ?_
     refine lr 3 (XX ms129 rfl rfl .h1 mz129) ?_;rw [VZ];by_cases hs : (hd ts).text ∈ seen
     ·rw [if_pos hs] at hF;rw [decide_eq_true hs];refine tr 3 ?_;refine Cp cl19 rfl .k0 (fun m' hm he => bad19 101 (hw.mono hm) hp) ?_ ?_
      ·rintro _ _ rfl;refine zU ?_;refine zH ?_;exact pn ⟨101, _, hF.symm, rfl⟩
      ·rintro _ _ h;exact h.elim
     rw [if_neg hs] at hF;rw [decide_eq_false hs];refine tr 8 ?_;refine zE (uJ ms129 rfl rfl rfl .h1 ?_) rfl;refine vr 7 ?_;refine Lb 0 sg3 .here ?_;refine Pa 2 ?_;refine Sr 4 co3 .here .h1 ?_;rw [VJ hs]
     refine zE (yl (p := []) (q := k.2.2) (vs := []) (hcl k hk) rfl rfl (.cons .here .k1) (fun m' hm he => hR k hk seen (by rw [hke]; exact hs) m' hm x e (a + 1) p1 ts.tail hx hp2 (by omega) (by omega)) rfl ?_ ?_) rfl
     ·rintro _ _ ⟨e', a', h1, rfl⟩;rw [← hke, h1] at hF;refine YQ ?_;refine zH ?_;exact pn ⟨e', a', hF.symm, rfl⟩
     rintro _ _ ⟨x2, ts2, at2, p2, e2, h1, hp3, hle, hle2, hx2, rfl, rfl⟩;rw [← hke, h1] at hF;rw [hke] at hF hx2;dsimp only [R.bind] at hF;refine vr 2 ?_;exact QR (⟨j, at2, p2, ts2, seen ++ [(hd ts).text], x2, e2⟩ : RuS σ) (.cons .here (.cons .h1 .p0)) ⟨hF, hp3, by show p2 + ts2.length ≤ _; omega, by show ts2.length < n; omega, by show ts2.length < j; omega, hx2⟩ (Nat.lt_succ_self _)
    ·rw [if_neg (fun h => h1 h.1)] at hF;refine z6 (sT [0, 1, 2, 3, 4, 5, 7, 8, 9, 106, 110, 11, 12, 113, 14, 15, 16] .done) mixed (by kernel_rfl) (fun _ _ _ _ hq => hq) ?_;refine vt 9 ?_;refine Vl 0 rfl sg51 .here ?_;refine Vl 0 rfl sg3 .here ?_;refine Vt 1 rfl (zI ez51 rfl rfl hA (by omega)) ?_;refine Vu 0 rfl (zF sg42 rfl (hat.at_ rfl)) ?_
     refine Vt 2 rfl (dt (kl rfl rfl) (by assumption)) ?_;refine Vm 4 ?_;refine Cp cl19 rfl .k0 (fun m' hm he => bad19 120 (hw.mono hm) hp) ?_ ?_
     ·rintro _ _ rfl;refine zU ?_;refine zH ?_;exact pn ⟨120, _, hF.symm, rfl⟩
     ·rintro _ _ h;exact h.elim
   ·rw [hg];dsimp only [Option.getD_none, Option.isSome_none];rw [if_neg (fun h => hin h.2)] at hF;refine z6 (sT [0, 1, 2, 3, 4, 5, 7, 8, 9, 106, 110, 11, 12, 113, 14, 15, 16] .done) mixed (by kernel_rfl) (fun _ _ _ _ hq => hq) ?_;refine vt 17 ?_;refine Vm 4 ?_;refine Cp cl19 rfl .k0 (fun m' hm he => bad19 120 (hw.mono hm) hp) ?_ ?_
    ·rintro _ _ rfl;refine zU ?_;refine zH ?_;exact pn ⟨120, _, hF.symm, rfl⟩
    ·rintro _ _ h;exact h.elim
end
section
open Wd Tp Kd
variable {m : Mp} {b c at_ d p : Nat} {A : Option Addr} {ws ts : List Wrd}
theorem Pick.unpack2 {a e f : Ent} : Pick [a, pack [e, f]] [a, e, f] := fun m h hs => by
 have h1 := hs.take (Tk.there Tk.here);have h2 : HS m ([e, f] ++ [a]) h := HS.pack_iff.2 h1;exact (Pick.cons .h2 .pp) m h h2
structure CardC where
 A : Option Addr
 ca : Nat
 B : Option Addr
 cb : Nat
 D : Option Addr
 cd : Nat
abbrev CardC.v (q : CardC) (x : CardT) : List Value := [.string (bs x.name), .bool x.unit, .int .i64 x.cost, .int .i64 x.power, .int .i64 x.health, .int .i64 x.shield, .int .i64 x.apow, .int .i64 x.aheal, .slice q.A x.played.length q.ca, .slice q.B x.dead.length q.cb, .slice q.D x.dawn.length q.cd, .int .i64 x.at_]
def CardQ (m : Mp) (vs : List Value) (x : CardT) : Prop := ∃ q : CardC, vs = q.v x ∧ x.name.length ≤ 65536 ∧ EffsR m q.A x.played.length x.played ∧ EffsR m q.B x.dead.length x.dead ∧ EffsR m q.D x.dawn.length x.dawn
theorem CardQ.mono {m m' : Mp} {vs : List Value} {x : CardT} (h : CardQ m vs x) (hl : Le m m') : CardQ m' vs x := by
 obtain ⟨q, h1, h2, h3, h4, h5⟩ := h;exact ⟨q, h1, h2, h3.mono hl, h4.mono hl, h5.mono hl⟩
theorem EffsR.z (m : Mp) : EffsR m none 0 [] := ⟨rfl, Nat.zero_le _, [], Rd.nil _ _, rfl, fun i h => by cases h⟩
def CdI (b4 : Nat) (seen : List (List UInt8)) (x : CardT) (p : Nat) (e : Ent) : Prop := ∃ (q : CardC) (o : Ent), e = pack [cel b4 (q.v x) 40, o] ∧ (∀ ns, o.inv ns → EffsR ns q.A x.played.length x.played ∧ EffsR ns q.B x.dead.length x.dead ∧ EffsR ns q.D x.dawn.length x.dawn) ∧
 p = cardWt x ∧ x.name.length ≤ 65536 ∧ (sPlayed ∉ seen → x.played = []) ∧ (sDead ∉ seen → x.dead = []) ∧ (sDawn ∉ seen → x.dawn = [])
theorem nin {k s : List UInt8} {seen : List (List UInt8)} (h : s ∉ seen ++ [k]) : s ∉ seen := fun hm => h (List.mem_append_left _ hm)
theorem nin2 {k : List UInt8} {seen : List (List UInt8)} (h : k ∉ seen ++ [k]) : False := h (List.mem_append_right _ (.head _))
theorem jD : effsW [] = 0 := rfl
theorem rule60 {b2 b4 n : Nat} {seen : List (List UInt8)} (hbox : Wc m ⟨b2, 0, none⟩ (ptr b)) (hT : Tabs m) (hw : WsR m A ws) (hcap : ws.length ≤ c) (hs : sPlayed ∉ seen) : RuC m b A c ws 60 [ptr b2, ptr b4] (cardRead n sPlayed) (CdI b4 seen) (CdI b4 (seen ++ [sPlayed])) n := by
 rintro m' hm x e at_ p ts ⟨q, o, rfl, hes, rfl, hnm, h1, h2, h3⟩ hp hb hn;generalize hF : cardRead n sPlayed x ts = F;unfold cardRead at hF;rw [if_pos rfl] at hF;have hbx := hbox.mono hm;clear hbox;refine za [] Tryz.func60 rfl rfl rfl ?_;refine xJ _ Pick.unpack2 ?_;refine tr 1 ?_;refine lr 0 (yG sg54 rfl hbx) ?_
 refine Cp cl61 rfl .k0 (fun m1 hm1 he => block61 hcap n (hT.mono (hm.trans hm1)) (hw.mono (hm.trans hm1)) m1 (Le.refl _) at_ 0 (cardWt x) ts hp (by omega) hb hn) ?_ ?_
 ·rintro _ _ ⟨e', a', h1, rfl⟩;rw [h1] at hF;skip;exact pn ⟨e', a', hF.symm, rfl⟩
 rintro _ _ ⟨l, ts1, at1, _, hl, hp1, ⟨K, kc, e, rfl, rfl, he⟩, rfl⟩;rw [hl] at hF;dsimp only [R.bind] at hF;have hlen := (yx n 0 ts hn).2 _ _ hl;have hz := h1 hs;refine vr 1 ?_;refine Sr 1 co38 .h2 .h8 ?_
 refine yO [] trivial _ (.cons .here (Pick.pack2 (a := cel b4 (CardC.v ⟨K, kc, q.B, q.cb, q.D, q.cd⟩ { x with played := l }) 40) (b := pack [o, e]) (.cons .h1 (Pick.pack2 (.cons .h1 .p0))))) ⟨{ x with played := l }, ts1, at1, cardWt x + effsW l, _, hF.symm, hp1, by omega, by omega, ⟨⟨K, kc, q.B, q.cb, q.D, q.cd⟩, pack [o, e], rfl, fun ns h => ⟨he ns (h.1 _ (.tail _ (.head _))), (hes ns (h.1 _ (.head _))).2.1, (hes ns (h.1 _ (.head _))).2.2⟩, ?_, hnm, fun h => (nin2 h).elim, fun h => h2 (nin h), fun h => h3 (nin h)⟩, rfl, rfl⟩
 unfold cardWt;rw [hz, jD];dsimp only;omega
theorem rule62 {b2 b4 n : Nat} {seen : List (List UInt8)} (hbox : Wc m ⟨b2, 0, none⟩ (ptr b)) (hT : Tabs m) (hw : WsR m A ws) (hcap : ws.length ≤ c) (hs : sDead ∉ seen) : RuC m b A c ws 62 [ptr b2, ptr b4] (cardRead n sDead) (CdI b4 seen) (CdI b4 (seen ++ [sDead])) n := by
 rintro m' hm x e at_ p ts ⟨q, o, rfl, hes, rfl, hnm, h1, h2, h3⟩ hp hb hn;generalize hF : cardRead n sDead x ts = F;unfold cardRead at hF;rw [if_neg (by decide), if_pos rfl] at hF;have hbx := hbox.mono hm;clear hbox;refine za [] Tryz.func62 rfl rfl rfl ?_;refine xJ _ Pick.unpack2 ?_;refine tr 1 ?_;refine lr 0 (yG sg54 rfl hbx) ?_
 refine Cp cl61 rfl .k0 (fun m1 hm1 he => block61 hcap n (hT.mono (hm.trans hm1)) (hw.mono (hm.trans hm1)) m1 (Le.refl _) at_ 0 (cardWt x) ts hp (by omega) hb hn) ?_ ?_
 ·rintro _ _ ⟨e', a', h1, rfl⟩;rw [h1] at hF;skip;exact pn ⟨e', a', hF.symm, rfl⟩
 rintro _ _ ⟨l, ts1, at1, _, hl, hp1, ⟨K, kc, e, rfl, rfl, he⟩, rfl⟩;rw [hl] at hF;dsimp only [R.bind] at hF;have hlen := (yx n 0 ts hn).2 _ _ hl;have hz := h2 hs;refine vr 1 ?_;refine Sr 1 co38 .h2 .h9 ?_
 refine yO [] trivial _ (.cons .here (Pick.pack2 (a := cel b4 (CardC.v ⟨q.A, q.ca, K, kc, q.D, q.cd⟩ { x with dead := l }) 40) (b := pack [o, e]) (.cons .h1 (Pick.pack2 (.cons .h1 .p0))))) ⟨{ x with dead := l }, ts1, at1, cardWt x + effsW l, _, hF.symm, hp1, by omega, by omega, ⟨⟨q.A, q.ca, K, kc, q.D, q.cd⟩, pack [o, e], rfl, fun ns h => ⟨(hes ns (h.1 _ (.head _))).1, he ns (h.1 _ (.tail _ (.head _))), (hes ns (h.1 _ (.head _))).2.2⟩, ?_, hnm, fun h => h1 (nin h), fun h => (nin2 h).elim, fun h => h3 (nin h)⟩, rfl, rfl⟩
 unfold cardWt;rw [hz, jD];dsimp only;omega
theorem rule63 {b2 b4 n : Nat} {seen : List (List UInt8)} (hbox : Wc m ⟨b2, 0, none⟩ (ptr b)) (hT : Tabs m) (hw : WsR m A ws) (hcap : ws.length ≤ c) (hs : sDawn ∉ seen) : RuC m b A c ws 63 [ptr b2, ptr b4] (cardRead n sDawn) (CdI b4 seen) (CdI b4 (seen ++ [sDawn])) n := by
 rintro m' hm x e at_ p ts ⟨q, o, rfl, hes, rfl, hnm, h1, h2, h3⟩ hp hb hn;generalize hF : cardRead n sDawn x ts = F;unfold cardRead at hF;rw [if_neg (by decide), if_neg (by decide), if_pos rfl] at hF;have hbx := hbox.mono hm;clear hbox;refine za [] Tryz.func63 rfl rfl rfl ?_;refine xJ _ Pick.unpack2 ?_;refine tr 1 ?_;refine lr 0 (yG sg54 rfl hbx) ?_
 refine Cp cl61 rfl .k0 (fun m1 hm1 he => block61 hcap n (hT.mono (hm.trans hm1)) (hw.mono (hm.trans hm1)) m1 (Le.refl _) at_ 0 (cardWt x) ts hp (by omega) hb hn) ?_ ?_
 ·rintro _ _ ⟨e', a', h1, rfl⟩;rw [h1] at hF;skip;exact pn ⟨e', a', hF.symm, rfl⟩
 rintro _ _ ⟨l, ts1, at1, _, hl, hp1, ⟨K, kc, e, rfl, rfl, he⟩, rfl⟩;rw [hl] at hF;dsimp only [R.bind] at hF;have hlen := (yx n 0 ts hn).2 _ _ hl;have hz := h3 hs;refine vr 1 ?_;refine Sr 1 co38 .h2 .h10 ?_
 refine yO [] trivial _ (.cons .here (Pick.pack2 (a := cel b4 (CardC.v ⟨q.A, q.ca, q.B, q.cb, K, kc⟩ { x with dawn := l }) 40) (b := pack [o, e]) (.cons .h1 (Pick.pack2 (.cons .h1 .p0))))) ⟨{ x with dawn := l }, ts1, at1, cardWt x + effsW l, _, hF.symm, hp1, by omega, by omega, ⟨⟨q.A, q.ca, q.B, q.cb, K, kc⟩, pack [o, e], rfl, fun ns h => ⟨(hes ns (h.1 _ (.head _))).1, (hes ns (h.1 _ (.head _))).2.1, he ns (h.1 _ (.tail _ (.head _)))⟩, ?_, hnm, fun h => h1 (nin h), fun h => h2 (nin h), fun h => (nin2 h).elim⟩, rfl, rfl⟩
 unfold cardWt;rw [hz, jD];dsimp only;omega
theorem rule64 {b2 b4 n : Nat} {seen : List (List UInt8)} (hbox : Wc m ⟨b2, 0, none⟩ (ptr b)) (hw : WsR m A ws) : RuC m b A c ws 64 [ptr b2, ptr b4] (cardRead n sAura) (CdI b4 seen) (CdI b4 (seen ++ [sAura])) n := by
 rintro m' hm x e at_ p ts ⟨q, o, rfl, hes, rfl, hnm, h1, h2, h3⟩ hp hb hn;generalize hF : cardRead n sAura x ts = F;unfold cardRead at hF;rw [if_neg (by decide), if_neg (by decide), if_neg (by decide), if_pos rfl] at hF;have hbx := hbox.mono hm;clear hbox;refine za [] Tryz.func64 rfl rfl rfl ?_;refine xJ _ Pick.unpack2 ?_;refine tr 2 ?_;refine lr 0 (yG sg54 rfl hbx) ?_
 refine Cp cl57 rfl .k0 (fun m1 hm1 he => number57 (hw.mono (hm.trans hm1)) hp) ?_ ?_
 ·rintro _ _ ⟨e', a', h1, rfl⟩;rw [h1] at hF;exact pn ⟨e', a', hF.symm, rfl⟩
 rintro _ _ ⟨v1, ts1, at1, _, h1, hp1, ⟨rfl, rfl⟩, rfl⟩;rw [h1] at hF;dsimp only [R.bind] at hF;have hl1 : 1 + ts1.length ≤ ts.length := (zo (ts := ts)).2 _ _ h1;clear h1;refine vr 1 ?_;refine Sr 4 co3 .h1 .h6 ?_;refine lr 0 (yG sg54 rfl hbx) ?_;refine Bs 0 sl61 fun b1 => ?_
 refine Cp cl58 rfl .k1 (fun m1 hm1 he => must58 (s := sSlash) (hw.mono (hm.trans hm1)) (Rd.blk (he _ (.head _))) (asc _ rfl) (by decide) hp1) ?_ ?_
 ·rintro _ _ ⟨e', a', h1, rfl⟩;rw [h1] at hF;exact pn ⟨e', a', hF.symm, rfl⟩
 rintro _ _ ⟨_, ts2, at2, _, h1, hp2, ⟨rfl, rfl⟩, rfl⟩;rw [h1] at hF;dsimp only [R.bind] at hF;have hl2 : 1 + ts2.length ≤ ts1.length := (zL (s := sSlash) (ts := ts1)).2 _ _ h1;clear h1;refine vr 4 ?_;refine lr 0 (yG sg54 rfl hbx) ?_;refine Cp cl57 rfl .k0 (fun m1 hm1 he => number57 (hw.mono (hm.trans hm1)) hp2) ?_ ?_
 ·rintro _ _ ⟨e', a', h1, rfl⟩;rw [h1] at hF;exact pn ⟨e', a', hF.symm, rfl⟩
 rintro _ _ ⟨v2, ts3, at3, _, h1, hp3, ⟨rfl, rfl⟩, rfl⟩;rw [h1] at hF;dsimp only [R.bind] at hF;have hl3 : 1 + ts3.length ≤ ts2.length := (zo (ts := ts2)).2 _ _ h1;clear h1;refine vr 1 ?_;refine Sr 3 co3 .h2 .h7 ?_;refine lr 0 (yG sg54 rfl hbx) ?_;refine Bs 0 sl61 fun b3 => ?_
 refine Cp cl58 rfl .k1 (fun m1 hm1 he => must58 (s := sSemi) (hw.mono (hm.trans hm1)) (Rd.blk (he _ (.head _))) (asc _ rfl) (by decide) hp3) ?_ ?_
 ·rintro _ _ ⟨e', a', h1, rfl⟩;rw [h1] at hF;skip;exact pn ⟨e', a', hF.symm, rfl⟩
 rintro _ _ ⟨_, ts4, at4, _, h1, hp4, ⟨rfl, rfl⟩, rfl⟩;rw [h1] at hF;dsimp only [R.bind] at hF;have hl4 : 1 + ts4.length ≤ ts3.length := (zL (s := sSemi) (ts := ts3)).2 _ _ h1;clear h1;refine vr 1 ?_
 exact yO [] trivial _ (.cons .here (Pick.pack2 (a := cel b4 (CardC.v q { x with apow := v1, aheal := v2 }) 40) (b := o) (.cons .h2 .p2))) ⟨{ x with apow := v1, aheal := v2 }, ts4, at4, cardWt x, _, hF.symm, hp4, by omega, by omega, ⟨q, o, rfl, hes, rfl, hnm, fun h => h1 (nin h), fun h => h2 (nin h), fun h => h3 (nin h)⟩, rfl, rfl⟩
theorem rule65 {b2 b4 n : Nat} {seen : List (List UInt8)} (hbox : Wc m ⟨b2, 0, none⟩ (ptr b)) (hw : WsR m A ws) : RuC m b A c ws 65 [ptr b2, ptr b4] (cardRead n sShield) (CdI b4 seen) (CdI b4 (seen ++ [sShield])) n := by
 rintro m' hm x e at_ p ts ⟨q, o, rfl, hes, rfl, hnm, h1, h2, h3⟩ hp hb hn;generalize hF : cardRead n sShield x ts = F;unfold cardRead at hF;rw [if_neg (by decide), if_neg (by decide), if_neg (by decide), if_neg (by decide)] at hF;have hbx := hbox.mono hm;clear hbox;refine za [] Tryz.func65 rfl rfl rfl ?_;refine xJ _ Pick.unpack2 ?_;refine tr 2 ?_;refine lr 0 (yG sg54 rfl hbx) ?_
 refine Cp cl57 rfl .k0 (fun m1 hm1 he => number57 (hw.mono (hm.trans hm1)) hp) ?_ ?_
 ·rintro _ _ ⟨e', a', h1, rfl⟩;rw [h1] at hF;exact pn ⟨e', a', hF.symm, rfl⟩
 rintro _ _ ⟨v1, ts1, at1, _, h1, hp1, ⟨rfl, rfl⟩, rfl⟩;rw [h1] at hF;dsimp only [R.bind] at hF;have hl1 : 1 + ts1.length ≤ ts.length := (zo (ts := ts)).2 _ _ h1;clear h1;refine vr 1 ?_;refine Sr 3 co3 .h1 .h5 ?_;refine lr 0 (yG sg54 rfl hbx) ?_;refine Bs 0 sl61 fun b1 => ?_
 refine Cp cl58 rfl .k1 (fun m1 hm1 he => must58 (s := sSemi) (hw.mono (hm.trans hm1)) (Rd.blk (he _ (.head _))) (asc _ rfl) (by decide) hp1) ?_ ?_
 ·rintro _ _ ⟨e', a', h1, rfl⟩;rw [h1] at hF;skip;exact pn ⟨e', a', hF.symm, rfl⟩
 rintro _ _ ⟨_, ts2, at2, _, h1, hp2, ⟨rfl, rfl⟩, rfl⟩;rw [h1] at hF;dsimp only [R.bind] at hF;have hl2 : 1 + ts2.length ≤ ts1.length := (zL (s := sSemi) (ts := ts1)).2 _ _ h1;clear h1;refine vr 1 ?_
 exact yO [] trivial _ (.cons .here (Pick.pack2 (a := cel b4 (CardC.v q { x with shield := v1 }) 40) (b := o) (.cons .h1 .p1))) ⟨{ x with shield := v1 }, ts2, at2, cardWt x, _, hF.symm, hp2, by omega, by omega, ⟨q, o, rfl, hes, rfl, hnm, fun h => h1 (nin h), fun h => h2 (nin h), fun h => h3 (nin h)⟩, rfl, rfl⟩
end
section
open Wd Tp Kd
theorem zX {P : Program} {rs : List ResultVar} {env : Env} {m m2 : Mp} {L : List Ent} {post ppost : Value → List Ent → Prop} (hl : Le m m2) (vs : List Value) (hv : RvsS P env L rs vs) (L' : List Ent) (hp : Pick L L') (hq : post (tup vs) L') : QS (retP P rs (postS m post) (postS m ppost)) .ret env m2 L :=
 fun h hs => ⟨vs, hv.ok hs, L', hq, (hp m2 h hs).weaken hl⟩
abbrev cardRules (q : List Value) : List (List UInt8 × FuncId × List Value) := [(sPlayed, 60, q), (sDead, 62, q), (sDawn, 63, q), (sAura, 64, q), (sShield, 65, q)]
abbrev clo (f : FuncId) (q : List Value) : Value := .func (.func f) [].toArray q.toArray
theorem cardM (q : List Value) : putM (putM (putM (putM (putM [] sPlayed (clo 60 q)) sDead (clo 62 q)) sDawn (clo 63 q)) sAura (clo 64 q)) sShield (clo 65 q) = ruM (cardRules q) := rfl
theorem cardCl {q : List Value} : ∀ k ∈ cardRules q, callable Tryz.prog k.2.1 = true := fun k hk => by
 simp only [cardRules, List.mem_cons, List.not_mem_nil, or_false] at hk;rcases hk with rfl | rfl | rfl | rfl | rfl
 ·exact cl60
 ·exact cl62
 ·exact cl63
 ·exact cl64
 ·exact cl65
variable {m : Mp} {b c at_ d p : Nat} {A : Option Addr} {ws ts : List Wrd}
theorem cardRs {b2 b4 n : Nat} (hbox : Wc m ⟨b2, 0, none⟩ (ptr b)) (hT : Tabs m) (hw : WsR m A ws) (hcap : ws.length ≤ c) : ∀ k ∈ cardRules [ptr b2, ptr b4], ∀ seen, k.1 ∉ seen → RuC m b A c ws k.2.1 k.2.2 (cardRead n k.1) (CdI b4 seen) (CdI b4 (seen ++ [k.1])) n := fun k hk seen hs => by
 simp only [cardRules, List.mem_cons, List.not_mem_nil, or_false] at hk;rcases hk with rfl | rfl | rfl | rfl | rfl
 ·exact rule60 hbox hT hw hcap hs
 ·exact rule62 hbox hT hw hcap hs
 ·exact rule63 hbox hT hw hcap hs
 ·exact rule64 hbox hw
 ·exact rule65 hbox hw
theorem CdI.pw {b4 : Nat} : ∀ (seen : List (List UInt8)) (x : CardT) (p : Nat) (e : Ent), CdI b4 seen x p e → (200 < p ↔ 200 < cardWt x) := by
 rintro seen x p e ⟨q, o, -, -, rfl, -⟩;exact Iff.rfl
theorem card20 {n : Nat} {at0 : Int} (hT : Tabs m) (hw : WsR m A ws) (hcap : ws.length ≤ c) (hp : Pos ws at_ ts) (hn : ts.length < n) : CSP Tryz.prog 20 [ptr b, .int .i64 at0] m [rd b A c ws at_ 0 p]
  (fun v L' => ∃ x ts' at' p' q e, pCard cardWt n at0 ts = .ok x ts' ∧ Pos ws at' ts' ∧ p' ≤ 200 ∧ v = .agg (CardC.v q x).toArray ∧ L' = [rd b A c ws at' 0 p', e] ∧ x.name.length ≤ 65536 ∧ cardWt x ≤ 200 ∧ ∀ ns, e.inv ns → EffsR ns q.A x.played.length x.played ∧ EffsR ns q.B x.dead.length x.dead ∧ EffsR ns q.D x.dawn.length x.dawn)
  (fun v _ => ∃ e a, pCard cardWt n at0 ts = .bad e a ∧ v = fltV e a) := by
 generalize hF : pCard cardWt n at0 ts = F;unfold pCard at hF;have hsm := hp.small;have hlen := hp.len;refine za [.cell 4 40] Tryz.func20 rfl rfl rfl ?_;refine tr 2 ?_;refine Bx 0 rfl fun b1 => ?_;refine Al 5 zl40 fun b2 => ?_;refine Lb 0 sg54 .h1 ?_;refine Cp cl55 rfl .k2 (fun m' hm he => name55 (hT.mono hm) (hw.mono hm) hp) ?_ ?_
 ·rintro _ _ ⟨e', a', h1, rfl⟩;rw [h1] at hF;exact pn ⟨e', a', hF.symm, rfl⟩
 rintro _ _ ⟨s, ts1, at1, _, h1, hp1, ⟨rfl, rfl⟩, rfl⟩;rw [h1] at hF;dsimp only [R.bind] at hF;have hl1 : 1 + ts1.length ≤ ts.length := (yr (ts := ts)).2 _ _ h1;have hs5 := vD hp h1;clear h1;refine vr 1 ?_;refine Sr 1 co3 .h1 .h11 ?_;refine Sr 5 co9 .h1 .here ?_;refine Lb 0 sg54 .h2 ?_
 refine C1 cl56 rfl .here (fun m' hm he => take56 (s := sUnit) (hw.mono hm) hp1 (asc _ rfl) (by decide)) ?_;rintro _ _ (⟨hk, hp2, rfl, rfl⟩ | ⟨hk, rfl, rfl⟩)
 ·have hlk := zh hk;rw [if_pos hk] at hF;refine vr 6 ?_;refine Sr 4 co4 .h1 .h1 ?_;refine Lb 0 sg54 .h2 ?_;refine Cp cl57 rfl .k0 (fun m' hm he => number57 (hw.mono hm) hp2) ?_ ?_
  ·rintro _ _ ⟨e', a', h1, rfl⟩;rw [h1] at hF;exact pn ⟨e', a', hF.symm, rfl⟩
  rintro _ _ ⟨vc, ts2, at2, _, h1, hp3, ⟨rfl, rfl⟩, rfl⟩;rw [h1] at hF;dsimp only [R.bind] at hF;have hl3 : 1 + ts2.length ≤ ts1.tail.length := (zo (ts := ts1.tail)).2 _ _ h1;clear h1;refine vr 1 ?_;refine Sr 4 co3 .h1 .h2 ?_;refine Lb 0 sg54 .h2 ?_;refine Cp cl57 rfl .k0 (fun m' hm he => number57 (hw.mono hm) hp3) ?_ ?_
  ·rintro _ _ ⟨e', a', h1, rfl⟩;rw [h1] at hF;exact pn ⟨e', a', hF.symm, rfl⟩
  rintro _ _ ⟨vp, ts3, at3, _, h1, hp4, ⟨rfl, rfl⟩, rfl⟩;rw [h1] at hF;dsimp only [R.bind] at hF;have hl4 : 1 + ts3.length ≤ ts2.length := (zo (ts := ts2)).2 _ _ h1;clear h1;refine vr 1 ?_;refine Sr 4 co3 .h1 .h3 ?_;refine Lb 0 sg54 .h2 ?_;refine Bs 0 sl61 fun b3 => ?_
  refine Cp cl58 rfl .k1 (fun m' hm he => must58 (s := sSlash) (hw.mono hm) (Rd.blk (he _ (.head _))) (asc _ rfl) (by decide) hp4) ?_ ?_
  ·rintro _ _ ⟨e', a', h1, rfl⟩;rw [h1] at hF;exact pn ⟨e', a', hF.symm, rfl⟩
  rintro _ _ ⟨_, ts4, at4, _, h1, hp5, ⟨rfl, rfl⟩, rfl⟩;rw [h1] at hF;dsimp only [R.bind] at hF;have hl5 : 1 + ts4.length ≤ ts3.length := (zL (s := sSlash) (ts := ts3)).2 _ _ h1;clear h1;refine vr 3 ?_;refine Lb 0 sg54 .h3 ?_;refine Cp cl57 rfl .k0 (fun m' hm he => number57 (hw.mono hm) hp5) ?_ ?_
  ·rintro _ _ ⟨e', a', h1, rfl⟩;rw [h1] at hF;exact pn ⟨e', a', hF.symm, rfl⟩
  rintro _ _ ⟨vh, ts5, at5, _, h1, hp6, ⟨rfl, rfl⟩, rfl⟩;rw [h1] at hF;dsimp only [R.bind] at hF;have hl6 : 1 + ts5.length ≤ ts4.length := (zo (ts := ts4)).2 _ _ h1;clear h1;refine vr 1 ?_;refine Sr 4 co3 .h2 .h4 ?_;refine Lb 2 sg54 .h3 ?_;refine Sr 4 co3 .here .h3 ?_;refine Lb 0 sg54 .h3 ?_;refine zE (vR rfl (fun b4 => ?_)) rfl;refine vr 1 ?_
  refine zE (yf (k := sPlayed) ms108 rfl rfl rfl .here ?_) rfl;refine vr 1 ?_;refine zE (yf (k := sDead) ms108 rfl rfl rfl .here ?_) rfl;refine vr 1 ?_;refine zE (yf (k := sDawn) ms108 rfl rfl rfl .here ?_) rfl;refine vr 1 ?_;refine zE (yf (k := sAura) ms108 rfl rfl rfl .here ?_) rfl;refine vr 1 ?_
  refine zE (yf (k := sShield) ms108 rfl rfl rfl .here ?_) rfl;refine vr 1 ?_;refine up .here (fun ns1 hi1 _ hd1 => ?_);refine up .h3 (fun ns2 hi2 _ hd2 => ?_);have hM : MapAt (uni (uni m ns1) ns2) b4 (ruM (cardRules [ptr b1, ptr b2])) := (show MapAt ns1 b4 (ruM (cardRules [ptr b1, ptr b2])) by rw [← cardM]; exact hi1).mono ((zV hd1).trans (zM _ _))
  have hbx : Wc (uni (uni m ns1) ns2) ⟨b1, 0, none⟩ (ptr b) := (Wc.cel (e := 54) hi2 rfl).mono (zV hd2);have hl2 : Le m (uni (uni m ns1) ns2) := (zM _ _).trans (zM _ _);clear hi1 hi2 hd1 hd2
  refine ql [rd b A c ws at5 0 0, pack [cel b2 (CardC.v ⟨none, 0, none, 0, none, 0⟩ ⟨s, true, vc, vp, vh, 0, 0, 0, [], [], [], at0⟩) 40, pack []]] (.cons .here (Pick.pack2 (.cons .h1 (Pick.nilE (.nil _))))) ?_
  refine Cp cl59 rfl (.cons .here .k0) (fun m' hm he => rules59 (n := n) (parts := cardWt) (read := cardRead n) (I := CdI b2) (hM.mono hm) cardCl (cardRs (hbx.mono hm) (hT.mono (hl2.trans hm)) (hw.mono (hl2.trans hm)) hcap) CdI.pw ⟨⟨none, 0, none, 0, none, 0⟩, pack [], rfl, fun ns _ => ⟨EffsR.z _, EffsR.z _, EffsR.z _⟩, rfl, hs5, fun _ => rfl, fun _ => rfl, fun _ => rfl⟩ (hw.mono (hl2.trans hm)) hp6 (by have := hp6.len; omega) (by omega)) ?_ ?_
  ·rintro _ _ ⟨e', a', h1, rfl⟩;exact pW hl2 ⟨e', a', hF.symm.trans h1, rfl⟩
  rintro _ _ ⟨x, ts9, at9, p9, e9, seen, h1, hp9, h200, ⟨q, o, rfl, hes, rfl, hnm, -, -, -⟩, rfl, rfl⟩;refine ql _ Pick.unpack2 ?_;refine vr 4 ?_;refine Lc 0 ag40 .h1 ?_;refine Sg 3 ag40 .h1 ?_;exact zX hl2 [_] ⟨⟨b2, _, _, _, rfl, .h1, .inr ⟨rfl, rfl⟩⟩, trivial⟩ _ (.cons .here .p1) ⟨x, ts9, at9, _, q, o, hF.symm.trans h1, hp9, h200, rfl, rfl, hnm, h200, hes⟩
 rw [if_neg (by rw [hk]; decide)] at hF;refine vr 5 ?_;refine Lb 0 sg54 .h2 ?_;refine Bs 0 sl61 fun b3 => ?_;refine Cp cl58 rfl .k1 (fun m' hm he => must58 (s := sCharm) (hw.mono hm) (Rd.blk (he _ (.head _))) (asc _ rfl) (by decide) hp1) ?_ ?_
 ·rintro _ _ ⟨e', a', h1, rfl⟩;rw [h1] at hF;exact pn ⟨e', a', hF.symm, rfl⟩
 rintro _ _ ⟨_, ts2, at2, _, h1, hp2, ⟨rfl, rfl⟩, rfl⟩;rw [h1] at hF;dsimp only [R.bind] at hF;have hl2 : 1 + ts2.length ≤ ts1.length := (zL (s := sCharm) (ts := ts1)).2 _ _ h1;clear h1;refine vr 3 ?_;refine Lb 0 sg54 .h3 ?_;refine Cp cl57 rfl .k0 (fun m' hm he => number57 (hw.mono hm) hp2) ?_ ?_
 ·rintro _ _ ⟨e', a', h1, rfl⟩;rw [h1] at hF;exact pn ⟨e', a', hF.symm, rfl⟩
 rintro _ _ ⟨vc, ts3, at3, _, h1, hp3, ⟨rfl, rfl⟩, rfl⟩;rw [h1] at hF;dsimp only [R.bind] at hF;have hl3 : 1 + ts3.length ≤ ts2.length := (zo (ts := ts2)).2 _ _ h1;clear h1;refine vr 1 ?_;refine Sr 4 co3 .h2 .h2 ?_;refine Lb 2 sg54 .h3 ?_;refine Sr 4 co3 .here .h3 ?_;refine Lb 0 sg54 .h3 ?_;refine zE (vR rfl (fun b4 => ?_)) rfl;refine vr 1 ?_
 refine zE (yf (k := sPlayed) ms108 rfl rfl rfl .here ?_) rfl;refine vr 1 ?_;refine zE (yf (k := sDead) ms108 rfl rfl rfl .here ?_) rfl;refine vr 1 ?_;refine zE (yf (k := sDawn) ms108 rfl rfl rfl .here ?_) rfl;refine vr 1 ?_;refine zE (yf (k := sAura) ms108 rfl rfl rfl .here ?_) rfl;refine vr 1 ?_
 refine zE (yf (k := sShield) ms108 rfl rfl rfl .here ?_) rfl;refine vr 1 ?_;refine up .here (fun ns1 hi1 _ hd1 => ?_);refine up .h3 (fun ns2 hi2 _ hd2 => ?_);have hM : MapAt (uni (uni m ns1) ns2) b4 (ruM (cardRules [ptr b1, ptr b2])) := (show MapAt ns1 b4 (ruM (cardRules [ptr b1, ptr b2])) by rw [← cardM]; exact hi1).mono ((zV hd1).trans (zM _ _))
 have hbx : Wc (uni (uni m ns1) ns2) ⟨b1, 0, none⟩ (ptr b) := (Wc.cel (e := 54) hi2 rfl).mono (zV hd2);have hl2 : Le m (uni (uni m ns1) ns2) := (zM _ _).trans (zM _ _);clear hi1 hi2 hd1 hd2
 refine ql [rd b A c ws at3 0 0, pack [cel b2 (CardC.v ⟨none, 0, none, 0, none, 0⟩ ⟨s, false, vc, 0, 0, 0, 0, 0, [], [], [], at0⟩) 40, pack []]] (.cons .here (Pick.pack2 (.cons .h1 (Pick.nilE (.nil _))))) ?_
 refine Cp cl59 rfl (.cons .here .k0) (fun m' hm he => rules59 (n := n) (parts := cardWt) (read := cardRead n) (I := CdI b2) (hM.mono hm) cardCl (cardRs (hbx.mono hm) (hT.mono (hl2.trans hm)) (hw.mono (hl2.trans hm)) hcap) CdI.pw ⟨⟨none, 0, none, 0, none, 0⟩, pack [], rfl, fun ns _ => ⟨EffsR.z _, EffsR.z _, EffsR.z _⟩, rfl, hs5, fun _ => rfl, fun _ => rfl, fun _ => rfl⟩ (hw.mono (hl2.trans hm)) hp3 (by have := hp3.len; omega) (by omega)) ?_ ?_
 ·rintro _ _ ⟨e', a', h1, rfl⟩;exact pW hl2 ⟨e', a', hF.symm.trans h1, rfl⟩
 rintro _ _ ⟨x, ts9, at9, p9, e9, seen, h1, hp9, h200, ⟨q, o, rfl, hes, rfl, hnm, -, -, -⟩, rfl, rfl⟩;refine ql _ Pick.unpack2 ?_;refine vr 4 ?_;refine Lc 0 ag40 .h1 ?_;refine Sg 3 ag40 .h1 ?_;exact zX hl2 [_] ⟨⟨b2, _, _, _, rfl, .h1, .inr ⟨rfl, rfl⟩⟩, trivial⟩ _ (.cons .here .p1) ⟨x, ts9, at9, _, q, o, hF.symm.trans h1, hp9, h200, rfl, rfl, hnm, h200, hes⟩
end
section
open Wd Tp Kd
variable {m : Mp} {b d p : Nat}
theorem qa {d : Nat} {f : Nat → Option (List UInt8)} {g : List UInt8 → List UInt8} : (inP d fun d => (f d).map g) = (inP d f).map g := by
 unfold inP
 split <;> rfl
def NumOk (m : Mp) (b : Nat) (cs : List Value) (x : NumT) : Prop := ∀ m', Le m m' → ∀ (p d : Nat), p ≤ 200 → d ≤ 8 → PrC 111 [ptr b, .agg cs.toArray] m' b p d (numP x d) (numW x)
theorem NumOk.mono {m m' : Mp} {cs : List Value} {x : NumT} (h : NumOk m b cs x) (hl : Le m m') : NumOk m' b cs x := fun m2 h2 => h m2 (hl.trans h2)
abbrev brkT (s : List UInt8) : List UInt8 := sOpen ++ s ++ sClose
variable {op n who : Int} {K : Option Addr} {k kc : Nat} {x y : NumT} {op' n' who' : Int} {K' : Option Addr} {k' kc' : Nat}
abbrev n4 (op n who : Int) (K : Option Addr) (k kc : Nat) : List Value := [.int .i8 op, .int .i64 n, .int .i8 who, .slice K k kc]
theorem qj {r : Option (List UInt8)} {g : List UInt8 → List UInt8} {p w : Nat} (h : r = none ∨ 200 < p + w) : r.map g = none ∨ 200 < p + w := h.imp (fun h => by rw [h]; rfl) id
theorem kid180 {B1 B2 : Nat} (h1 : Rd m (some ⟨B1, 0, none⟩) [ptr b]) (h2 : Rd m (some ⟨B2, 0, none⟩) (n4 op n who K k kc)) (hx : NumOk m b (n4 op n who K k kc) x) (hp : p ≤ 200) (hd : d ≤ 8) : PrC 180 [ptr B1, ptr B2] m b p d ((numP x d).map brkT) (numW x) := by
 have hat : At m ⟨B2, 0, none⟩ (n4 op n who K k kc) := fun i u hi => h2.at_ hi;have hc1 : mc m ⟨B1, 0, none⟩ = some (ptr b) := h1.at_ (i := 0) rfl;refine za [.tmp 2] Tryz.func180 rfl rfl rfl ?_;have hsl : ∀ s, numP x d = some s → s.length ≤ 24 * numW x := fun s hs => xH hs;refine tr 7 ?_;refine Lo 0 sg89 rfl hc1 ?_;refine La 0 ag45 hat ?_
 refine Cp cl111 rfl .k0 (fun m' hm he => hx m' hm p d hp hd) ?_ ?_
 ·rintro _ _ ⟨h1, rfl⟩;exact pn ⟨qj h1, rfl⟩
 rintro _ _ ⟨s, h1, h2, rfl, rfl⟩;have hsl := hsl s h1;refine Ps 0 ?_;refine Ps 4 ?_;exact zb [_] ⟨rfl, trivial⟩ [_] .p0 ⟨_, by rw [h1]; rfl, h2, rfl, rfl⟩
theorem kid168 {br : Bool} (hx : NumOk m b (n4 op n who K k kc) x) (hp : p ≤ 200) (hd : d ≤ 8) : PrC 168 [ptr b, .agg (n4 op n who K k kc).toArray, .bool br] m b p d (brP br d (numP x)) (numW x) := by
 refine za [.tmp 6] Tryz.func168 rfl rfl rfl ?_;cases br with
 | false =>
   refine tr 2 ?_;refine Bx 0 rfl fun b1 => ?_;refine Bx 13 rfl fun b2 => ?_;refine Lb 0 sg89 .h1 ?_;refine Lc 0 ag45 .here ?_;refine Cp cl111 rfl .k2 (fun m' hm he => hx m' hm p d hp hd) ?_ ?_
   ·rintro _ _ ⟨h1, rfl⟩;exact pn ⟨h1, rfl⟩
   rintro _ _ ⟨s, h1, h2, rfl, rfl⟩;refine vr 5 ?_;exact zb [_] ⟨rfl, trivial⟩ [_] .p0 ⟨s, h1, h2, rfl, rfl⟩
 | true =>
   refine tr 2 ?_;refine Bx 0 rfl fun b1 => ?_;refine Bx 14 rfl fun b2 => ?_;refine zG .here (fun ns hi _ hd1 => ?_);refine zG .here (fun ns2 hi2 _ hd2 => ?_);have hR2 : Rd (uni (uni m ns) ns2) (some ⟨b2, 0, none⟩) (n4 op n who K k kc) := ((Rd.blk hi).mono (zV hd1)).mono (zM _ _);have hR1 : Rd (uni (uni m ns) ns2) (some ⟨b1, 0, none⟩) [ptr b] := (Rd.blk hi2).mono (zV hd2)
   have hl2 : Le m (uni (uni m ns) ns2) := (zM _ _).trans (zM _ _);have hc1 : mc (uni (uni m ns) ns2) ⟨b1, 0, none⟩ = some (ptr b) := hR1.at_ (i := 0) rfl;have hx := hx.mono hl2;clear hi hi2 hd1 hd2;refine tr 1 ?_;refine Lo 1 sg89 rfl hc1 ?_
   refine Cp cl113 rfl .k0 (fun m' hm he => within113 (r := fun d => (numP x d).map brkT) (q := [ptr b1, ptr b2]) hd cl180 (fun h8 m2 hm2 => kid180 (hR1.mono (hm.trans hm2)) (hR2.mono (hm.trans hm2)) (hx.mono (hm.trans hm2)) hp h8)) ?_ ?_
   ·rintro _ _ ⟨h1, rfl⟩;rw [qa] at h1;exact pW hl2 ⟨h1, rfl⟩
   rintro _ _ ⟨s, h1, h2, rfl, rfl⟩;rw [qa] at h1;refine vr 4 ?_;exact zX hl2 [_] ⟨rfl, trivial⟩ [_] .p0 ⟨s, h1, h2, rfl, rfl⟩
end
section
open Wd Tp Kd
variable {m : Mp} {b d p : Nat}
variable {op n who : Int} {K : Option Addr} {k kc : Nat} {x y : NumT} {op' n' who' : Int} {K' : Option Addr} {k' kc' : Nat}
theorem inP_put {d : Nat} {f : List UInt8 → List UInt8 → List UInt8} {A B : Nat → Option (List UInt8)} : (inP d fun d => putP f (A d) (B d)) = putP f (inP d A) (inP d B) := by
 unfold inP
 split <;> rfl
theorem xw {f : List UInt8 → List UInt8 → List UInt8} {r1 r2 : Option (List UInt8)} {p w v : Nat} (h : r1 = none ∨ 200 < p + w) : putP f r1 r2 = none ∨ 200 < p + (w + v) := by
 rcases h with h | h
 ·left; rw [h]; rfl
 ·right; omega
theorem yN {f : List UInt8 → List UInt8 → List UInt8} {r1 r2 : Option (List UInt8)} {p w v : Nat} (h : r2 = none ∨ 200 < p + w + v) : putP f r1 r2 = none ∨ 200 < p + (w + v) := by
 rcases h with h | h
 ·left; rw [h]; cases r1 <;> rfl
 ·right; omega
theorem yb {f : List UInt8 → List UInt8 → List UInt8} {r1 r2 : Option (List UInt8)} {s t : List UInt8} (h1 : r1 = some s) (h2 : r2 = some t) : putP f r1 r2 = some (f s t) := by rw [h1, h2]; rfl
theorem minT_eq (w s t : List UInt8) : w ++ [40] ++ s ++ [44, 32] ++ t ++ [41] = minT w s t := by simp [minT]
theorem qN (w s t : List UInt8) : s ++ (32 :: w ++ [32]) ++ t = sgnT w s t := by simp [sgnT]
theorem yp {x : NumT} {d : Nat} {s : List UInt8} (h : numP x d = some s) (hp : p + numW x ≤ 200) : s.length ≤ 4800 := by
 have := xH h;omega
theorem uH {x : NumT} {br : Bool} {d : Nat} {s : List UInt8} (h : brP br d (numP x) = some s) (hp : p + numW x ≤ 200) : s.length ≤ 4810 := by
 have := wC (c := 0) (w := 24 * numW x) (fun d s h => xH h) h;omega
theorem both167 {w : List UInt8} {B1 B2 B3 B4 : Nat} (h1 : Rd m (some ⟨B1, 0, none⟩) [ptr b]) (h2 : Rd m (some ⟨B2, 0, none⟩) (n4 op n who K k kc)) (h3 : Rd m (some ⟨B3, 0, none⟩) [.string (bs w)]) (h4 : Rd m (some ⟨B4, 0, none⟩) (n4 op' n' who' K' k' kc'))
  (hx : NumOk m b (n4 op n who K k kc) x) (hy : NumOk m b (n4 op' n' who' K' k' kc') y) (hw : w.length ≤ 10) (hp : p ≤ 200) (hd : d ≤ 8) : PrC 167 [ptr B1, ptr B2, ptr B3, ptr B4] m b p d (putP (minT w) (numP x d) (numP y d)) (numW x + numW y) := by
 have hat : At m ⟨B2, 0, none⟩ (n4 op n who K k kc) := fun i u hi => h2.at_ hi;have hat4 : At m ⟨B4, 0, none⟩ (n4 op' n' who' K' k' kc') := fun i u hi => h4.at_ hi;have hc1 : mc m ⟨B1, 0, none⟩ = some (ptr b) := h1.at_ (i := 0) rfl;have hc3 : mc m ⟨B3, 0, none⟩ = some (.string (bs w)) := h3.at_ (i := 0) rfl;skip;refine za [.tmp 4] Tryz.func167 rfl rfl rfl ?_;refine tr 7 ?_
 refine Lo 0 sg89 rfl hc1 ?_;refine La 0 ag45 hat ?_;refine Cp cl111 rfl .k0 (fun m' hm he => hx m' hm p d hp hd) ?_ ?_
 ·rintro _ _ ⟨h1, rfl⟩;exact pn ⟨xw h1, rfl⟩
 rintro _ _ ⟨s, h1, h2, rfl, rfl⟩;have hsl := yp h1 h2;refine vr 4 ?_;refine Db (sq [0, 1, 2, 3, 4, 5, 6, 107, 8, 9, 10] .done) ?_;refine Vr 0 rfl (zF sg9 rfl hc3) ?_;refine Vs 1 rfl ?_;refine Vs 0 rfl ?_;refine Vs 0 rfl ?_;refine Vr 0 rfl (zF sg89 rfl hc1) ?_;refine Vr 0 rfl (zJ ag45 rfl rfl hat4) ?_
 refine zA rfl ((zR cl111 rfl .k0 (fun m' hm he => hy m' hm (p + numW x) d h2 hd) rfl ?_ ?_)) rfl
 ·rintro _ _ ⟨h3, rfl⟩;exact pn ⟨yN h3, rfl⟩
 rintro _ _ ⟨t, h3, h4, rfl, rfl⟩;have htl := yp h3 h4;refine Vs 0 rfl ?_;refine Vs 1 rfl ?_;refine Vn 2 ?_;rw [minT_eq, Nat.add_assoc];exact zb [_] ⟨rfl, trivial⟩ [_] .p0 ⟨_, yb h1 h3, by omega, rfl, rfl⟩
theorem both166 {w : List UInt8} {B1 B2 B4 : Nat} (h1 : Rd m (some ⟨B1, 0, none⟩) [ptr b]) (h2 : Rd m (some ⟨B2, 0, none⟩) (n4 op n who K k kc)) (h4 : Rd m (some ⟨B4, 0, none⟩) (n4 op' n' who' K' k' kc'))
  (hx : NumOk m b (n4 op n who K k kc) x) (hy : NumOk m b (n4 op' n' who' K' k' kc') y) (hw : w.length ≤ 10) (hp : p ≤ 200) (hd : d ≤ 8) : PrC 166 [.string (bs w), ptr B1, ptr B2, ptr B4] m b p d (putP (minT w) (inP d (numP x)) (inP d (numP y))) (numW x + numW y) := by
 have hc1 : mc m ⟨B1, 0, none⟩ = some (ptr b) := h1.at_ (i := 0) rfl;refine za [.tmp 5] Tryz.func166 rfl rfl rfl ?_;rw [← inP_put];refine tr 2 ?_;refine Bx 4 rfl fun b1 => ?_;refine zG .here (fun ns hi _ hd1 => ?_);have hR : Rd (uni m ns) (some ⟨b1, 0, none⟩) [.string (bs w)] := (Rd.blk hi).mono (zV hd1);have hl2 : Le m (uni m ns) := zM _ _;have hc1 := zq hl2 hc1;clear hi hd1
 refine tr 1 ?_;refine Lo 1 sg89 rfl hc1 ?_;refine Cp cl113 rfl .k0 (fun m' hm he => within113 (r := fun d => putP (minT w) (numP x d) (numP y d)) (q := [ptr B1, ptr B2, ptr b1, ptr B4]) hd cl167 (fun h8 m2 hm2 => have hl := hl2.trans (hm.trans hm2); both167 (h1.mono hl) (h2.mono hl) (hR.mono (hm.trans hm2)) (h4.mono hl) (hx.mono hl) (hy.mono hl) hw hp h8)) ?_ ?_
 ·rintro _ _ ⟨h3, rfl⟩;exact pW hl2 ⟨h3, rfl⟩
 rintro _ _ ⟨t, h3, h4, rfl, rfl⟩;refine vr 4 ?_;exact zX hl2 [_] ⟨rfl, trivial⟩ [_] .p0 ⟨t, h3, h4, rfl, rfl⟩
theorem UP {x y : NumT} {d : Nat} : twoP 11 x y d = putP (minT sMin) (inP d (numP x)) (inP d (numP y)) := rfl
theorem UQ {x y : NumT} {d : Nat} : twoP 12 x y d = putP (minT sMax) (inP d (numP x)) (inP d (numP y)) := rfl
theorem UO {x y : NumT} {d : Nat} : twoP 10 x y d = putP (sgnT sStar) (brP (isSum x) d (numP x)) (brP (isSum y || decide (opN y = 10)) d (numP y)) := rfl
theorem UR {x y : NumT} {d : Nat} : twoP 8 x y d = putP (sgnT sPlus) (numP x d) (brP (isSum y) d (numP y)) := rfl
theorem UN {x y : NumT} {d : Nat} : twoP 9 x y d = putP (sgnT sMinus) (numP x d) (brP (isSum y) d (numP y)) := rfl
theorem two143 {o : Int} (hx : NumOk m b (n4 op n who K k kc) x) (hy : NumOk m b (n4 op' n' who' K' k' kc') y) (hox : opN x = op) (hoy : opN y = op') (ho : 8 ≤ o ∧ o ≤ 12) (hp : p ≤ 200) (hd : d ≤ 8) :
  PrC 143 [ptr b, .int .i8 o, .agg (n4 op n who K k kc).toArray, .agg (n4 op' n' who' K' k' kc').toArray] m b p d (twoP o x y d) (numW x + numW y) := by
 skip;refine za [.tmp 8] Tryz.func143 rfl rfl rfl ?_;refine tr 2 ?_;refine Bx 0 rfl fun b1 => ?_;refine Bx 0 rfl fun b2 => ?_;refine Bx 4 rfl fun b3 => ?_;refine zG .here (fun ns hi _ hd1 => ?_);refine zG .here (fun ns2 hi2 _ hd2 => ?_);refine zG .here (fun ns3 hi3 _ hd3 => ?_)
 have hR3 : Rd (uni (uni (uni m ns) ns2) ns3) (some ⟨b3, 0, none⟩) (n4 op' n' who' K' k' kc') := (((Rd.blk hi).mono (zV hd1)).mono (zM _ _)).mono (zM _ _);have hR2 : Rd (uni (uni (uni m ns) ns2) ns3) (some ⟨b2, 0, none⟩) (n4 op n who K k kc) := ((Rd.blk hi2).mono (zV hd2)).mono (zM _ _)
 have hR1 : Rd (uni (uni (uni m ns) ns2) ns3) (some ⟨b1, 0, none⟩) [ptr b] := (Rd.blk hi3).mono (zV hd3);have hl2 : Le m (uni (uni (uni m ns) ns2) ns3) := (zM _ _).trans ((zM _ _).trans (zM _ _));clear hi hi2 hi3 hd1 hd2 hd3;have hx := hx.mono hl2;have hy := hy.mono hl2;generalize uni (uni (uni m ns) ns2) ns3 = m9 at hR1 hR2 hR3 hl2 hx hy
 have hat2 : At m9 ⟨b2, 0, none⟩ (n4 op n who K k kc) := fun i u hi => hR2.at_ hi;have hat3 : At m9 ⟨b3, 0, none⟩ (n4 op' n' who' K' k' kc') := fun i u hi => hR3.at_ hi;have hc1 : mc m9 ⟨b1, 0, none⟩ = some (ptr b) := hR1.at_ (i := 0) rfl;have hc3 : mc m9 ⟨b3, 0, none⟩ = some (.int .i8 op') := hR3.at_ (i := 0) rfl
 have hsx : (decide (op = 8) || decide (op = 9)) = isSum x := by unfold isSum; rw [hox]
 have hsy : (decide (op' = 8) || decide (op' = 9)) = isSum y := by unfold isSum; rw [hoy]
 have h5 : o = 11 ∨ o = 12 ∨ o = 10 ∨ o = 8 ∨ o = 9 := by omega
 rcases h5 with rfl | h5
 ·rw [UP];refine tr 14 ?_;refine ctr 7 ?_;refine zE ((yl (p := []) (q := [ptr b1, ptr b2, ptr b3]) (vs := [.string (bs sMin)]) cl166 rfl rfl .k0 (fun m' hm he => both166 (w := sMin) (hR1.mono hm) (hR2.mono hm) (hR3.mono hm) (hx.mono hm) (hy.mono hm) (by decide) hp hd) rfl ?_ ?_)) rfl
  ·rintro _ _ ⟨h3, rfl⟩;exact pW hl2 ⟨h3, rfl⟩
  rintro _ _ ⟨t, h3, h4, rfl, rfl⟩;refine vr 6 ?_;exact zX hl2 [_] ⟨rfl, trivial⟩ [_] .p0 ⟨t, h3, h4, rfl, rfl⟩
 rcases h5 with rfl | h5
 ·rw [UQ];refine tr 14 ?_;refine cfo 6 ?_;refine ctr 7 ?_;refine zE ((yl (p := []) (q := [ptr b1, ptr b2, ptr b3]) (vs := [.string (bs sMax)]) cl166 rfl rfl .k0 (fun m' hm he => both166 (w := sMax) (hR1.mono hm) (hR2.mono hm) (hR3.mono hm) (hx.mono hm) (hy.mono hm) (by decide) hp hd) rfl ?_ ?_)) rfl
  ·rintro _ _ ⟨h3, rfl⟩;exact pW hl2 ⟨h3, rfl⟩
  rintro _ _ ⟨t, h3, h4, rfl, rfl⟩;refine vr 6 ?_;exact zX hl2 [_] ⟨rfl, trivial⟩ [_] .p0 ⟨t, h3, h4, rfl, rfl⟩
 rcases h5 with rfl | h5
 ·rw [UO];refine tr 14 ?_;refine cfo 6 ?_;refine cfo 6 ?_;refine ctr 5 ?_;refine Db (sq [0, 1, 2, 103, 104, 5] .done) ?_;refine Vr 0 rfl (zF sg89 rfl hc1) ?_;refine Vr 0 rfl (zJ ag45 rfl rfl hat2) ?_;refine Vr 0 rfl (zJ ag45 rfl rfl hat2) ?_;refine zA rfl (zl cl169 rfl (fun m' hm he => sum169) rfl ?_) rfl;rintro _ rfl;rw [hsx];skip
  refine zA rfl ((zR cl168 rfl .k0 (fun m' hm he => kid168 (br := isSum x) (hx.mono hm) hp hd) rfl ?_ ?_)) rfl
  ·rintro _ _ ⟨h1, rfl⟩;exact pW hl2 ⟨xw h1, rfl⟩
  rintro _ _ ⟨s, h1, h2, rfl, rfl⟩;have hsl := uH h1 h2;cases hsum : isSum y with
  | true =>
    rw [hsum] at hsy;refine vB 1 ?_;refine Vn 2 ?_;refine Db (sq [0, 1, 2, 3, 4, 105, 6, 7, 8, 9, 10, 111, 12, 13] .done) ?_;refine vB 1 ?_;refine Vs 0 rfl ?_;refine Vr 0 rfl (zF sg89 rfl hc1) ?_;refine Vr 0 rfl (zJ ag45 rfl rfl hat3) ?_;refine Vr 0 rfl (zJ ag45 rfl rfl hat3) ?_;refine zA rfl (zl cl169 rfl (fun m' hm he => sum169) rfl ?_) rfl;rintro _ rfl;rw [hsy]
    refine vB 5 ?_;refine zA rfl ((zR cl168 rfl .k0 (fun m' hm he => kid168 (br := true) (hy.mono hm) h2 hd) rfl ?_ ?_)) rfl
    ·rintro _ _ ⟨h3, rfl⟩;exact pW hl2 ⟨yN h3, rfl⟩
    rintro _ _ ⟨t, h3, h4, rfl, rfl⟩;have htl := uH h3 h4;refine Vs 1 rfl ?_;refine Vn 4 ?_;have e2 : s ++ [32, 42, 32] ++ t = sgnT sStar s t := qN sStar s t;rw [e2, Nat.add_assoc];exact zX hl2 [_] ⟨rfl, trivial⟩ [_] .p0 ⟨_, yb h1 h3, by omega, rfl, rfl⟩
  | false =>
    rw [hsum] at hsy;by_cases h10 : op' = 10
    ·rw [hoy, decide_eq_true h10];refine vB 1 ?_;refine Vn 2 ?_;refine Db (sq [0, 1, 2, 3, 4, 105, 6, 7, 8, 9, 10, 111, 12, 13] .done) ?_;refine vB 1 ?_;refine Vs 0 rfl ?_;refine Vr 0 rfl (zF sg89 rfl hc1) ?_;refine Vr 0 rfl (zJ ag45 rfl rfl hat3) ?_;refine Vr 0 rfl (zJ ag45 rfl rfl hat3) ?_;refine zA rfl (zl cl169 rfl (fun m' hm he => sum169) rfl ?_) rfl;rintro _ rfl
     rw [hsy];refine vB 2 ?_;refine Vr 0 rfl (zF sg42 rfl hc3) ?_;refine Vb 1 rfl (dt (yn rfl rfl) (by assumption)) ?_;refine zA rfl ((zR cl168 rfl .k0 (fun m' hm he => kid168 (br := true) (hy.mono hm) h2 hd) rfl ?_ ?_)) rfl
     ·rintro _ _ ⟨h3, rfl⟩;exact pW hl2 ⟨yN h3, rfl⟩
     rintro _ _ ⟨t, h3, h4, rfl, rfl⟩;have htl := uH h3 h4;refine Vs 1 rfl ?_;refine Vn 4 ?_;have e2 : s ++ [32, 42, 32] ++ t = sgnT sStar s t := qN sStar s t;rw [e2, Nat.add_assoc];exact zX hl2 [_] ⟨rfl, trivial⟩ [_] .p0 ⟨_, yb h1 h3, by omega, rfl, rfl⟩
    ·rw [hoy, decide_eq_false h10];refine vB 1 ?_;refine Vn 2 ?_;refine Db (sq [0, 1, 2, 3, 4, 105, 6, 7, 8, 9, 10, 111, 12, 13] .done) ?_;refine vB 1 ?_;refine Vs 0 rfl ?_;refine Vr 0 rfl (zF sg89 rfl hc1) ?_;refine Vr 0 rfl (zJ ag45 rfl rfl hat3) ?_;refine Vr 0 rfl (zJ ag45 rfl rfl hat3) ?_;refine zA rfl (zl cl169 rfl (fun m' hm he => sum169) rfl ?_) rfl;rintro _ rfl
     rw [hsy];refine vB 2 ?_;refine Vr 0 rfl (zF sg42 rfl hc3) ?_;refine Vb 1 rfl (df (yn rfl rfl) (by assumption)) ?_;refine zA rfl ((zR cl168 rfl .k0 (fun m' hm he => kid168 (br := false) (hy.mono hm) h2 hd) rfl ?_ ?_)) rfl
     ·rintro _ _ ⟨h3, rfl⟩;exact pW hl2 ⟨yN h3, rfl⟩
     rintro _ _ ⟨t, h3, h4, rfl, rfl⟩;have htl := uH h3 h4;refine Vs 1 rfl ?_;refine Vn 4 ?_;have e2 : s ++ [32, 42, 32] ++ t = sgnT sStar s t := qN sStar s t;rw [e2, Nat.add_assoc];exact zX hl2 [_] ⟨rfl, trivial⟩ [_] .p0 ⟨_, yb h1 h3, by omega, rfl, rfl⟩
 rcases h5 with rfl | rfl
 ·rw [UR];refine tr 14 ?_;refine cfo 6 ?_;refine cfo 6 ?_;refine cfo 16 ?_;refine cfo 7 ?_;refine Lo 0 sg89 rfl hc1 ?_;refine La 0 ag45 hat2 ?_;refine Cp cl168 rfl .k0 (fun m' hm he => kid168 (br := false) (hx.mono hm) hp hd) ?_ ?_
  ·rintro _ _ ⟨h1, rfl⟩;exact pW hl2 ⟨xw h1, rfl⟩
  rintro _ _ ⟨s, h1, h2, rfl, rfl⟩;have hsl := uH h1 h2;refine vr 4 ?_;refine Db (sq [0, 1, 2, 3, 4, 5, 106, 107, 8, 9] .done) ?_;refine vB 2 ?_;refine Vs 0 rfl ?_;refine Vr 0 rfl (zF sg89 rfl hc1) ?_;refine Vr 0 rfl (zJ ag45 rfl rfl hat3) ?_;refine Vr 0 rfl (zJ ag45 rfl rfl hat3) ?_;refine zA rfl (zl cl169 rfl (fun m' hm he => sum169) rfl ?_) rfl;rintro _ rfl
  rw [hsy];skip;refine zA rfl ((zR cl168 rfl .k0 (fun m' hm he => kid168 (br := isSum y) (hy.mono hm) h2 hd) rfl ?_ ?_)) rfl
  ·rintro _ _ ⟨h3, rfl⟩;exact pW hl2 ⟨yN h3, rfl⟩
  rintro _ _ ⟨t, h3, h4, rfl, rfl⟩;have htl := uH h3 h4;refine Vs 1 rfl ?_;refine Vn 2 ?_;have e2 : s ++ [32, 43, 32] ++ t = sgnT sPlus s t := qN sPlus s t;rw [e2, Nat.add_assoc];exact zX hl2 [_] ⟨rfl, trivial⟩ [_] .p0 ⟨_, yb h1 h3, by omega, rfl, rfl⟩
 ·rw [UN];refine tr 14 ?_;refine cfo 6 ?_;refine cfo 6 ?_;refine cfo 16 ?_;refine ctr 9 ?_;refine Lo 0 sg89 rfl hc1 ?_;refine La 0 ag45 hat2 ?_;refine Cp cl168 rfl .k0 (fun m' hm he => kid168 (br := false) (hx.mono hm) hp hd) ?_ ?_
  ·rintro _ _ ⟨h1, rfl⟩;exact pW hl2 ⟨xw h1, rfl⟩
  rintro _ _ ⟨s, h1, h2, rfl, rfl⟩;have hsl := uH h1 h2;refine vr 4 ?_;refine Db (sq [0, 1, 2, 3, 4, 5, 106, 107, 8, 9] .done) ?_;refine vB 2 ?_;refine Vs 0 rfl ?_;refine Vr 0 rfl (zF sg89 rfl hc1) ?_;refine Vr 0 rfl (zJ ag45 rfl rfl hat3) ?_;refine Vr 0 rfl (zJ ag45 rfl rfl hat3) ?_;refine zA rfl (zl cl169 rfl (fun m' hm he => sum169) rfl ?_) rfl;rintro _ rfl
  rw [hsy];skip;refine zA rfl ((zR cl168 rfl .k0 (fun m' hm he => kid168 (br := isSum y) (hy.mono hm) h2 hd) rfl ?_ ?_)) rfl
  ·rintro _ _ ⟨h3, rfl⟩;exact pW hl2 ⟨yN h3, rfl⟩
  rintro _ _ ⟨t, h3, h4, rfl, rfl⟩;have htl := uH h3 h4;refine Vs 1 rfl ?_;refine Vn 2 ?_;have e2 : s ++ [32, 45, 32] ++ t = sgnT sMinus s t := qN sMinus s t;rw [e2, Nat.add_assoc];exact zX hl2 [_] ⟨rfl, trivial⟩ [_] .p0 ⟨_, yb h1 h3, by omega, rfl, rfl⟩
end
end Go.Proofs.YtpgiokjfkcddeaaGreatDoor
namespace Go.Proofs
open Go.Shelf
def Tryz.lays156_ren : Go.Shelf.Ren := ⟨fun | 156 => 89 | 165 => 106 | 166 => 36 | 169 => 38 | 240 => 88 | 241 => 136 | 276 => 105 | 277 => 158 | n => n, fun | 31 => 61 | 9 => 9 | 3 => 3 | 4 => 4 | 0 => 0 | 20 => 20 | 72 => 76 | 76 => 80 | 70 => 73 | 37 => 74 | 75 => 79 | 127 => 124 | 164 => 135 | 5 => 5 | 80 => 84 | n => n, fun | n => n⟩
theorem Tryz.lays156 : Go.Proofs.Lays.n156 Tryz.prog Tryz.lays156_ren := {
 mixed := by kernel_rfl
 f156 := Tryz.func89.trans (congrArg some (by kernel_rfl))
 f165 := Tryz.func106.trans (congrArg some (by kernel_rfl))
 f166 := Tryz.func36.trans (congrArg some (by kernel_rfl))
 f169 := Tryz.func38.trans (congrArg some (by kernel_rfl))
 f240 := Tryz.func88.trans (congrArg some (by kernel_rfl))
 f241 := Tryz.func136.trans (congrArg some (by kernel_rfl))
 f276 := Tryz.func105.trans (congrArg some (by kernel_rfl))
 f277 := Tryz.func158.trans (congrArg some (by kernel_rfl))
 t0 := Tryz.underlying0
 a0 := Tryz.isAgg0
 z0 := Tryz.sizeOf0
 v0 := Tryz.zeroValue0
 t3 := Tryz.underlying3
 a3 := Tryz.isAgg3
 z3 := Tryz.sizeOf3
 v3 := Tryz.zeroValue3
 t4 := Tryz.underlying4
 a4 := Tryz.isAgg4
 z4 := Tryz.sizeOf4
 v4 := Tryz.zeroValue4
 t9 := Tryz.underlying9
 a9 := Tryz.isAgg9
 z9 := Tryz.sizeOf9
 v9 := Tryz.zeroValue9
 t20 := Tryz.underlying20
 a20 := Tryz.isAgg20
 z20 := Tryz.sizeOf20
 v20 := Tryz.zeroValue20
 t31 := Tryz.underlying61
 a31 := Tryz.isAgg61
 z31 := Tryz.sizeOf61
 v31 := Tryz.zeroValue61
 t37 := Tryz.underlying74
 a37 := Tryz.isAgg74
 z37 := Tryz.sizeOf74
 v37 := Tryz.zeroValue74
 t70 := Tryz.underlying73
 a70 := Tryz.isAgg73
 z70 := Tryz.sizeOf73
 v70 := Tryz.zeroValue73
 t72 := Tryz.underlying76
 a72 := Tryz.isAgg76
 z72 := Tryz.sizeOf76
 v72 := Tryz.zeroValue76
 t75 := Tryz.underlying79
 a75 := Tryz.isAgg79
 z75 := Tryz.sizeOf79
 v75 := Tryz.zeroValue79
 t76 := Tryz.underlying80
 a76 := Tryz.isAgg80
 z76 := Tryz.sizeOf80
 v76 := Tryz.zeroValue80
 t127 := Tryz.underlying124
 a127 := Tryz.isAgg124
 z127 := Tryz.sizeOf124
 v127 := Tryz.zeroValue124
 t164 := Tryz.underlying135
 a164 := Tryz.isAgg135
 z164 := Tryz.sizeOf135
 v164 := Tryz.zeroValue135 }
def Tryz.laysM171_ren : Go.Shelf.Ren := ⟨fun | 171 => 43 | 243 => 93 | 246 => 108 | 283 => 138 | 284 => 139 | 285 => 140 | 286 => 141 | 129 => 162 | 317 => 161 | 318 => 163 | 319 => 164 | 320 => 165 | 337 => 178 | 338 => 179 | n => n, fun | 3 => 3 | 9 => 9 | 2 => 2 | 4 => 4 | 171 => 157 | 0 => 0 | 53 => 158 | 37 => 74 | 5 => 5 | 173 => 161 | 212 => 176 | 51 => 177 | 20 => 20 | 213 => 178 | 46 => 132 | 232 => 200 | 233 => 201 | n => n, fun | 17 => 3 | 18 => 6 | 19 => 7 | n => n⟩
theorem Tryz.laysM171 : Go.Proofs.LaysM.n171 Tryz.prog Tryz.laysM171_ren := {
 mixed := by kernel_rfl
 f129 := Tryz.func162.trans (congrArg some (by kernel_rfl))
 f171 := Tryz.func43.trans (congrArg some (by kernel_rfl))
 f243 := Tryz.func93.trans (congrArg some (by kernel_rfl))
 f246 := Tryz.func108.trans (congrArg some (by kernel_rfl))
 f283 := Tryz.func138.trans (congrArg some (by kernel_rfl))
 f284 := Tryz.func139.trans (congrArg some (by kernel_rfl))
 f285 := Tryz.func140.trans (congrArg some (by kernel_rfl))
 f286 := Tryz.func141.trans (congrArg some (by kernel_rfl))
 f317 := Tryz.func161.trans (congrArg some (by kernel_rfl))
 f318 := Tryz.func163.trans (congrArg some (by kernel_rfl))
 f319 := Tryz.func164.trans (congrArg some (by kernel_rfl))
 f320 := Tryz.func165.trans (congrArg some (by kernel_rfl))
 f337 := Tryz.func178.trans (congrArg some (by kernel_rfl))
 f338 := Tryz.func179.trans (congrArg some (by kernel_rfl))
 t0 := Tryz.underlying0
 a0 := Tryz.isAgg0
 z0 := Tryz.sizeOf0
 v0 := Tryz.zeroValue0
 t2 := Tryz.underlying2
 a2 := Tryz.isAgg2
 z2 := Tryz.sizeOf2
 v2 := Tryz.zeroValue2
 t3 := Tryz.underlying3
 a3 := Tryz.isAgg3
 z3 := Tryz.sizeOf3
 v3 := Tryz.zeroValue3
 t4 := Tryz.underlying4
 a4 := Tryz.isAgg4
 z4 := Tryz.sizeOf4
 v4 := Tryz.zeroValue4
 t5 := Tryz.underlying5
 a5 := Tryz.isAgg5
 z5 := Tryz.sizeOf5
 v5 := Tryz.zeroValue5
 t9 := Tryz.underlying9
 a9 := Tryz.isAgg9
 z9 := Tryz.sizeOf9
 v9 := Tryz.zeroValue9
 t20 := Tryz.underlying20
 a20 := Tryz.isAgg20
 z20 := Tryz.sizeOf20
 v20 := Tryz.zeroValue20
 t37 := Tryz.underlying74
 a37 := Tryz.isAgg74
 z37 := Tryz.sizeOf74
 v37 := Tryz.zeroValue74
 t46 := Tryz.underlying132
 a46 := Tryz.isAgg132
 z46 := Tryz.sizeOf132
 v46 := Tryz.zeroValue132
 t51 := Tryz.underlying177
 a51 := Tryz.isAgg177
 z51 := Tryz.sizeOf177
 v51 := Tryz.zeroValue177
 t53 := Tryz.underlying158
 a53 := Tryz.isAgg158
 z53 := Tryz.sizeOf158
 v53 := Tryz.zeroValue158
 t171 := Tryz.underlying157
 a171 := Tryz.isAgg157
 z171 := Tryz.sizeOf157
 v171 := Tryz.zeroValue157
 t173 := Tryz.underlying161
 a173 := Tryz.isAgg161
 z173 := Tryz.sizeOf161
 v173 := Tryz.zeroValue161
 t212 := Tryz.underlying176
 a212 := Tryz.isAgg176
 z212 := Tryz.sizeOf176
 v212 := Tryz.zeroValue176
 t213 := Tryz.underlying178
 a213 := Tryz.isAgg178
 z213 := Tryz.sizeOf178
 t232 := Tryz.underlying200
 a232 := Tryz.isAgg200
 z232 := Tryz.sizeOf200
 v232 := Tryz.zeroValue200
 t233 := Tryz.underlying201
 a233 := Tryz.isAgg201
 z233 := Tryz.sizeOf201
 v233 := Tryz.zeroValue201
 g17 := by kernel_rfl
 g18 := by kernel_rfl
 g19 := by kernel_rfl
 i0 := by kernel_rfl
 i2 := by kernel_rfl
 i3 := by kernel_rfl
 i4 := by kernel_rfl
 i5 := by kernel_rfl
 i9 := by kernel_rfl
 i20 := by kernel_rfl
 i37 := by kernel_rfl
 i46 := by kernel_rfl
 i51 := by kernel_rfl
 i53 := by kernel_rfl
 i171 := by kernel_rfl
 i173 := by kernel_rfl
 i212 := by kernel_rfl
 i232 := by kernel_rfl
 i233 := by kernel_rfl
 m17 := by kernel_rfl
 m18 := by kernel_rfl
 m19 := by kernel_rfl }
theorem Tryz.extra156 : Builder.Extra Tryz.prog Tryz.lays156_ren := {
 sizeBuilder := by kernel_rfl
 liesBuilder := by kernel_rfl
 t5 := Tryz.underlying5
 a5 := Tryz.isAgg5
 z5 := Tryz.sizeOf5
 v5 := Tryz.zeroValue5
 infoByte := by kernel_rfl
 cellsByte := by kernel_rfl
 sizeByte := by kernel_rfl
 neB5 := by decide }
end Go.Proofs
namespace Go.Proofs.YtpgiokjfkcddeaaGreatDoor
open  Go.Eng
section
open Wd Tp Kd Go.RowKit
def TabI (m : Mp) : Prop := ∀ w : World, Le m (mp w.heap) → Lib.TabIs Tryz.prog w "internal/strconv.uint64pow10" .u64 Lib.pow10Tab
theorem TabI.mono {m m' : Mp} (h : TabI m) (hl : Le m m') : TabI m' := fun w hw => h w (hl.trans hw)
theorem km {P : Program} {f : FuncId} {args : List Value} {m : Mp} {v : Value} (hc : ∀ w : World, Le m (mp w.heap) → Calls P f args.toArray w fun e w' => e = .returned v ∧ Below w.heap.size w w') :
  CS P f args m [] (Gives v) := fun h hs =>
 (Za (v := v) fun w hw => hc w (by rw [hw]; exact hs.base)).mono fun _ _ ⟨h1, h2⟩ => ⟨[], ⟨h1, rfl⟩, HS.nil (hs.base.trans h2)⟩
theorem z8 {m : Mp} (hT : TabI m) {n : Int} (h0 : -9223372036854775808 ≤ n) (h1 : n ≤ 9223372036854775807) : CS Tryz.prog 43 [Value.int .i64 n] m [] (Gives (strV (Lib.itoa n))) := by
 refine km fun w hw => ?_;refine (Any.strconv_Itoa Tryz.laysM171 n h0 h1 w (hT w hw)).mono ?_;rintro e w' ⟨he, k, os, rfl⟩;exact ⟨he, rfl, rfl, rfl, by simp [Sort.grow], fun i hi => by simp [Sort.grow, World.heap_drewN, Array.getElem?_append, hi]⟩
theorem Join_ok {m : Mp} {A : Option Addr} {c : Nat} {xs : List (List UInt8)} {sep : List UInt8} (hx : Rd m A (xs.map strV)) (hc : xs.length ≤ c) (hl : (Lib.join xs sep).length ≤ 140737488355328) (hn : xs.length ≤ 140737488355328) : CS Tryz.prog 89 [.slice A xs.length c, strV sep] m [] (Gives (strV (Lib.join xs sep))) := by
 refine km fun w hw => ?_;have hm := hx.mono hw
 match xs, hm, hc, hl, hn with
 | [], _, _, _, _ =>
   refine (Any.strings_Join_none Tryz.lays156 Tryz.extra156 A c (bs sep) w).mono ?_;rintro e w' ⟨he, rfl⟩;exact ⟨he, Below.refl _ _⟩
 | x :: r, hm, hc, hl, hn =>
   obtain ⟨hA, h0⟩ := hm 0 (strV x) rfl;obtain ⟨⟨bk, o, z⟩, rfl⟩ := Option.isSome_iff_exists.1 hA
   have hz : z = none := by
    cases z with
    | none => rfl
    | some s =>
      have h0' : mc (mp w.heap) ((⟨bk, o, some s⟩ : Addr).add 0) = some (strV x) := h0;unfold mc at h0'
      split at h0'
      ·simp [Addr.add] at h0'
      ·cases h0'
   subst hz
   have hcell : ∀ (j : Nat) y, (x :: r)[j]? = some y → w.cell? ⟨bk, o + j, none⟩ = some (strV y) := fun j y hj => by
    have := (hm j (strV y) (by rw [List.getElem?_map, hj]; rfl)).2;rw [xh, ← Addr.add_lit];exact this
   have hlt : bk < w.heap.size := by
    have := hcell 0 x rfl;rw [xh] at this;unfold mc at this
    split at this
    ·rename_i c0 _ _ hb
     exact xI hb
    ·cases this
   match r, hm, hc, hl, hn with
   | [], _, _, _, _ =>
     refine (Any.strings_Join_one Tryz.lays156 Tryz.extra156 bk o c (bs x) (bs sep) w (hcell 0 x rfl)).mono ?_;rintro e w' ⟨he, rfl⟩;exact ⟨by rw [Lib.join_one]; exact he, Below.refl _ _⟩
   | y :: r, _, hc, hl, hn =>
     have e : ((x :: y :: r).map bs).map (·.data.toList) = x :: y :: r := by
      rw [List.map_map]
      conv => rhs; rw [← List.map_id (x :: y :: r)]
      apply List.map_congr_left
      intro z _
      simp [bs]
     have e2 : (bs sep).data.toList = sep := by simp [bs]
     have := Any.strings_Join_many Tryz.lays156 Tryz.extra156 bk o c ((x :: y :: r).map bs) (bs sep) w (fun j z hj => by
      rw [List.getElem?_map] at hj;cases hq : (x :: y :: r)[j]? with
      | none => rw [hq] at hj; cases hj
      | some q =>
        rw [hq] at hj;cases hj
        exact hcell j q hq) hlt (by simp) (by rw [List.length_map]; exact hn) (by rw [List.length_map]; exact hc) (by rw [e, e2]; exact hl)
     rw [e, e2, List.length_map] at this;exact this
end
section
open Wd Tp Kd
variable {m : Mp} {b d p : Nat}
theorem itoa_dg : ∀ n : Nat, n ≤ 999 → Lib.itoa (n : Int) = dg n := by
 have h : ∀ n : Fin 1000, Lib.itoa ((n.1 : Nat) : Int) = dg n.1 := by decide +kernel
 exact fun n hn => h ⟨n, by omega⟩
theorem zn {n : Int} (h0 : 0 ≤ n) (h1 : n ≤ 999) : Lib.itoa n = decP n := by
 obtain ⟨k, rfl⟩ := Int.eq_ofNat_of_zero_le h0;exact itoa_dg k (by omega)
theorem NumR.formO {m : Mp} {vs : List Value} {x : NumT} (h : NumR m vs x) : ∃ n who A len c, vs = n4 (opN x) n who A len c := by
 cases h; exact ⟨_, _, _, _, _, rfl⟩
theorem xN (op n who : Int) : numW (.mk op n who []) = 1 := by rw [wh]; rfl
theorem Up (x : NumT) : 1 ≤ numW x := by obtain ⟨op, n, who, k⟩ := x; rw [wh]; omega
theorem num111 (hT : TabI m) {cs : List Value} {x : NumT} (hx : NumR m cs x) : NumOk m b cs x := by
 induction hx with
 | @mk op n who kids A len c vs ho hln hmx hr hv hkk ih =>
 subst hln;intro m0 hm0 p d hp hd;have hT := hT.mono hm0;have hmx : kids.length ≤ 9223372036854775807 := hmx;have hl2 := Le.refl m0;skip;refine za [.tmp 4] Tryz.func111 rfl rfl rfl ?_;refine tr 2 ?_;refine Bx 4 rfl fun b1 => ?_;refine zG .here (fun ns hi _ hd1 => ?_);have hR : Rd (uni m0 ns) (some ⟨b1, 0, none⟩) (n4 op n who A kids.length c) := (Rd.blk hi).mono (zV hd1)
 have hl2 : Le m0 (uni m0 ns) := zM _ _;clear hi hd1;generalize uni m0 ns = m9 at hR hl2;have hT := hT.mono hl2;have hat : At m9 ⟨b1, 0, none⟩ (n4 op n who A kids.length c) := fun i u hi => hR.at_ hi;have hc0 : mc m9 ⟨b1, 0, none⟩ = some (.int .i8 op) := hR.at_ (i := 0) rfl;have hc1 : mc m9 ⟨b1, 1, none⟩ = some (.int .i64 n) := hR.at_ (i := 1) rfl
 have hc2 : mc m9 ⟨b1, 2, none⟩ = some (.int .i8 who) := hR.at_ (i := 2) rfl;have hc3 : mc m9 ⟨b1, 3, none⟩ = some (.slice A kids.length c) := hR.at_ (i := 3) rfl;have hw1 := Up (.mk op n who kids);refine tr 2 ?_;refine Cp cl109 rfl .k0 (fun m' hm he => part109 hp) ?_ ?_
 ·rintro _ _ ⟨h1, rfl⟩;exact pW hl2 ⟨.inr (by omega), rfl⟩
 rintro _ _ ⟨hp1, rfl, rfl⟩;by_cases hbig : 8 ≤ op ∧ op ≤ 12
 ·obtain ⟨hb8, hb12⟩ := hbig;refine vr 6 ?_;refine Lo 0 sg42 rfl hc0 ?_;refine cta 2 ?_;refine Lo 0 sg42 rfl hc0 ?_;refine cta 6 ?_;refine La 0 ag45 hat ?_;refine Cp cl142 rfl .nil (fun m' hm he => bare142 (j := 2) hmx (by decide)) ?_ ?_
  ·rintro _ _ ⟨h1, rfl⟩;exact pW hl2 ⟨.inl (Uq hb8 (fun h => h1 ⟨.inl h.1, .inl h.2.1, h.2.2⟩)), rfl⟩
  rintro _ _ ⟨h1, rfl, rfl⟩;obtain ⟨hn0, hw0, hk2⟩ := h1;have hn0 : n = 0 := by omega
  have hw0 : who = 0 := by omega
  obtain ⟨x1, x2, rfl⟩ : ∃ x1 x2, kids = [x1, x2] := by
   match kids, hk2 with
   | [x1, x2], _ => exact ⟨x1, x2, rfl⟩
  subst hn0 hw0;have hA : A.isSome = true := hr.isSome (by rw [hv]; simp);have ha1 := ((hr.elem (0 * 4) 4).mono hm0).mono hl2;have ha2 := ((hr.elem (1 * 4) 4).mono hm0).mono hl2;have i1 := (ih 0 (by simp)).mono (hm0.trans hl2);have i2 := (ih 1 (by simp)).mono (hm0.trans hl2);have f1 := hkk 0 (by simp);have f2 := hkk 1 (by simp);have f1 : NumR m ((vs.drop (0 * 4)).take 4) x1 := f1
  have f2 : NumR m ((vs.drop (1 * 4)).take 4) x2 := f2;have i1 : NumOk m9 b ((vs.drop (0 * 4)).take 4) x1 := i1;have i2 : NumOk m9 b ((vs.drop (1 * 4)).take 4) x2 := i2;obtain ⟨n1, w1, A1, l1, c1, e1⟩ := NumR.formO f1;obtain ⟨n2, w2, A2, l2, c2, e2⟩ := NumR.formO f2;rw [e1] at ha1 i1;rw [e2] at ha2 i2;clear f1 f2 e1 e2 ih hkk;rw [xz, if_neg (fun h => h ⟨rfl, rfl⟩), Yv]
  generalize hg1 : opN x1 = q1 at ha1 i1;generalize hg2 : opN x2 = q2 at ha2 i2;refine vr 3 ?_;refine Db (sq [0, 1, 2, 3, 4, 5, 6, 7, 8, 9, 10, 111, 12] .done) ?_;refine vB 2 ?_;refine Vr 1 rfl (zF sg42 rfl hc0) ?_;refine Vr 0 rfl (zF sg43 rfl hc3) ?_;refine Vb 0 rfl (zO ez43 rfl rfl hA (by omega) (by omega)) ?_;refine Vr 1 rfl (zJ ag45 rfl rfl ha1) ?_
  refine Vr 0 rfl (zF sg43 rfl hc3) ?_;refine Vb 0 rfl (zO ez43 rfl rfl hA (by omega) (by omega)) ?_;refine Vr 0 rfl (zJ ag45 rfl rfl ha2) ?_;refine zA rfl ((zR cl143 rfl .k0 (fun m' hm he => two143 (i1.mono hm) (i2.mono hm) hg1 hg2 ⟨hb8, hb12⟩ hp1 hd) rfl ?_ ?_)) rfl
  ·rintro _ _ ⟨h3, rfl⟩;exact pW hl2 ⟨h3.imp id (fun h => by omega), rfl⟩
  rintro _ _ ⟨t, h3, h4, rfl, rfl⟩;refine vB 1 ?_;refine Vn 3 ?_;rw [show p + 1 + (numW x1 + numW x2) = p + (1 + numW x1 + numW x2) by omega];exact zX hl2 [_] ⟨rfl, trivial⟩ [_] .p0 ⟨t, h3, by omega, rfl, rfl⟩
 clear ih hkk
 have hbare : ∀ {q : Prop}, (¬ (8 ≤ op ∧ op ≤ 12)) → ¬ ((n = 0 ∨ op = 0) ∧ (who = 0 ∨ (1 ≤ op ∧ op ≤ 4)) ∧ kids.length = 0) → numP (.mk op n who kids) d = none := fun {q} hb h => by
  by_cases hk : kids.length = 0
  ·have hkn := List.eq_nil_of_length_eq_zero hk;subst hkn;rw [yR];exact WA fun h2 => h ⟨h2.1, h2.2, rfl⟩
  ·exact X4 hb hk
 by_cases h0 : op = 0
 ·subst h0;refine vr 6 ?_;refine Lo 0 sg42 rfl hc0 ?_;refine cfo 12 ?_;refine La 0 ag45 hat ?_;refine Cp cl142 rfl .nil (fun m' hm he => bare142 (j := 0) hmx (by decide)) ?_ ?_
  ·rintro _ _ ⟨h1, rfl⟩;exact pW hl2 ⟨.inl (hbare (q := True) hbig h1), rfl⟩
  rintro _ _ ⟨h1, rfl, rfl⟩;obtain ⟨hn0, hw0, hk0⟩ := h1;have hkn := List.eq_nil_of_length_eq_zero hk0;subst hkn;rw [yR, xN];have hwho : who = 0 := by omega
  subst hwho;by_cases hr1 : 0 ≤ n
  ·by_cases hr2 : n ≤ 999
   ·refine vr 6 ?_;refine Lo 5 sg42 rfl hc0 ?_;refine ctr 7 ?_;refine Lo 0 sg3 rfl hc1 ?_;refine cta 2 ?_;refine Lo 0 sg3 rfl hc1 ?_;refine cta 1 ?_;refine Mt 5 ?_;refine Lo 0 sg3 rfl hc1 ?_;refine Cr cl43 rfl (fun m' hm he => (z8 (hT.mono hm) (by omega) (by omega))) ?_;rintro _ rfl;rw [zn hr1 hr2];refine vr 6 ?_
    exact zX hl2 [_] ⟨rfl, trivial⟩ [_] .p0 ⟨decP n, by unfold leafP; rw [if_pos rfl, if_pos ⟨rfl, hr1, hr2⟩], hp1, rfl, rfl⟩
   ·refine vr 6 ?_;refine Lo 5 sg42 rfl hc0 ?_;refine ctr 7 ?_;refine Lo 0 sg3 rfl hc1 ?_;refine cta 2 ?_;refine Lo 0 sg3 rfl hc1 ?_;refine cfa 1 ?_;refine Mf fun _ => ?_;exact pW hl2 ⟨.inl (by unfold leafP; rw [if_pos rfl, if_neg (fun h => by omega)]), rfl⟩
  ·refine vr 6 ?_;refine Lo 5 sg42 rfl hc0 ?_;refine ctr 7 ?_;refine Lo 0 sg3 rfl hc1 ?_;refine cfa 5 ?_;refine Mf fun _ => ?_;exact pW hl2 ⟨.inl (by unfold leafP; rw [if_pos rfl, if_neg (fun h => by omega)]), rfl⟩
 by_cases h1' : op = 1
 ·subst h1';refine vr 6 ?_;refine Lo 0 sg42 rfl hc0 ?_;refine cfo 12 ?_;refine La 0 ag45 hat ?_;refine Cp cl142 rfl .nil (fun m' hm he => bare142 (j := 0) hmx (by decide)) ?_ ?_
  ·rintro _ _ ⟨h1, rfl⟩;exact pW hl2 ⟨.inl (hbare (q := True) hbig h1), rfl⟩
  rintro _ _ ⟨h1, rfl, rfl⟩;obtain ⟨hn0, hw0, hk0⟩ := h1;have hkn := List.eq_nil_of_length_eq_zero hk0;subst hkn;rw [yR, xN];have hnn : n = 0 := by omega
  subst hnn;have hlf : leafP 1 0 who = (sideP who).map fun s => sLife ++ sOpen ++ s ++ sClose := rfl;rw [hlf];refine vr 6 ?_;refine Lo 5 sg42 rfl hc0 ?_;refine cfa 6 ?_;refine ctr 7 ?_;refine Lo 0 sg42 rfl hc2 ?_;refine Cn cl110 rfl side110 ?_ ?_
  ·rintro _ _ ⟨h1, rfl⟩;exact pW hl2 ⟨.inl (by rw [h1]; rfl), rfl⟩
  rintro _ _ ⟨s, h1, rfl, rfl⟩;have hsl := yJ h1;refine Ps 0 ?_;refine Ps 6 ?_;exact zX hl2 [_] ⟨rfl, trivial⟩ [_] .p0 ⟨_, by rw [h1]; rfl, hp1, rfl, rfl⟩
 by_cases h2' : op = 2
 ·subst h2';refine vr 6 ?_;refine Lo 0 sg42 rfl hc0 ?_;refine cfo 12 ?_;refine La 0 ag45 hat ?_;refine Cp cl142 rfl .nil (fun m' hm he => bare142 (j := 0) hmx (by decide)) ?_ ?_
  ·rintro _ _ ⟨h1, rfl⟩;exact pW hl2 ⟨.inl (hbare (q := True) hbig h1), rfl⟩
  rintro _ _ ⟨h1, rfl, rfl⟩;obtain ⟨hn0, hw0, hk0⟩ := h1;have hkn := List.eq_nil_of_length_eq_zero hk0;subst hkn;rw [yR, xN];have hnn : n = 0 := by omega
  subst hnn;have hlf : leafP 2 0 who = (sideP who).map fun s => sHand ++ sOpen ++ s ++ sClose := rfl;rw [hlf];refine vr 6 ?_;refine Lo 5 sg42 rfl hc0 ?_;refine cfa 6 ?_;refine cfa 6 ?_;refine ctr 7 ?_;refine Lo 0 sg42 rfl hc2 ?_;refine Cn cl110 rfl side110 ?_ ?_
  ·rintro _ _ ⟨h1, rfl⟩;exact pW hl2 ⟨.inl (by rw [h1]; rfl), rfl⟩
  rintro _ _ ⟨s, h1, rfl, rfl⟩;have hsl := yJ h1;refine Ps 0 ?_;refine Ps 6 ?_;exact zX hl2 [_] ⟨rfl, trivial⟩ [_] .p0 ⟨_, by rw [h1]; rfl, hp1, rfl, rfl⟩
 by_cases h3' : op = 3
 ·subst h3';refine vr 6 ?_;refine Lo 0 sg42 rfl hc0 ?_;refine cfo 12 ?_;refine La 0 ag45 hat ?_;refine Cp cl142 rfl .nil (fun m' hm he => bare142 (j := 0) hmx (by decide)) ?_ ?_
  ·rintro _ _ ⟨h1, rfl⟩;exact pW hl2 ⟨.inl (hbare (q := True) hbig h1), rfl⟩
  rintro _ _ ⟨h1, rfl, rfl⟩;obtain ⟨hn0, hw0, hk0⟩ := h1;have hkn := List.eq_nil_of_length_eq_zero hk0;subst hkn;rw [yR, xN];have hnn : n = 0 := by omega
  subst hnn;have hlf : leafP 3 0 who = (sideP who).map fun s => sDeck ++ sOpen ++ s ++ sClose := rfl;rw [hlf];refine vr 6 ?_;refine Lo 5 sg42 rfl hc0 ?_;refine cfa 6 ?_;refine cfa 6 ?_;refine cfa 6 ?_;refine ctr 7 ?_;refine Lo 0 sg42 rfl hc2 ?_;refine Cn cl110 rfl side110 ?_ ?_
  ·rintro _ _ ⟨h1, rfl⟩;exact pW hl2 ⟨.inl (by rw [h1]; rfl), rfl⟩
  rintro _ _ ⟨s, h1, rfl, rfl⟩;have hsl := yJ h1;refine Ps 0 ?_;refine Ps 6 ?_;exact zX hl2 [_] ⟨rfl, trivial⟩ [_] .p0 ⟨_, by rw [h1]; rfl, hp1, rfl, rfl⟩
 by_cases h4' : op = 4
 ·subst h4';refine vr 6 ?_;refine Lo 0 sg42 rfl hc0 ?_;refine cfo 12 ?_;refine La 0 ag45 hat ?_;refine Cp cl142 rfl .nil (fun m' hm he => bare142 (j := 0) hmx (by decide)) ?_ ?_
  ·rintro _ _ ⟨h1, rfl⟩;exact pW hl2 ⟨.inl (hbare (q := True) hbig h1), rfl⟩
  rintro _ _ ⟨h1, rfl, rfl⟩;obtain ⟨hn0, hw0, hk0⟩ := h1;have hkn := List.eq_nil_of_length_eq_zero hk0;subst hkn;rw [yR, xN];have hnn : n = 0 := by omega
  subst hnn;have hlf : leafP 4 0 who = (sideP who).map fun s => sUnits ++ sOpen ++ s ++ sClose := rfl;rw [hlf];refine vr 6 ?_;refine Lo 5 sg42 rfl hc0 ?_;refine cfa 6 ?_;refine cfa 6 ?_;refine cfa 6 ?_;refine cfa 6 ?_;refine ctr 7 ?_;refine Lo 0 sg42 rfl hc2 ?_;refine Cn cl110 rfl side110 ?_ ?_
  ·rintro _ _ ⟨h1, rfl⟩;exact pW hl2 ⟨.inl (by rw [h1]; rfl), rfl⟩
  rintro _ _ ⟨s, h1, rfl, rfl⟩;have hsl := yJ h1;refine Ps 0 ?_;refine Ps 6 ?_;exact zX hl2 [_] ⟨rfl, trivial⟩ [_] .p0 ⟨_, by rw [h1]; rfl, hp1, rfl, rfl⟩
 by_cases h5' : op = 5
 ·subst h5';refine vr 6 ?_;refine Lo 0 sg42 rfl hc0 ?_;refine cfo 12 ?_;refine La 0 ag45 hat ?_;refine Cp cl142 rfl .nil (fun m' hm he => bare142 (j := 0) hmx (by decide)) ?_ ?_
  ·rintro _ _ ⟨h1, rfl⟩;exact pW hl2 ⟨.inl (hbare (q := True) hbig h1), rfl⟩
  rintro _ _ ⟨h1, rfl, rfl⟩;obtain ⟨hn0, hw0, hk0⟩ := h1;have hkn := List.eq_nil_of_length_eq_zero hk0;subst hkn;rw [yR, xN];have hnn : n = 0 := by omega
  have hwho : who = 0 := by omega
  subst hnn hwho;refine vr 6 ?_;refine Lo 5 sg42 rfl hc0 ?_;refine cfa 6 ?_;refine cfa 6 ?_;refine cfa 6 ?_;refine cfa 6 ?_;refine cfa 6 ?_;refine ctr 12 ?_;exact zX hl2 [_] ⟨rfl, trivial⟩ [_] .p0 ⟨sMana ++ sOpen ++ sMe ++ sClose, rfl, hp1, rfl, rfl⟩
 by_cases h6' : op = 6
 ·subst h6';refine vr 6 ?_;refine Lo 0 sg42 rfl hc0 ?_;refine cfo 12 ?_;refine La 0 ag45 hat ?_;refine Cp cl142 rfl .nil (fun m' hm he => bare142 (j := 0) hmx (by decide)) ?_ ?_
  ·rintro _ _ ⟨h1, rfl⟩;exact pW hl2 ⟨.inl (hbare (q := True) hbig h1), rfl⟩
  rintro _ _ ⟨h1, rfl, rfl⟩;obtain ⟨hn0, hw0, hk0⟩ := h1;have hkn := List.eq_nil_of_length_eq_zero hk0;subst hkn;rw [yR, xN];have hnn : n = 0 := by omega
  have hwho : who = 0 := by omega
  subst hnn hwho;refine vr 6 ?_;refine Lo 5 sg42 rfl hc0 ?_;refine cfa 6 ?_;refine cfa 6 ?_;refine cfa 6 ?_;refine cfa 6 ?_;refine cfa 6 ?_;refine cfa 6 ?_;refine ctr 12 ?_;exact zX hl2 [_] ⟨rfl, trivial⟩ [_] .p0 ⟨sCost ++ sOpen ++ sTop ++ sOpen ++ sMe ++ sClose ++ sClose, rfl, hp1, rfl, rfl⟩
 by_cases h7' : op = 7
 ·subst h7';refine vr 6 ?_;refine Lo 0 sg42 rfl hc0 ?_;refine cfo 12 ?_;refine La 0 ag45 hat ?_;refine Cp cl142 rfl .nil (fun m' hm he => bare142 (j := 0) hmx (by decide)) ?_ ?_
  ·rintro _ _ ⟨h1, rfl⟩;exact pW hl2 ⟨.inl (hbare (q := True) hbig h1), rfl⟩
  rintro _ _ ⟨h1, rfl, rfl⟩;obtain ⟨hn0, hw0, hk0⟩ := h1;have hkn := List.eq_nil_of_length_eq_zero hk0;subst hkn;rw [yR, xN];have hnn : n = 0 := by omega
  have hwho : who = 0 := by omega
  subst hnn hwho;refine vr 6 ?_;refine Lo 5 sg42 rfl hc0 ?_;refine cfa 6 ?_;refine cfa 6 ?_;refine cfa 6 ?_;refine cfa 6 ?_;refine cfa 6 ?_;refine cfa 6 ?_;refine cfa 10 ?_;refine Lo 0 sg42 rfl hc0 ?_;refine ctr 0 ?_;refine Mt 8 ?_;exact zX hl2 [_] ⟨rfl, trivial⟩ [_] .p0 ⟨sPower ++ sOpen ++ sTarget ++ sClose, rfl, hp1, rfl, rfl⟩
 by_cases hneg : op < 8
 ·refine vr 6 ?_;refine Lo 0 sg42 rfl hc0 ?_;refine cfo 12 ?_;refine La 0 ag45 hat ?_;refine Cp cl142 rfl .nil (fun m' hm he => bare142 (j := 0) hmx (by decide)) ?_ ?_
  ·rintro _ _ ⟨h1, rfl⟩;exact pW hl2 ⟨.inl (hbare (q := True) hbig h1), rfl⟩
  rintro _ _ ⟨h1, rfl, rfl⟩;obtain ⟨hn0, hw0, hk0⟩ := h1;have hkn := List.eq_nil_of_length_eq_zero hk0;subst hkn;rw [yR, xN]
  have hlf : leafP op n who = none := by
   unfold leafP;rw [if_neg h0, if_neg h1', if_neg h2', if_neg h3', if_neg h4', if_neg h5', if_neg h6', if_neg h7', ite_self, ite_self]
  rw [hlf];refine vr 6 ?_;refine Lo 5 sg42 rfl hc0 ?_;refine cfa 6 ?_;refine cfa 6 ?_;refine cfa 6 ?_;refine cfa 6 ?_;refine cfa 6 ?_;refine cfa 6 ?_;refine cfa 10 ?_;refine Lo 0 sg42 rfl hc0 ?_;refine cfa 0 ?_;refine Mf fun _ => ?_;exact pW hl2 ⟨.inl rfl, rfl⟩
 ·have h13 : 13 ≤ op := by omega
  refine vr 6 ?_;refine Lo 0 sg42 rfl hc0 ?_;refine cto 2 ?_;refine Lo 0 sg42 rfl hc0 ?_;refine cfo 8 ?_;refine La 0 ag45 hat ?_;refine Cp cl142 rfl .nil (fun m' hm he => bare142 (j := 0) hmx (by decide)) ?_ ?_
  ·rintro _ _ ⟨h1, rfl⟩;exact pW hl2 ⟨.inl (hbare (q := True) hbig h1), rfl⟩
  rintro _ _ ⟨h1, rfl, rfl⟩;obtain ⟨hn0, hw0, hk0⟩ := h1;have hkn := List.eq_nil_of_length_eq_zero hk0;subst hkn;rw [yR, xN]
  have hlf : leafP op n who = none := by
   unfold leafP;rw [if_neg h0, if_neg h1', if_neg h2', if_neg h3', if_neg h4', if_neg h5', if_neg h6', if_neg h7', ite_self, ite_self]
  rw [hlf];refine vr 6 ?_;refine Lo 5 sg42 rfl hc0 ?_;refine cfa 6 ?_;refine cfa 6 ?_;refine cfa 6 ?_;refine cfa 6 ?_;refine cfa 6 ?_;refine cfa 6 ?_;refine cfa 10 ?_;refine Lo 0 sg42 rfl hc0 ?_;refine cfa 0 ?_;refine Mf fun _ => ?_;exact pW hl2 ⟨.inl rfl, rfl⟩
end
namespace Tp
open Go Go.Eng Wd Kd
inductive CondSm : CondT → Prop
 | mk {op who : Int} {name : List UInt8} {ns : List NumT} {ks : List CondT} (h : name.length ≤ 140737488355328) (hk : ∀ k ∈ ks, CondSm k) : CondSm (.mk op who name ns ks)
def shapeC (op : Int) (a b : Nat) : Prop :=
 ((op = 0 ∨ op = 1 ∨ op = 2) → a = 2 ∧ b = 0) ∧ (op = 3 → a = 0 ∧ b = 1) ∧ ((op = 4 ∨ op = 5) → a = 0 ∧ b = 2) ∧ (op = 6 → a = 0 ∧ b = 0) ∧ (0 ≤ op ∧ op ≤ 6)
theorem zw {op who : Int} {name : List UInt8} {ns : List NumT} {ks : List CondT} {d : Nat} (h : ¬ shapeC op ns.length ks.length) : condP (.mk op who name ns ks) d = none := by
 unfold shapeC at h;rw [condP.eq_def]
 split
 ·rename_i heq
  cases heq
  split
  ·rfl
  ·have e1 : ∀ a b : NumT, [a, b].length = 2 := fun _ _ => rfl;have e2 : ([] : List CondT).length = 0 := rfl;rw [e1, e2] at h;rw [if_neg (by omega), if_neg (by omega), if_neg (by omega)]
 ·rename_i heq
  cases heq;have e1 : ([] : List NumT).length = 0 := rfl;have e2 : ([] : List CondT).length = 0 := rfl;rw [e1, e2] at h;rw [if_neg (fun h6 => by have := h6.1; omega)]
 ·rename_i heq
  cases heq;have e1 : ([] : List NumT).length = 0 := rfl;have e2 : ∀ a : CondT, [a].length = 1 := fun _ => rfl;rw [e1, e2] at h;rw [if_neg (fun h6 => by have := h6.1; omega)]
 ·rename_i heq
  cases heq
  split
  ·rfl
  ·have e1 : ([] : List NumT).length = 0 := rfl;have e2 : ∀ a b : CondT, [a, b].length = 2 := fun _ _ => rfl;rw [e1, e2] at h;rw [if_neg (by omega), if_neg (by omega)]
 ·rfl
theorem jM {op who : Int} {name : List UInt8} {ns : List NumT} {ks : List CondT} {d : Nat} (h6 : op ≠ 6) (h : ¬ (who = 0 ∧ name = [])) : condP (.mk op who name ns ks) d = none := by
 rw [condP.eq_def]
 split
 ·rename_i heq
  cases heq;rw [if_pos h]
 ·rename_i heq
  cases heq;rw [if_neg (fun h => h6 h.1)]
 ·rename_i heq
  cases heq;rw [if_neg (fun h2 => h h2.2)]
 ·rename_i heq
  cases heq;rw [if_pos h]
 ·rfl
theorem wm (who : Int) (name : List UInt8) (d : Nat) : condP (.mk 6 who name [] []) d = if nameP name = true then (sideP who).map fun s => sHolds ++ sOpen ++ s ++ sComma ++ sSp ++ name ++ sClose else none := by
 rw [condP];by_cases h : nameP name = true
 ·rw [if_pos ⟨rfl, h⟩, if_pos h]
 ·rw [if_neg (fun h2 => h h2.2), if_neg h]
theorem vg (a b : NumT) (d : Nat) : condP (.mk 0 0 [] [a, b] []) d = putP (sgnT sLt) (numP a d) (numP b d) := by rw [condP]; rfl
theorem vf (a b : NumT) (d : Nat) : condP (.mk 1 0 [] [a, b] []) d = putP (sgnT sLe) (numP a d) (numP b d) := by rw [condP]; rfl
theorem ve (a b : NumT) (d : Nat) : condP (.mk 2 0 [] [a, b] []) d = putP (sgnT sEq) (numP a d) (numP b d) := by rw [condP]; rfl
theorem ul (k : CondT) (d : Nat) : condP (.mk 3 0 [] [] [k]) d = (inP d fun d => brP (decide (opC k = 4) || decide (opC k = 5)) d (condP k)).map fun s => sNot ++ sSp ++ s := by rw [condP]; rfl
theorem qg (a b : CondT) (d : Nat) : condP (.mk 5 0 [] [] [a, b]) d = putP (sgnT sOr) (condP a d) (brP (decide (opC b = 5)) d (condP b)) := by rw [condP]; rfl
theorem um (a b : CondT) (d : Nat) : condP (.mk 4 0 [] [] [a, b]) d = putP (sgnT sAnd) (brP (decide (opC a = 5)) d (condP a)) (brP (decide (opC b = 5) || decide (opC b = 4)) d (condP b)) := by rw [condP]; rfl
inductive CondS : CondT → Nat → List UInt8 → Prop
 | cmp {op : Int} {w : List UInt8} {a b : NumT} {d : Nat} {u v : List UInt8} (hw : (op = 0 ∧ w = sLt) ∨ (op = 1 ∧ w = sLe) ∨ (op = 2 ∧ w = sEq)) (ha : numP a d = some u) (hb : numP b d = some v) : CondS (.mk op 0 [] [a, b] []) d (sgnT w u v)
 | holds {who : Int} {name s : List UInt8} {d : Nat} (hn : nameP name = true) (hs : sideP who = some s) : CondS (.mk 6 who name [] []) d (sHolds ++ sOpen ++ s ++ sComma ++ sSp ++ name ++ sClose)
 | not {k : CondT} {d : Nat} {s : List UInt8} (hd : d + 1 ≤ 8) (hk : brP (decide (opC k = 4) || decide (opC k = 5)) (d + 1) (condP k) = some s) : CondS (.mk 3 0 [] [] [k]) d (sNot ++ sSp ++ s)
 | or {a b : CondT} {d : Nat} {u v : List UInt8} (ha : condP a d = some u) (hb : brP (decide (opC b = 5)) d (condP b) = some v) : CondS (.mk 5 0 [] [] [a, b]) d (sgnT sOr u v)
 | and {a b : CondT} {d : Nat} {u v : List UInt8} (ha : brP (decide (opC a = 5)) d (condP a) = some u) (hb : brP (decide (opC b = 5) || decide (opC b = 4)) d (condP b) = some v) : CondS (.mk 4 0 [] [] [a, b]) d (sgnT sAnd u v)
theorem xm {x : CondT} {d : Nat} {s : List UInt8} (h : condP x d = some s) : CondS x d s := by
 obtain ⟨op, who, name, ns, ks⟩ := x;by_cases hs : shapeC op ns.length ks.length
 rotate_left
 ·rw [zw hs] at h; cases h
 unfold shapeC at hs;by_cases h6 : op = 6
 ·subst h6;have hn := List.eq_nil_of_length_eq_zero (hs.2.2.2.1 rfl).1;have hk := List.eq_nil_of_length_eq_zero (hs.2.2.2.1 rfl).2;subst hn hk;rw [wm] at h
  split at h
  ·cases hw : sideP who with
   | none => rw [hw] at h; cases h
   | some t =>
     rw [hw] at h;cases h;exact .holds ‹_› hw
  ·cases h
 by_cases hw : who = 0 ∧ name = []
 rotate_left
 ·rw [jM h6 hw] at h; cases h
 obtain ⟨rfl, rfl⟩ := hw
 have two : ∀ {α : Type} {l : List α}, l.length = 2 → ∃ a b, l = [a, b] := fun {α l} h => by
  match l, h with
  | [a, b], _ => exact ⟨a, b, rfl⟩
 by_cases h3 : op = 3
 ·subst h3;have hn := List.eq_nil_of_length_eq_zero (hs.2.1 rfl).1;obtain ⟨k, rfl⟩ := List.length_eq_one_iff.1 (hs.2.1 rfl).2;subst hn;rw [ul] at h;cases hi : (inP d fun d => brP (decide (opC k = 4) || decide (opC k = 5)) d (condP k)) with
  | none => rw [hi] at h; cases h
  | some t =>
    rw [hi] at h;cases h;obtain ⟨h1, h2⟩ := yQ hi;exact .not h1 h2
 by_cases h4 : op = 4
 ·subst h4;have hn := List.eq_nil_of_length_eq_zero (hs.2.2.1 (.inl rfl)).1;obtain ⟨a, b, rfl⟩ := two (hs.2.2.1 (.inl rfl)).2;subst hn;rw [um] at h;obtain ⟨u, v, h1, h2, rfl⟩ := zr h;exact .and h1 h2
 by_cases h5 : op = 5
 ·subst h5;have hn := List.eq_nil_of_length_eq_zero (hs.2.2.1 (.inr rfl)).1;obtain ⟨a, b, rfl⟩ := two (hs.2.2.1 (.inr rfl)).2;subst hn;rw [qg] at h;obtain ⟨u, v, h1, h2, rfl⟩ := zr h;exact .or h1 h2
 have h02 : op = 0 ∨ op = 1 ∨ op = 2 := by have := hs.2.2.2.2; omega
 have hk := List.eq_nil_of_length_eq_zero (hs.1 h02).2;obtain ⟨a, b, rfl⟩ := two (hs.1 h02).1;subst hk;rcases h02 with rfl | rfl | rfl
 ·rw [vg] at h;obtain ⟨u, v, h1, h2, rfl⟩ := zr h;exact .cmp (.inl ⟨rfl, rfl⟩) h1 h2
 ·rw [vf] at h;obtain ⟨u, v, h1, h2, rfl⟩ := zr h;exact .cmp (.inr (.inl ⟨rfl, rfl⟩)) h1 h2
 ·rw [ve] at h;obtain ⟨u, v, h1, h2, rfl⟩ := zr h;exact .cmp (.inr (.inr ⟨rfl, rfl⟩)) h1 h2
theorem zx {s : List UInt8} (h : nameP s = true) : s.length ≤ 40 := by
 unfold nameP at h;simp only [Bool.and_eq_true, decide_eq_true_eq] at h;exact h.1.2.2.2
theorem uk (op who : Int) (name : List UInt8) (a b : NumT) : condW (.mk op who name [a, b] []) = 1 + numW a + numW b := by rw [yd]; simp; omega
theorem ZQ (op who : Int) (name : List UInt8) : condW (.mk op who name [] []) = 1 := by rw [yd]; rfl
theorem ZP (op who : Int) (name : List UInt8) (a : CondT) : condW (.mk op who name [] [a]) = 1 + condW a := by rw [yd]; simp
theorem ui (op who : Int) (name : List UInt8) (a b : CondT) : condW (.mk op who name [] [a, b]) = 1 + condW a + condW b := by rw [yd]; simp; omega
theorem vd : ∀ {x : CondT} {d : Nat} {s : List UInt8}, condP x d = some s → s.length ≤ 64 * condW x
 | .mk op who name ns ks, d, s, h => by
   have hs := xm h;have hk : ∀ {k : CondT}, k ∈ ks → ∀ {d s}, condP k d = some s → s.length ≤ 64 * condW k := fun {k} hk {d s} h => vd h;clear h;cases hs with
   | cmp hw ha hb =>
     rw [uk];have h1 := xH ha;have h2 := xH hb
     have hwl : ∀ w, (op = 0 ∧ w = sLt) ∨ (op = 1 ∧ w = sLe) ∨ (op = 2 ∧ w = sEq) → w.length ≤ 2 := by
      rintro w (⟨-, rfl⟩ | ⟨-, rfl⟩ | ⟨-, rfl⟩) <;> decide
     have := hwl _ hw;simp only [sgnT, List.length_append, List.length_cons, List.length_nil];omega
   | holds hn hs =>
     rw [ZQ];have h1 := zx hn;have h2 := yJ hs;simp only [List.length_append, List.length_cons, List.length_nil];omega
   | not hd hk1 =>
     rw [ZP];have h1 := wC (c := 0) (fun d s h => hk (.head _) h) hk1;simp only [List.length_append, List.length_cons, List.length_nil];omega
   | or ha hb =>
     rw [ui];have h1 := hk (.head _) ha;have h2 := wC (c := 0) (fun d s h => hk (.tail _ (.head _)) h) hb;simp only [sgnT, List.length_append, List.length_cons, List.length_nil];omega
   | and ha hb =>
     rw [ui];have h1 := wC (c := 0) (fun d s h => hk (.head _) h) ha;have h2 := wC (c := 0) (fun d s h => hk (.tail _ (.head _)) h) hb;simp only [sgnT, List.length_append, List.length_cons, List.length_nil];omega
termination_by x => SizeOf.sizeOf x
decreasing_by
 have := List.sizeOf_lt_of_mem hk
 simp
 omega
end Tp
section
open Wd Tp Kd
variable {m : Mp} {b d p : Nat}
abbrev c5 (op who : Int) (name : List UInt8) (A : Option Addr) (la ca : Nat) (B : Option Addr) (lb cb : Nat) : List Value := [.int .i8 op, .int .i8 who, .string (bs name), .slice A la ca, .slice B lb cb]
def CondOk (m : Mp) (b : Nat) (cs : List Value) (x : CondT) : Prop := ∀ m', Le m m' → ∀ (p d : Nat), p ≤ 200 → d ≤ 8 → PrC 115 [ptr b, .agg cs.toArray] m' b p d (condP x d) (condW x)
theorem CondOk.mono {m m' : Mp} {cs : List Value} {x : CondT} (h : CondOk m b cs x) (hl : Le m m') : CondOk m' b cs x := fun m2 h2 => h m2 (hl.trans h2)
theorem CondR.formO {m : Mp} {vs : List Value} {x : CondT} (h : CondR m vs x) : ∃ who name A la ca B lb cb, vs = c5 (opC x) who name A la ca B lb cb := by
 cases h; exact ⟨_, _, _, _, _, _, _, _, rfl⟩
theorem c_len {x : CondT} {d : Nat} {s : List UInt8} (h : condP x d = some s) (hp : p + condW x ≤ 200) : s.length ≤ 12800 := by
 have := vd h;omega
theorem xA {x : CondT} {br : Bool} {d : Nat} {s : List UInt8} (h : brP br d (condP x) = some s) (hp : p + condW x ≤ 200) : s.length ≤ 12810 := by
 have := wC (c := 0) (w := 64 * condW x) (fun d s h => vd h) h;omega
theorem test170 {op who : Int} {name : List UInt8} {A : Option Addr} {la ca : Nat} {B : Option Addr} {lb cb : Nat} {x : CondT} {B1 B2 : Nat} (h1 : Rd m (some ⟨B1, 0, none⟩) [ptr b]) (h2 : Rd m (some ⟨B2, 0, none⟩) (c5 op who name A la ca B lb cb)) (hx : CondOk m b (c5 op who name A la ca B lb cb) x) (hp : p ≤ 200) (hd : d ≤ 8) : PrC 170 [ptr B1, ptr B2] m b p d ((condP x d).map brkT) (condW x) := by
 have hat : At m ⟨B2, 0, none⟩ (c5 op who name A la ca B lb cb) := fun i u hi => h2.at_ hi;have hc1 : mc m ⟨B1, 0, none⟩ = some (ptr b) := h1.at_ (i := 0) rfl;refine za [.tmp 2] Tryz.func170 rfl rfl rfl ?_;refine tr 7 ?_;refine Lo 0 sg89 rfl hc1 ?_;refine La 0 ag48 hat ?_;refine Cp cl115 rfl .k0 (fun m' hm he => hx m' hm p d hp hd) ?_ ?_
 ·rintro _ _ ⟨h1, rfl⟩;exact pn ⟨qj h1, rfl⟩
 rintro _ _ ⟨s, h1, h2, rfl, rfl⟩;have hsl := c_len h1 h2;refine Ps 0 ?_;refine Ps 4 ?_;exact zb [_] ⟨rfl, trivial⟩ [_] .p0 ⟨_, by rw [h1]; rfl, h2, rfl, rfl⟩
theorem test145 {op who : Int} {name : List UInt8} {A : Option Addr} {la ca : Nat} {B : Option Addr} {lb cb : Nat} {x : CondT} {br : Bool} (hx : CondOk m b (c5 op who name A la ca B lb cb) x) (hp : p ≤ 200) (hd : d ≤ 8) : PrC 145 [ptr b, .agg (c5 op who name A la ca B lb cb).toArray, .bool br] m b p d (brP br d (condP x)) (condW x) := by
 refine za [.tmp 6] Tryz.func145 rfl rfl rfl ?_;cases br with
 | false =>
   refine tr 2 ?_;refine Bx 0 rfl fun b1 => ?_;refine Bx 13 rfl fun b2 => ?_;refine Lb 0 sg89 .h1 ?_;refine Lc 0 ag48 .here ?_;refine Cp cl115 rfl .k2 (fun m' hm he => hx m' hm p d hp hd) ?_ ?_
   ·rintro _ _ ⟨h1, rfl⟩;exact pn ⟨h1, rfl⟩
   rintro _ _ ⟨s, h1, h2, rfl, rfl⟩;refine vr 5 ?_;exact zb [_] ⟨rfl, trivial⟩ [_] .p0 ⟨s, h1, h2, rfl, rfl⟩
 | true =>
   refine tr 2 ?_;refine Bx 0 rfl fun b1 => ?_;refine Bx 14 rfl fun b2 => ?_;refine zG .here (fun ns hi _ hd1 => ?_);refine zG .here (fun ns2 hi2 _ hd2 => ?_);have hR2 : Rd (uni (uni m ns) ns2) (some ⟨b2, 0, none⟩) (c5 op who name A la ca B lb cb) := ((Rd.blk hi).mono (zV hd1)).mono (zM _ _)
   have hR1 : Rd (uni (uni m ns) ns2) (some ⟨b1, 0, none⟩) [ptr b] := (Rd.blk hi2).mono (zV hd2);have hl2 : Le m (uni (uni m ns) ns2) := (zM _ _).trans (zM _ _);have hc1 : mc (uni (uni m ns) ns2) ⟨b1, 0, none⟩ = some (ptr b) := hR1.at_ (i := 0) rfl;have hx := hx.mono hl2;clear hi hi2 hd1 hd2;refine tr 1 ?_;refine Lo 1 sg89 rfl hc1 ?_
   refine Cp cl113 rfl .k0 (fun m' hm he => within113 (r := fun d => (condP x d).map brkT) (q := [ptr b1, ptr b2]) hd cl170 (fun h8 m2 hm2 => test170 (hR1.mono (hm.trans hm2)) (hR2.mono (hm.trans hm2)) (hx.mono (hm.trans hm2)) hp h8)) ?_ ?_
   ·rintro _ _ ⟨h1, rfl⟩;rw [qa] at h1;exact pW hl2 ⟨h1, rfl⟩
   rintro _ _ ⟨s, h1, h2, rfl, rfl⟩;rw [qa] at h1;refine vr 4 ?_;exact zX hl2 [_] ⟨rfl, trivial⟩ [_] .p0 ⟨s, h1, h2, rfl, rfl⟩
theorem not144 {op who : Int} {name : List UInt8} {A : Option Addr} {la ca : Nat} {B : Option Addr} {lb cb : Nat} {x : CondT} {B1 B2 : Nat} (ho : opC x = op) (h1 : Rd m (some ⟨B1, 0, none⟩) [ptr b]) (h2 : Rd m (some ⟨B2, 0, none⟩) (c5 op who name A la ca B lb cb)) (hx : CondOk m b (c5 op who name A la ca B lb cb) x) (hp : p ≤ 200) (hd : d ≤ 8) :
  PrC 144 [ptr B1, ptr B2] m b p d ((brP (decide (opC x = 4) || decide (opC x = 5)) d (condP x)).map fun s => sNot ++ sSp ++ s) (condW x) := by
 have hat : At m ⟨B2, 0, none⟩ (c5 op who name A la ca B lb cb) := fun i u hi => h2.at_ hi;have hc1 : mc m ⟨B1, 0, none⟩ = some (ptr b) := h1.at_ (i := 0) rfl;have hc2 : mc m ⟨B2, 0, none⟩ = some (.int .i8 op) := h2.at_ (i := 0) rfl;subst ho;refine za [.tmp 2] Tryz.func144 rfl rfl rfl ?_;by_cases h4 : opC x = 4
 ·rw [decide_eq_true h4, Bool.true_or];refine tr 7 ?_;refine Lo 0 sg89 rfl hc1 ?_;refine La 1 ag48 hat ?_;refine Lo 0 sg42 rfl hc2 ?_;refine cta 5 ?_;refine Cp cl145 rfl .k0 (fun m' hm he => test145 (br := true) (hx.mono hm) hp hd) ?_ ?_
  ·rintro _ _ ⟨h1, rfl⟩;exact pn ⟨qj h1, rfl⟩
  rintro _ _ ⟨s, h1, h2, rfl, rfl⟩;have hsl := xA h1 h2;refine Ps 4 ?_;exact zb [_] ⟨rfl, trivial⟩ [_] .p0 ⟨_, by rw [h1]; rfl, h2, rfl, rfl⟩
 rw [decide_eq_false h4, Bool.false_or];by_cases h5 : opC x = 5
 ·rw [decide_eq_true h5];refine tr 7 ?_;refine Lo 0 sg89 rfl hc1 ?_;refine La 1 ag48 hat ?_;refine Lo 0 sg42 rfl hc2 ?_;refine cfa 2 ?_;refine Lo 0 sg42 rfl hc2 ?_;refine cta 1 ?_;refine Cp cl145 rfl .k0 (fun m' hm he => test145 (br := true) (hx.mono hm) hp hd) ?_ ?_
  ·rintro _ _ ⟨h1, rfl⟩;exact pn ⟨qj h1, rfl⟩
  rintro _ _ ⟨s, h1, h2, rfl, rfl⟩;have hsl := xA h1 h2;refine Ps 4 ?_;exact zb [_] ⟨rfl, trivial⟩ [_] .p0 ⟨_, by rw [h1]; rfl, h2, rfl, rfl⟩
 ·rw [decide_eq_false h5];refine tr 7 ?_;refine Lo 0 sg89 rfl hc1 ?_;refine La 1 ag48 hat ?_;refine Lo 0 sg42 rfl hc2 ?_;refine cfa 2 ?_;refine Lo 0 sg42 rfl hc2 ?_;refine cfa 1 ?_;refine Cp cl145 rfl .k0 (fun m' hm he => test145 (br := false) (hx.mono hm) hp hd) ?_ ?_
  ·rintro _ _ ⟨h1, rfl⟩;exact pn ⟨qj h1, rfl⟩
  rintro _ _ ⟨s, h1, h2, rfl, rfl⟩;have hsl := xA h1 h2;refine Ps 4 ?_;exact zb [_] ⟨rfl, trivial⟩ [_] .p0 ⟨_, by rw [h1]; rfl, h2, rfl, rfl⟩
end
section
open Wd Tp Kd
variable {m : Mp} {b d p : Nat}
theorem uA {α : Type} : ∀ {l : List α}, l.length = 2 → ∃ x y, l = [x, y]
 | [x, y], _ => ⟨x, y, rfl⟩
 | [], h => by cases h
 | [_], h => by cases h
 | _ :: _ :: _ :: _, h => by simp at h
theorem inP_brk {d : Nat} {k : CondT} {br : Bool} : (inP d fun d => (brP br d (condP k)).map fun s => sNot ++ sSp ++ s) = (inP d fun d => brP br d (condP k)).map fun s => sNot ++ sSp ++ s := qa
theorem Zl (hT : TabI m) (hU : Tabs m) {op who : Int} {name : List UInt8} {nums : List NumT} {kids : List CondT} {A B : Option Addr} {ca cb : Nat} {vs us : List Value} (hma : nums.length ≤ 9223372036854775807) (hmb : kids.length ≤ 9223372036854775807) (hnm : name.length ≤ 140737488355328)
  (hra : Rd m A vs) (hva : vs.length = nums.length * 4) (hka : ∀ (i : Nat) (hi : i < nums.length), NumR m ((vs.drop (i * 4)).take 4) nums[i])
  (hrb : Rd m B us) (hvb : us.length = kids.length * 5) (hkb : ∀ (i : Nat) (hi : i < kids.length), CondR m ((us.drop (i * 5)).take 5) kids[i])
  (ih : ∀ (i : Nat) (hi : i < kids.length), CondOk m b ((us.drop (i * 5)).take 5) kids[i]) (h6 : op = 6) : CondOk m b (c5 op who name A nums.length ca B kids.length cb) (.mk op who name nums kids) := by
 intro m0 hm0 p d hp hd;skip;refine za [.tmp 4] Tryz.func115 rfl rfl rfl ?_;refine tr 2 ?_;refine Bx 0 rfl fun b1 => ?_;refine Bx 4 rfl fun b2 => ?_;refine zG .here (fun ns hi _ hd1 => ?_);refine zG .here (fun ns2 hi2 _ hd2 => ?_)
 have hR : Rd (uni (uni m0 ns) ns2) (some ⟨b2, 0, none⟩) (c5 op who name A nums.length ca B kids.length cb) := ((Rd.blk hi).mono (zV hd1)).mono (zM _ _);have hR1 : Rd (uni (uni m0 ns) ns2) (some ⟨b1, 0, none⟩) [ptr b] := (Rd.blk hi2).mono (zV hd2);have hl2 : Le m0 (uni (uni m0 ns) ns2) := (zM _ _).trans (zM _ _);clear hi hd1 hi2 hd2;generalize uni (uni m0 ns) ns2 = m9 at hR hR1 hl2
 have hl9 := hm0.trans hl2;have hT := hT.mono hl9;have hU := hU.mono hl9;have hat : At m9 ⟨b2, 0, none⟩ (c5 op who name A nums.length ca B kids.length cb) := fun i u hi => hR.at_ hi;have hcp : mc m9 ⟨b1, 0, none⟩ = some (ptr b) := hR1.at_ (i := 0) rfl;have hc0 : mc m9 ⟨b2, 0, none⟩ = some (.int .i8 op) := hR.at_ (i := 0) rfl
 have hc1 : mc m9 ⟨b2, 1, none⟩ = some (.int .i8 who) := hR.at_ (i := 1) rfl;have hc2 : mc m9 ⟨b2, 2, none⟩ = some (.string (bs name)) := hR.at_ (i := 2) rfl;have hc3 : mc m9 ⟨b2, 3, none⟩ = some (.slice A nums.length ca) := hR.at_ (i := 3) rfl;have hc4 : mc m9 ⟨b2, 4, none⟩ = some (.slice B kids.length cb) := hR.at_ (i := 4) rfl;have hw1 := ya (.mk op who name nums kids);refine tr 1 ?_
 refine Lo 0 sg89 rfl hcp ?_;refine Cp cl109 rfl .k0 (fun m' hm he => part109 hp) ?_ ?_
 ·rintro _ _ ⟨h1, rfl⟩;exact pW hl2 ⟨.inr (by omega), rfl⟩
 rintro _ _ ⟨hp1, rfl, rfl⟩;subst h6;by_cases hna : nums.length = 0
 ·by_cases hnk : kids.length = 0
  ·refine vr 5 ?_;refine Lo 0 sg42 rfl hc0 ?_;refine ctr 10 ?_;refine Mt 12 ?_;refine Lo 6 sg42 rfl hc0 ?_;refine cfo 6 ?_;refine cfo 5 ?_;refine cfo 6 ?_;refine cfo 7 ?_;refine cfo 5 ?_;refine cfo 6 ?_;refine Lo 0 sg42 rfl hc0 ?_;refine ctr 0 ?_;refine Mt 6 ?_;refine Lo 2 sg43 rfl hc3 ?_;refine cto 2 ?_;refine Lo 2 sg46 rfl hc4 ?_;refine cto 1 ?_;refine Mt 0 ?_
   have hn0 := List.eq_nil_of_length_eq_zero hna;have hk0 := List.eq_nil_of_length_eq_zero hnk;subst hn0 hk0;rw [wm, ZQ];refine vr 6 ?_;refine Lo 5 sg42 rfl hc0 ?_;refine ctr 7 ?_;refine Lo 0 sg9 rfl hc2 ?_;refine Cr cl41 rfl (fun m' hm he => (xj (hU.mono hm) hnm)) ?_;rintro _ rfl;cases hnp : nameP name with
   | false =>
     rw [if_neg (by decide)];skip;refine Mf fun _ => ?_;exact pW hl2 ⟨.inl (rfl), rfl⟩
   | true =>
     rw [if_pos rfl];have hn40 := zx hnp;skip;refine Mt 3 ?_;refine Db (sq [0, 1, 5, 6, 102, 3, 4, 7, 8, 9] .done) ?_;refine vB 1 ?_;refine Vr 1 rfl (zF sg42 rfl hc1) ?_;refine Vr 0 rfl (zF sg9 rfl hc2) ?_;refine zA rfl ((zR cl110 rfl .nil (fun m' hm he => side110) rfl ?_ ?_)) rfl
     ·rintro _ _ ⟨h1, rfl⟩;exact pW hl2 ⟨.inl (by rw [h1]; rfl), rfl⟩
     rintro _ _ ⟨s, h1, rfl, rfl⟩;have hsl := yJ h1
     iterate 4 (refine Vs 0 rfl ?_)
     refine vB 1 ?_;refine Vn 4 ?_;have e1 : [104, 111, 108, 100, 115, 40] ++ s ++ [44, 32] ++ name ++ [41] = sHolds ++ sOpen ++ s ++ sComma ++ sSp ++ name ++ sClose := by simp
     rw [e1];exact zX hl2 [_] ⟨rfl, trivial⟩ [_] .p0 ⟨_, by rw [h1]; rfl, hp1, rfl, rfl⟩
  ·refine vr 5 ?_;refine Lo 0 sg42 rfl hc0 ?_;refine ctr 10 ?_;refine Mt 12 ?_;refine Lo 6 sg42 rfl hc0 ?_;refine cfo 6 ?_;refine cfo 5 ?_;refine cfo 6 ?_;refine cfo 7 ?_;refine cfo 5 ?_;refine cfo 6 ?_;refine Lo 0 sg42 rfl hc0 ?_;refine ctr 0 ?_;refine Mt 6 ?_;refine Lo 2 sg43 rfl hc3 ?_;refine cto 2 ?_;refine Lo 2 sg46 rfl hc4 ?_;refine cfo 1 ?_;refine Mf fun _ => ?_
   exact pW hl2 ⟨.inl (zw (fun h => by unfold shapeC at h; omega)), rfl⟩
 ·refine vr 5 ?_;refine Lo 0 sg42 rfl hc0 ?_;refine ctr 10 ?_;refine Mt 12 ?_;refine Lo 6 sg42 rfl hc0 ?_;refine cfo 6 ?_;refine cfo 5 ?_;refine cfo 6 ?_;refine cfo 7 ?_;refine cfo 5 ?_;refine cfo 6 ?_;refine Lo 0 sg42 rfl hc0 ?_;refine ctr 0 ?_;refine Mt 6 ?_;refine Lo 2 sg43 rfl hc3 ?_;refine cfo 7 ?_;refine Mf fun _ => ?_
  exact pW hl2 ⟨.inl (zw (fun h => by unfold shapeC at h; omega)), rfl⟩
theorem Xw (hT : TabI m) (hU : Tabs m) {op who : Int} {name : List UInt8} {nums : List NumT} {kids : List CondT} {A B : Option Addr} {ca cb : Nat} {vs us : List Value} (hma : nums.length ≤ 9223372036854775807) (hmb : kids.length ≤ 9223372036854775807) (hnm : name.length ≤ 140737488355328)
  (hra : Rd m A vs) (hva : vs.length = nums.length * 4) (hka : ∀ (i : Nat) (hi : i < nums.length), NumR m ((vs.drop (i * 4)).take 4) nums[i])
  (hrb : Rd m B us) (hvb : us.length = kids.length * 5) (hkb : ∀ (i : Nat) (hi : i < kids.length), CondR m ((us.drop (i * 5)).take 5) kids[i])
  (ih : ∀ (i : Nat) (hi : i < kids.length), CondOk m b ((us.drop (i * 5)).take 5) kids[i]) (h6 : op ≠ 6) (hwn : ¬ (who = 0 ∧ name = [])) : CondOk m b (c5 op who name A nums.length ca B kids.length cb) (.mk op who name nums kids) := by
 intro m0 hm0 p d hp hd;skip;refine za [.tmp 4] Tryz.func115 rfl rfl rfl ?_;refine tr 2 ?_;refine Bx 0 rfl fun b1 => ?_;refine Bx 4 rfl fun b2 => ?_;refine zG .here (fun ns hi _ hd1 => ?_);refine zG .here (fun ns2 hi2 _ hd2 => ?_)
 have hR : Rd (uni (uni m0 ns) ns2) (some ⟨b2, 0, none⟩) (c5 op who name A nums.length ca B kids.length cb) := ((Rd.blk hi).mono (zV hd1)).mono (zM _ _);have hR1 : Rd (uni (uni m0 ns) ns2) (some ⟨b1, 0, none⟩) [ptr b] := (Rd.blk hi2).mono (zV hd2);have hl2 : Le m0 (uni (uni m0 ns) ns2) := (zM _ _).trans (zM _ _);clear hi hd1 hi2 hd2;generalize uni (uni m0 ns) ns2 = m9 at hR hR1 hl2
 have hl9 := hm0.trans hl2;have hT := hT.mono hl9;have hU := hU.mono hl9;have hat : At m9 ⟨b2, 0, none⟩ (c5 op who name A nums.length ca B kids.length cb) := fun i u hi => hR.at_ hi;have hcp : mc m9 ⟨b1, 0, none⟩ = some (ptr b) := hR1.at_ (i := 0) rfl;have hc0 : mc m9 ⟨b2, 0, none⟩ = some (.int .i8 op) := hR.at_ (i := 0) rfl
 have hc1 : mc m9 ⟨b2, 1, none⟩ = some (.int .i8 who) := hR.at_ (i := 1) rfl;have hc2 : mc m9 ⟨b2, 2, none⟩ = some (.string (bs name)) := hR.at_ (i := 2) rfl;have hc3 : mc m9 ⟨b2, 3, none⟩ = some (.slice A nums.length ca) := hR.at_ (i := 3) rfl;have hc4 : mc m9 ⟨b2, 4, none⟩ = some (.slice B kids.length cb) := hR.at_ (i := 4) rfl;have hw1 := ya (.mk op who name nums kids);refine tr 1 ?_
 refine Lo 0 sg89 rfl hcp ?_;refine Cp cl109 rfl .k0 (fun m' hm he => part109 hp) ?_ ?_
 ·rintro _ _ ⟨h1, rfl⟩;exact pW hl2 ⟨.inr (by omega), rfl⟩
 rintro _ _ ⟨hp1, rfl, rfl⟩;by_cases hwho : who = 0
 ·have hname : name ≠ [] := fun h => hwn ⟨hwho, h⟩;refine vr 5 ?_;refine Lo 0 sg42 rfl hc0 ?_;refine cfa 2 ?_;refine Lo 0 sg42 rfl hc1 ?_;refine cta 2 ?_;refine Lo 0 sg9 rfl hc2 ?_;refine cfa 2 ?_;refine Mf fun _ => ?_;exact pW hl2 ⟨.inl (jM h6 hwn), rfl⟩
 ·refine vr 5 ?_;refine Lo 0 sg42 rfl hc0 ?_;refine cfa 2 ?_;refine Lo 0 sg42 rfl hc1 ?_;refine cfa 6 ?_;refine Mf fun _ => ?_;exact pW hl2 ⟨.inl (jM h6 hwn), rfl⟩
end
section
open Wd Tp Kd
variable {m : Mp} {b d p : Nat}
theorem Xx (hT : TabI m) (hU : Tabs m) {op who : Int} {name : List UInt8} {nums : List NumT} {kids : List CondT} {A B : Option Addr} {ca cb : Nat} {vs us : List Value} (hma : nums.length ≤ 9223372036854775807) (hmb : kids.length ≤ 9223372036854775807) (hnm : name.length ≤ 140737488355328)
  (hra : Rd m A vs) (hva : vs.length = nums.length * 4) (hka : ∀ (i : Nat) (hi : i < nums.length), NumR m ((vs.drop (i * 4)).take 4) nums[i])
  (hrb : Rd m B us) (hvb : us.length = kids.length * 5) (hkb : ∀ (i : Nat) (hi : i < kids.length), CondR m ((us.drop (i * 5)).take 5) kids[i])
  (ih : ∀ (i : Nat) (hi : i < kids.length), CondOk m b ((us.drop (i * 5)).take 5) kids[i]) (hwho : who = 0) (hname : name = []) (h3 : op = 3) : CondOk m b (c5 op who name A nums.length ca B kids.length cb) (.mk op who name nums kids) := by
 intro m0 hm0 p d hp hd;skip;refine za [.tmp 4] Tryz.func115 rfl rfl rfl ?_;refine tr 2 ?_;refine Bx 0 rfl fun b1 => ?_;refine Bx 4 rfl fun b2 => ?_;refine zG .here (fun ns hi _ hd1 => ?_);refine zG .here (fun ns2 hi2 _ hd2 => ?_)
 have hR : Rd (uni (uni m0 ns) ns2) (some ⟨b2, 0, none⟩) (c5 op who name A nums.length ca B kids.length cb) := ((Rd.blk hi).mono (zV hd1)).mono (zM _ _);have hR1 : Rd (uni (uni m0 ns) ns2) (some ⟨b1, 0, none⟩) [ptr b] := (Rd.blk hi2).mono (zV hd2);have hl2 : Le m0 (uni (uni m0 ns) ns2) := (zM _ _).trans (zM _ _);clear hi hd1 hi2 hd2;generalize uni (uni m0 ns) ns2 = m9 at hR hR1 hl2
 have hl9 := hm0.trans hl2;have hT := hT.mono hl9;have hU := hU.mono hl9;have hat : At m9 ⟨b2, 0, none⟩ (c5 op who name A nums.length ca B kids.length cb) := fun i u hi => hR.at_ hi;have hcp : mc m9 ⟨b1, 0, none⟩ = some (ptr b) := hR1.at_ (i := 0) rfl;have hc0 : mc m9 ⟨b2, 0, none⟩ = some (.int .i8 op) := hR.at_ (i := 0) rfl
 have hc1 : mc m9 ⟨b2, 1, none⟩ = some (.int .i8 who) := hR.at_ (i := 1) rfl;have hc2 : mc m9 ⟨b2, 2, none⟩ = some (.string (bs name)) := hR.at_ (i := 2) rfl;have hc3 : mc m9 ⟨b2, 3, none⟩ = some (.slice A nums.length ca) := hR.at_ (i := 3) rfl;have hc4 : mc m9 ⟨b2, 4, none⟩ = some (.slice B kids.length cb) := hR.at_ (i := 4) rfl;have hw1 := ya (.mk op who name nums kids);refine tr 1 ?_
 refine Lo 0 sg89 rfl hcp ?_;refine Cp cl109 rfl .k0 (fun m' hm he => part109 hp) ?_ ?_
 ·rintro _ _ ⟨h1, rfl⟩;exact pW hl2 ⟨.inr (by omega), rfl⟩
 rintro _ _ ⟨hp1, rfl, rfl⟩;subst hwho hname;subst h3;by_cases hna : nums.length = 0
 ·by_cases hnk : kids.length = 1
  ·refine vr 5 ?_;refine Lo 0 sg42 rfl hc0 ?_;refine cfo 2 ?_;refine Lo 0 sg42 rfl hc1 ?_;refine ctr 2 ?_;refine Lo 0 sg9 rfl hc2 ?_;refine ctr 2 ?_;refine Mt 12 ?_;refine Lo 6 sg42 rfl hc0 ?_;refine cfo 6 ?_;refine cfo 5 ?_;refine cfo 6 ?_;refine ctr 12 ?_;refine Lo 2 sg43 rfl hc3 ?_;refine cto 2 ?_;refine Lo 2 sg46 rfl hc4 ?_;refine cto 1 ?_;refine Mt 0 ?_
   have hn0 := List.eq_nil_of_length_eq_zero hna;obtain ⟨k1, rfl⟩ := List.length_eq_one_iff.1 hnk;subst hn0;rw [ul, ← inP_brk, ZP];have hA : B.isSome = true := hrb.isSome (by rw [hvb]; simp);have f1 : CondR m ((us.drop (0 * 5)).take 5) k1 := hkb 0 (by simp);have i1 : CondOk m9 b ((us.drop (0 * 5)).take 5) k1 := (ih 0 (by simp)).mono hl9;have ha1 := (hrb.elem (0 * 5) 5).mono hl9
   obtain ⟨w1, nm1, A1, la1, ca1, B1, lb1, cb1, e1⟩ := CondR.formO f1;rw [e1] at ha1 i1;have ho1 : mc m9 ((sa B).add (0 * 5)) = some (.int .i8 (opC k1)) := ha1.at0;clear f1 e1;refine vr 6 ?_;refine Lo 5 sg42 rfl hc0 ?_;refine cfo 6 ?_;refine ctr 7 ?_;refine Lo 0 sg46 rfl hc4 ?_;refine pe 0 (zO ez46 rfl rfl hA (by omega) (by omega)) ?_;refine La 0 ag48 ha1 ?_;refine Al 0 zl48 fun b3 => ?_
   refine Sg 3 ag48 .here ?_;refine zG .here (fun ns3 hi3 _ hd3 => ?_);have hR3 : Rd (uni m9 ns3) (some ⟨b3, 0, none⟩) (c5 (opC k1) w1 nm1 A1 la1 ca1 B1 lb1 cb1) := (Rd.blk hi3).mono (zV hd3);have hl3 : Le m9 (uni m9 ns3) := zM _ _;have hcp := zq hl3 hcp;clear hi3 hd3;generalize uni m9 ns3 = m8 at hR3 hl3 hcp;have hl2 := hl2.trans hl3;refine tr 1 ?_;refine Lo 1 sg89 rfl hcp ?_
   refine Cp cl113 rfl .k0 (fun m' hm he => within113 (r := fun d => (brP (decide (opC k1 = 4) || decide (opC k1 = 5)) d (condP k1)).map fun s => sNot ++ sSp ++ s) (q := [ptr b1, ptr b3]) hd cl144 (fun h8 m2 hm2 => not144 rfl (hR1.mono (hl3.trans (hm.trans hm2))) (hR3.mono (hm.trans hm2)) (i1.mono (hl3.trans (hm.trans hm2))) hp1 h8)) ?_ ?_
   ·rintro _ _ ⟨h3, rfl⟩;exact pW hl2 ⟨h3.imp id (fun h => by omega), rfl⟩
   rintro _ _ ⟨t, h3, h4, rfl, rfl⟩;refine vr 6 ?_;rw [show p + 1 + condW k1 = p + (1 + condW k1) by omega];exact zX hl2 [_] ⟨rfl, trivial⟩ [_] .p0 ⟨t, h3, by omega, rfl, rfl⟩
  ·refine vr 5 ?_;refine Lo 0 sg42 rfl hc0 ?_;refine cfo 2 ?_;refine Lo 0 sg42 rfl hc1 ?_;refine ctr 2 ?_;refine Lo 0 sg9 rfl hc2 ?_;refine ctr 2 ?_;refine Mt 12 ?_;refine Lo 6 sg42 rfl hc0 ?_;refine cfo 6 ?_;refine cfo 5 ?_;refine cfo 6 ?_;refine ctr 12 ?_;refine Lo 2 sg43 rfl hc3 ?_;refine cto 2 ?_;refine Lo 2 sg46 rfl hc4 ?_;refine cfo 1 ?_;refine Mf fun _ => ?_
   exact pW hl2 ⟨.inl (zw (fun h => by unfold shapeC at h; omega)), rfl⟩
 ·refine vr 5 ?_;refine Lo 0 sg42 rfl hc0 ?_;refine cfo 2 ?_;refine Lo 0 sg42 rfl hc1 ?_;refine ctr 2 ?_;refine Lo 0 sg9 rfl hc2 ?_;refine ctr 2 ?_;refine Mt 12 ?_;refine Lo 6 sg42 rfl hc0 ?_;refine cfo 6 ?_;refine cfo 5 ?_;refine cfo 6 ?_;refine ctr 12 ?_;refine Lo 2 sg43 rfl hc3 ?_;refine cfo 7 ?_;refine Mf fun _ => ?_;exact pW hl2 ⟨.inl (zw (fun h => by unfold shapeC at h; omega)), rfl⟩
theorem VK (hT : TabI m) (hU : Tabs m) {op who : Int} {name : List UInt8} {nums : List NumT} {kids : List CondT} {A B : Option Addr} {ca cb : Nat} {vs us : List Value} (hma : nums.length ≤ 9223372036854775807) (hmb : kids.length ≤ 9223372036854775807) (hnm : name.length ≤ 140737488355328)
  (hra : Rd m A vs) (hva : vs.length = nums.length * 4) (hka : ∀ (i : Nat) (hi : i < nums.length), NumR m ((vs.drop (i * 4)).take 4) nums[i])
  (hrb : Rd m B us) (hvb : us.length = kids.length * 5) (hkb : ∀ (i : Nat) (hi : i < kids.length), CondR m ((us.drop (i * 5)).take 5) kids[i])
  (ih : ∀ (i : Nat) (hi : i < kids.length), CondOk m b ((us.drop (i * 5)).take 5) kids[i]) (hwho : who = 0) (hname : name = []) (h5 : op = 5) : CondOk m b (c5 op who name A nums.length ca B kids.length cb) (.mk op who name nums kids) := by
 intro m0 hm0 p d hp hd;skip;refine za [.tmp 4] Tryz.func115 rfl rfl rfl ?_;refine tr 2 ?_;refine Bx 0 rfl fun b1 => ?_;refine Bx 4 rfl fun b2 => ?_;refine zG .here (fun ns hi _ hd1 => ?_);refine zG .here (fun ns2 hi2 _ hd2 => ?_)
 have hR : Rd (uni (uni m0 ns) ns2) (some ⟨b2, 0, none⟩) (c5 op who name A nums.length ca B kids.length cb) := ((Rd.blk hi).mono (zV hd1)).mono (zM _ _);have hR1 : Rd (uni (uni m0 ns) ns2) (some ⟨b1, 0, none⟩) [ptr b] := (Rd.blk hi2).mono (zV hd2);have hl2 : Le m0 (uni (uni m0 ns) ns2) := (zM _ _).trans (zM _ _);clear hi hd1 hi2 hd2;generalize uni (uni m0 ns) ns2 = m9 at hR hR1 hl2
 have hl9 := hm0.trans hl2;have hT := hT.mono hl9;have hU := hU.mono hl9;have hat : At m9 ⟨b2, 0, none⟩ (c5 op who name A nums.length ca B kids.length cb) := fun i u hi => hR.at_ hi;have hcp : mc m9 ⟨b1, 0, none⟩ = some (ptr b) := hR1.at_ (i := 0) rfl;have hc0 : mc m9 ⟨b2, 0, none⟩ = some (.int .i8 op) := hR.at_ (i := 0) rfl
 have hc1 : mc m9 ⟨b2, 1, none⟩ = some (.int .i8 who) := hR.at_ (i := 1) rfl;have hc2 : mc m9 ⟨b2, 2, none⟩ = some (.string (bs name)) := hR.at_ (i := 2) rfl;have hc3 : mc m9 ⟨b2, 3, none⟩ = some (.slice A nums.length ca) := hR.at_ (i := 3) rfl;have hc4 : mc m9 ⟨b2, 4, none⟩ = some (.slice B kids.length cb) := hR.at_ (i := 4) rfl;have hw1 := ya (.mk op who name nums kids);refine tr 1 ?_
 refine Lo 0 sg89 rfl hcp ?_;refine Cp cl109 rfl .k0 (fun m' hm he => part109 hp) ?_ ?_
 ·rintro _ _ ⟨h1, rfl⟩;exact pW hl2 ⟨.inr (by omega), rfl⟩
 rintro _ _ ⟨hp1, rfl, rfl⟩;subst hwho hname;subst h5;by_cases hna : nums.length = 0
 ·by_cases hnk : kids.length = 2
  ·refine vr 5 ?_;refine Lo 0 sg42 rfl hc0 ?_;refine cfo 2 ?_;refine Lo 0 sg42 rfl hc1 ?_;refine ctr 2 ?_;refine Lo 0 sg9 rfl hc2 ?_;refine ctr 2 ?_;refine Mt 12 ?_;refine Lo 6 sg42 rfl hc0 ?_;refine cfo 6 ?_;refine cfo 5 ?_;refine cfo 6 ?_;refine cfo 7 ?_;refine cfo 5 ?_;refine ctr 12 ?_;refine Lo 2 sg43 rfl hc3 ?_;refine cto 2 ?_;refine Lo 2 sg46 rfl hc4 ?_;refine cto 1 ?_;refine Mt 0 ?_
   have hn0 := List.eq_nil_of_length_eq_zero hna;obtain ⟨k1, k2, rfl⟩ := uA hnk;subst hn0;have hA : B.isSome = true := hrb.isSome (by rw [hvb]; simp);have f1 : CondR m ((us.drop (0 * 5)).take 5) k1 := hkb 0 (by simp);have i1 : CondOk m9 b ((us.drop (0 * 5)).take 5) k1 := (ih 0 (by simp)).mono hl9;have ha1 := (hrb.elem (0 * 5) 5).mono hl9
   obtain ⟨w1, nm1, A1, la1, ca1, B1, lb1, cb1, e1⟩ := CondR.formO f1;rw [e1] at ha1 i1;have ho1 : mc m9 ((sa B).add (0 * 5)) = some (.int .i8 (opC k1)) := ha1.at0;clear f1 e1;have f2 : CondR m ((us.drop (1 * 5)).take 5) k2 := hkb 1 (by simp);have i2 : CondOk m9 b ((us.drop (1 * 5)).take 5) k2 := (ih 1 (by simp)).mono hl9;have ha2 := (hrb.elem (1 * 5) 5).mono hl9
   obtain ⟨w2, nm2, A2, la2, ca2, B2, lb2, cb2, e2⟩ := CondR.formO f2;rw [e2] at ha2 i2;have ho2 : mc m9 ((sa B).add (1 * 5)) = some (.int .i8 (opC k2)) := ha2.at0;clear f2 e2;rw [qg, ui];refine vr 6 ?_;refine Lo 5 sg42 rfl hc0 ?_;refine cfo 6 ?_;refine cfo 6 ?_;refine ctr 5 ?_;refine Db (sq [0, 1, 2, 3, 4, 105, 6] .done) ?_;refine Vr 1 rfl (zF sg89 rfl hcp) ?_
   refine Vr 0 rfl (zF sg46 rfl hc4) ?_;refine Vb 0 rfl (zO ez46 rfl rfl hA (by omega) (by omega)) ?_;refine Vr 0 rfl (zJ ag48 rfl rfl ha1) ?_;refine zA rfl ((zR cl145 rfl .k0 (fun m' hm he => test145 (br := false) (i1.mono hm) hp1 hd) rfl ?_ ?_)) rfl
   ·rintro _ _ ⟨h1, rfl⟩;exact pW hl2 ⟨(xw h1 (v := condW k2)).imp id (fun h => by omega), rfl⟩
   rintro _ _ ⟨s, h1, h2, rfl, rfl⟩;have hsl := xA (br := false)  h1 h2;by_cases h25 : opC k2 = 5
   ·rw [decide_eq_true h25];refine vB 1 ?_;refine Vn 2 ?_;refine Db (sq [0, 1, 2, 3, 4, 5, 6, 7, 8, 9, 10, 11, 12, 113, 14, 15] .done) ?_;refine vB 1 ?_;refine Vs 0 rfl ?_;refine Vr 1 rfl (zF sg89 rfl hcp) ?_;refine Vr 0 rfl (zF sg46 rfl hc4) ?_;refine Vb 0 rfl (zO ez46 rfl rfl hA (by omega) (by omega)) ?_;refine Vr 1 rfl (zJ ag48 rfl rfl ha2) ?_
    refine Vr 0 rfl (zF sg46 rfl hc4) ?_;refine Vb 1 rfl (zO ez46 rfl rfl hA (by omega) (by omega)) ?_;refine Vr 0 rfl (zF sg42 rfl ho2) ?_;refine Vb 0 rfl (dt (yn rfl rfl) (by assumption)) ?_;refine zA rfl ((zR cl145 rfl .k0 (fun m' hm he => test145 (br := true) (i2.mono hm) h2 hd) rfl ?_ ?_)) rfl
    ·rintro _ _ ⟨h3, rfl⟩;exact pW hl2 ⟨yN h3 |>.imp id (fun h => by omega), rfl⟩
    rintro _ _ ⟨t, h3, h4, rfl, rfl⟩;have htl := xA h3 h4;refine Vs 1 rfl ?_;refine Vn 4 ?_;have e2 : s ++ [32, 111, 114, 32] ++ t = sgnT sOr s t := by simp [sgnT]
    rw [e2, show p + 1 + condW k1 + condW k2 = p + (1 + condW k1 + condW k2) by omega];exact zX hl2 [_] ⟨rfl, trivial⟩ [_] .p0 ⟨_, yb h1 h3, by omega, rfl, rfl⟩
   ·rw [decide_eq_false h25];refine vB 1 ?_;refine Vn 2 ?_;refine Db (sq [0, 1, 2, 3, 4, 5, 6, 7, 8, 9, 10, 11, 12, 113, 14, 15] .done) ?_;refine vB 1 ?_;refine Vs 0 rfl ?_;refine Vr 1 rfl (zF sg89 rfl hcp) ?_;refine Vr 0 rfl (zF sg46 rfl hc4) ?_;refine Vb 0 rfl (zO ez46 rfl rfl hA (by omega) (by omega)) ?_;refine Vr 1 rfl (zJ ag48 rfl rfl ha2) ?_
    refine Vr 0 rfl (zF sg46 rfl hc4) ?_;refine Vb 1 rfl (zO ez46 rfl rfl hA (by omega) (by omega)) ?_;refine Vr 0 rfl (zF sg42 rfl ho2) ?_;refine Vb 0 rfl (df (yn rfl rfl) (by assumption)) ?_;refine zA rfl ((zR cl145 rfl .k0 (fun m' hm he => test145 (br := false) (i2.mono hm) h2 hd) rfl ?_ ?_)) rfl
    ·rintro _ _ ⟨h3, rfl⟩;exact pW hl2 ⟨yN h3 |>.imp id (fun h => by omega), rfl⟩
    rintro _ _ ⟨t, h3, h4, rfl, rfl⟩;have htl := xA h3 h4;refine Vs 1 rfl ?_;refine Vn 4 ?_;have e2 : s ++ [32, 111, 114, 32] ++ t = sgnT sOr s t := by simp [sgnT]
    rw [e2, show p + 1 + condW k1 + condW k2 = p + (1 + condW k1 + condW k2) by omega];exact zX hl2 [_] ⟨rfl, trivial⟩ [_] .p0 ⟨_, yb h1 h3, by omega, rfl, rfl⟩
  ·refine vr 5 ?_;refine Lo 0 sg42 rfl hc0 ?_;refine cfo 2 ?_;refine Lo 0 sg42 rfl hc1 ?_;refine ctr 2 ?_;refine Lo 0 sg9 rfl hc2 ?_;refine ctr 2 ?_;refine Mt 12 ?_;refine Lo 6 sg42 rfl hc0 ?_;refine cfo 6 ?_;refine cfo 5 ?_;refine cfo 6 ?_;refine cfo 7 ?_;refine cfo 5 ?_;refine ctr 12 ?_;refine Lo 2 sg43 rfl hc3 ?_;refine cto 2 ?_;refine Lo 2 sg46 rfl hc4 ?_;refine cfo 1 ?_;refine Mf fun _ => ?_
   exact pW hl2 ⟨.inl (zw (fun h => by unfold shapeC at h; omega)), rfl⟩
 ·refine vr 5 ?_;refine Lo 0 sg42 rfl hc0 ?_;refine cfo 2 ?_;refine Lo 0 sg42 rfl hc1 ?_;refine ctr 2 ?_;refine Lo 0 sg9 rfl hc2 ?_;refine ctr 2 ?_;refine Mt 12 ?_;refine Lo 6 sg42 rfl hc0 ?_;refine cfo 6 ?_;refine cfo 5 ?_;refine cfo 6 ?_;refine cfo 7 ?_;refine cfo 5 ?_;refine ctr 12 ?_;refine Lo 2 sg43 rfl hc3 ?_;refine cfo 7 ?_;refine Mf fun _ => ?_
  exact pW hl2 ⟨.inl (zw (fun h => by unfold shapeC at h; omega)), rfl⟩
end
section
open Wd Tp Kd
variable {m : Mp} {b d p : Nat}
theorem Xy (hT : TabI m) (hU : Tabs m) {op who : Int} {name : List UInt8} {nums : List NumT} {kids : List CondT} {A B : Option Addr} {ca cb : Nat} {vs us : List Value} (hma : nums.length ≤ 9223372036854775807) (hmb : kids.length ≤ 9223372036854775807) (hnm : name.length ≤ 140737488355328)
  (hra : Rd m A vs) (hva : vs.length = nums.length * 4) (hka : ∀ (i : Nat) (hi : i < nums.length), NumR m ((vs.drop (i * 4)).take 4) nums[i])
  (hrb : Rd m B us) (hvb : us.length = kids.length * 5) (hkb : ∀ (i : Nat) (hi : i < kids.length), CondR m ((us.drop (i * 5)).take 5) kids[i])
  (ih : ∀ (i : Nat) (hi : i < kids.length), CondOk m b ((us.drop (i * 5)).take 5) kids[i]) (hwho : who = 0) (hname : name = []) (h4 : op = 4) : CondOk m b (c5 op who name A nums.length ca B kids.length cb) (.mk op who name nums kids) := by
 intro m0 hm0 p d hp hd;skip;refine za [.tmp 4] Tryz.func115 rfl rfl rfl ?_;refine tr 2 ?_;refine Bx 0 rfl fun b1 => ?_;refine Bx 4 rfl fun b2 => ?_;refine zG .here (fun ns hi _ hd1 => ?_);refine zG .here (fun ns2 hi2 _ hd2 => ?_)
 have hR : Rd (uni (uni m0 ns) ns2) (some ⟨b2, 0, none⟩) (c5 op who name A nums.length ca B kids.length cb) := ((Rd.blk hi).mono (zV hd1)).mono (zM _ _);have hR1 : Rd (uni (uni m0 ns) ns2) (some ⟨b1, 0, none⟩) [ptr b] := (Rd.blk hi2).mono (zV hd2);have hl2 : Le m0 (uni (uni m0 ns) ns2) := (zM _ _).trans (zM _ _);clear hi hd1 hi2 hd2;generalize uni (uni m0 ns) ns2 = m9 at hR hR1 hl2
 have hl9 := hm0.trans hl2;have hT := hT.mono hl9;have hU := hU.mono hl9;have hat : At m9 ⟨b2, 0, none⟩ (c5 op who name A nums.length ca B kids.length cb) := fun i u hi => hR.at_ hi;have hcp : mc m9 ⟨b1, 0, none⟩ = some (ptr b) := hR1.at_ (i := 0) rfl;have hc0 : mc m9 ⟨b2, 0, none⟩ = some (.int .i8 op) := hR.at_ (i := 0) rfl
 have hc1 : mc m9 ⟨b2, 1, none⟩ = some (.int .i8 who) := hR.at_ (i := 1) rfl;have hc2 : mc m9 ⟨b2, 2, none⟩ = some (.string (bs name)) := hR.at_ (i := 2) rfl;have hc3 : mc m9 ⟨b2, 3, none⟩ = some (.slice A nums.length ca) := hR.at_ (i := 3) rfl;have hc4 : mc m9 ⟨b2, 4, none⟩ = some (.slice B kids.length cb) := hR.at_ (i := 4) rfl;have hw1 := ya (.mk op who name nums kids);refine tr 1 ?_
 refine Lo 0 sg89 rfl hcp ?_;refine Cp cl109 rfl .k0 (fun m' hm he => part109 hp) ?_ ?_
 ·rintro _ _ ⟨h1, rfl⟩;exact pW hl2 ⟨.inr (by omega), rfl⟩
 rintro _ _ ⟨hp1, rfl, rfl⟩;subst hwho hname;subst h4;by_cases hna : nums.length = 0
 ·by_cases hnk : kids.length = 2
  ·refine vr 5 ?_;refine Lo 0 sg42 rfl hc0 ?_;refine cfo 2 ?_;refine Lo 0 sg42 rfl hc1 ?_;refine ctr 2 ?_;refine Lo 0 sg9 rfl hc2 ?_;refine ctr 2 ?_;refine Mt 12 ?_;refine Lo 6 sg42 rfl hc0 ?_;refine cfo 6 ?_;refine cfo 5 ?_;refine cfo 6 ?_;refine cfo 7 ?_;refine ctr 15 ?_;refine Lo 2 sg43 rfl hc3 ?_;refine cto 2 ?_;refine Lo 2 sg46 rfl hc4 ?_;refine cto 1 ?_;refine Mt 0 ?_
   have hn0 := List.eq_nil_of_length_eq_zero hna;obtain ⟨k1, k2, rfl⟩ := uA hnk;subst hn0;have hA : B.isSome = true := hrb.isSome (by rw [hvb]; simp);have f1 : CondR m ((us.drop (0 * 5)).take 5) k1 := hkb 0 (by simp);have i1 : CondOk m9 b ((us.drop (0 * 5)).take 5) k1 := (ih 0 (by simp)).mono hl9;have ha1 := (hrb.elem (0 * 5) 5).mono hl9
   obtain ⟨w1, nm1, A1, la1, ca1, B1, lb1, cb1, e1⟩ := CondR.formO f1;rw [e1] at ha1 i1;have ho1 : mc m9 ((sa B).add (0 * 5)) = some (.int .i8 (opC k1)) := ha1.at0;clear f1 e1;have f2 : CondR m ((us.drop (1 * 5)).take 5) k2 := hkb 1 (by simp);have i2 : CondOk m9 b ((us.drop (1 * 5)).take 5) k2 := (ih 1 (by simp)).mono hl9;have ha2 := (hrb.elem (1 * 5) 5).mono hl9
   obtain ⟨w2, nm2, A2, la2, ca2, B2, lb2, cb2, e2⟩ := CondR.formO f2;rw [e2] at ha2 i2;have ho2 : mc m9 ((sa B).add (1 * 5)) = some (.int .i8 (opC k2)) := ha2.at0;clear f2 e2;rw [um, ui];by_cases h15 : opC k1 = 5
   ·rw [decide_eq_true h15];refine vr 6 ?_;refine Lo 5 sg42 rfl hc0 ?_;refine cfo 6 ?_;refine cfo 6 ?_;refine cfo 6 ?_;refine ctr 5 ?_;refine Db (sq [0, 1, 2, 3, 4, 5, 6, 7, 8, 9, 10, 111, 12] .done) ?_;refine Vr 1 rfl (zF sg89 rfl hcp) ?_;refine Vr 0 rfl (zF sg46 rfl hc4) ?_;refine Vb 0 rfl (zO ez46 rfl rfl hA (by omega) (by omega)) ?_
    refine Vr 1 rfl (zJ ag48 rfl rfl ha1) ?_;refine Vr 0 rfl (zF sg46 rfl hc4) ?_;refine Vb 1 rfl (zO ez46 rfl rfl hA (by omega) (by omega)) ?_;refine Vr 0 rfl (zF sg42 rfl ho1) ?_;refine Vb 0 rfl (dt (yn rfl rfl) (by assumption)) ?_;refine zA rfl ((zR cl145 rfl .k0 (fun m' hm he => test145 (br := true) (i1.mono hm) hp1 hd) rfl ?_ ?_)) rfl
    ·rintro _ _ ⟨h1, rfl⟩;exact pW hl2 ⟨(xw h1 (v := condW k2)).imp id (fun h => by omega), rfl⟩
    rintro _ _ ⟨s, h1, h2, rfl, rfl⟩;have hsl := xA (br := true)  h1 h2;by_cases h25 : opC k2 = 5
    ·rw [decide_eq_true h25, Bool.true_or];refine vB 1 ?_;refine Vn 2 ?_;refine Db (sq [0, 1, 2, 3, 4, 5, 6, 7, 8, 9, 10, 11, 12, 13, 14, 15, 16, 17, 18, 19, 20, 121, 22, 23] .done) ?_;refine vB 1 ?_;refine Vs 0 rfl ?_;refine Vr 1 rfl (zF sg89 rfl hcp) ?_;refine Vr 0 rfl (zF sg46 rfl hc4) ?_;refine Vb 0 rfl (zO ez46 rfl rfl hA (by omega) (by omega)) ?_
     refine Vr 1 rfl (zJ ag48 rfl rfl ha2) ?_;refine Vr 0 rfl (zF sg46 rfl hc4) ?_;refine Vb 1 rfl (zO ez46 rfl rfl hA (by omega) (by omega)) ?_;refine Vr 0 rfl (zF sg42 rfl ho2) ?_;refine Vb 8 rfl (dt (yn rfl rfl) (by assumption)) ?_;refine zA rfl ((zR cl145 rfl .k0 (fun m' hm he => test145 (br := true) (i2.mono hm) h2 hd) rfl ?_ ?_)) rfl
     ·rintro _ _ ⟨h3, rfl⟩;exact pW hl2 ⟨yN h3 |>.imp id (fun h => by omega), rfl⟩
     rintro _ _ ⟨t, h3, h4, rfl, rfl⟩;have htl := xA h3 h4;refine Vs 1 rfl ?_;refine Vn 4 ?_;have e2 : s ++ [32, 97, 110, 100, 32] ++ t = sgnT sAnd s t := by simp [sgnT]
     rw [e2, show p + 1 + condW k1 + condW k2 = p + (1 + condW k1 + condW k2) by omega];exact zX hl2 [_] ⟨rfl, trivial⟩ [_] .p0 ⟨_, yb h1 h3, by omega, rfl, rfl⟩
    rw [decide_eq_false h25, Bool.false_or];by_cases h24 : opC k2 = 4
    ·rw [decide_eq_true h24];refine vB 1 ?_;refine Vn 2 ?_;refine Db (sq [0, 1, 2, 3, 4, 5, 6, 7, 8, 9, 10, 11, 12, 13, 14, 15, 16, 17, 18, 19, 20, 121, 22, 23] .done) ?_;refine vB 1 ?_;refine Vs 0 rfl ?_;refine Vr 1 rfl (zF sg89 rfl hcp) ?_;refine Vr 0 rfl (zF sg46 rfl hc4) ?_;refine Vb 0 rfl (zO ez46 rfl rfl hA (by omega) (by omega)) ?_
     refine Vr 1 rfl (zJ ag48 rfl rfl ha2) ?_;refine Vr 0 rfl (zF sg46 rfl hc4) ?_;refine Vb 1 rfl (zO ez46 rfl rfl hA (by omega) (by omega)) ?_;refine Vr 0 rfl (zF sg42 rfl ho2) ?_;refine Vb 2 rfl (df (yn rfl rfl) (by assumption)) ?_;refine Vr 0 rfl (zF sg46 rfl hc4) ?_;refine Vb 1 rfl (zO ez46 rfl rfl hA (by omega) (by omega)) ?_
     refine Vr 0 rfl (zF sg42 rfl ho2) ?_;refine Vb 1 rfl (dt (yn rfl rfl) (by assumption)) ?_;refine zA rfl ((zR cl145 rfl .k0 (fun m' hm he => test145 (br := true) (i2.mono hm) h2 hd) rfl ?_ ?_)) rfl
     ·rintro _ _ ⟨h3, rfl⟩;exact pW hl2 ⟨yN h3 |>.imp id (fun h => by omega), rfl⟩
     rintro _ _ ⟨t, h3, h4, rfl, rfl⟩;have htl := xA h3 h4;refine Vs 1 rfl ?_;refine Vn 4 ?_;have e2 : s ++ [32, 97, 110, 100, 32] ++ t = sgnT sAnd s t := by simp [sgnT]
     rw [e2, show p + 1 + condW k1 + condW k2 = p + (1 + condW k1 + condW k2) by omega];exact zX hl2 [_] ⟨rfl, trivial⟩ [_] .p0 ⟨_, yb h1 h3, by omega, rfl, rfl⟩
    ·rw [decide_eq_false h24];refine vB 1 ?_;refine Vn 2 ?_;refine Db (sq [0, 1, 2, 3, 4, 5, 6, 7, 8, 9, 10, 11, 12, 13, 14, 15, 16, 17, 18, 19, 20, 121, 22, 23] .done) ?_;refine vB 1 ?_;refine Vs 0 rfl ?_;refine Vr 1 rfl (zF sg89 rfl hcp) ?_;refine Vr 0 rfl (zF sg46 rfl hc4) ?_;refine Vb 0 rfl (zO ez46 rfl rfl hA (by omega) (by omega)) ?_
     refine Vr 1 rfl (zJ ag48 rfl rfl ha2) ?_;refine Vr 0 rfl (zF sg46 rfl hc4) ?_;refine Vb 1 rfl (zO ez46 rfl rfl hA (by omega) (by omega)) ?_;refine Vr 0 rfl (zF sg42 rfl ho2) ?_;refine Vb 2 rfl (df (yn rfl rfl) (by assumption)) ?_;refine Vr 0 rfl (zF sg46 rfl hc4) ?_;refine Vb 1 rfl (zO ez46 rfl rfl hA (by omega) (by omega)) ?_
     refine Vr 0 rfl (zF sg42 rfl ho2) ?_;refine Vb 1 rfl (df (yn rfl rfl) (by assumption)) ?_;refine zA rfl ((zR cl145 rfl .k0 (fun m' hm he => test145 (br := false) (i2.mono hm) h2 hd) rfl ?_ ?_)) rfl
     ·rintro _ _ ⟨h3, rfl⟩;exact pW hl2 ⟨yN h3 |>.imp id (fun h => by omega), rfl⟩
     rintro _ _ ⟨t, h3, h4, rfl, rfl⟩;have htl := xA h3 h4;refine Vs 1 rfl ?_;refine Vn 4 ?_;have e2 : s ++ [32, 97, 110, 100, 32] ++ t = sgnT sAnd s t := by simp [sgnT]
     rw [e2, show p + 1 + condW k1 + condW k2 = p + (1 + condW k1 + condW k2) by omega];exact zX hl2 [_] ⟨rfl, trivial⟩ [_] .p0 ⟨_, yb h1 h3, by omega, rfl, rfl⟩
   ·rw [decide_eq_false h15];refine vr 6 ?_;refine Lo 5 sg42 rfl hc0 ?_;refine cfo 6 ?_;refine cfo 6 ?_;refine cfo 6 ?_;refine ctr 5 ?_;refine Db (sq [0, 1, 2, 3, 4, 5, 6, 7, 8, 9, 10, 111, 12] .done) ?_;refine Vr 1 rfl (zF sg89 rfl hcp) ?_;refine Vr 0 rfl (zF sg46 rfl hc4) ?_;refine Vb 0 rfl (zO ez46 rfl rfl hA (by omega) (by omega)) ?_
    refine Vr 1 rfl (zJ ag48 rfl rfl ha1) ?_;refine Vr 0 rfl (zF sg46 rfl hc4) ?_;refine Vb 1 rfl (zO ez46 rfl rfl hA (by omega) (by omega)) ?_;refine Vr 0 rfl (zF sg42 rfl ho1) ?_;refine Vb 0 rfl (df (yn rfl rfl) (by assumption)) ?_;refine zA rfl ((zR cl145 rfl .k0 (fun m' hm he => test145 (br := false) (i1.mono hm) hp1 hd) rfl ?_ ?_)) rfl
    ·rintro _ _ ⟨h1, rfl⟩;exact pW hl2 ⟨(xw h1 (v := condW k2)).imp id (fun h => by omega), rfl⟩
    rintro _ _ ⟨s, h1, h2, rfl, rfl⟩;have hsl := xA (br := false)  h1 h2;by_cases h25 : opC k2 = 5
    ·rw [decide_eq_true h25, Bool.true_or];refine vB 1 ?_;refine Vn 2 ?_;refine Db (sq [0, 1, 2, 3, 4, 5, 6, 7, 8, 9, 10, 11, 12, 13, 14, 15, 16, 17, 18, 19, 20, 121, 22, 23] .done) ?_;refine vB 1 ?_;refine Vs 0 rfl ?_;refine Vr 1 rfl (zF sg89 rfl hcp) ?_;refine Vr 0 rfl (zF sg46 rfl hc4) ?_;refine Vb 0 rfl (zO ez46 rfl rfl hA (by omega) (by omega)) ?_
     refine Vr 1 rfl (zJ ag48 rfl rfl ha2) ?_;refine Vr 0 rfl (zF sg46 rfl hc4) ?_;refine Vb 1 rfl (zO ez46 rfl rfl hA (by omega) (by omega)) ?_;refine Vr 0 rfl (zF sg42 rfl ho2) ?_;refine Vb 8 rfl (dt (yn rfl rfl) (by assumption)) ?_;refine zA rfl ((zR cl145 rfl .k0 (fun m' hm he => test145 (br := true) (i2.mono hm) h2 hd) rfl ?_ ?_)) rfl
     ·rintro _ _ ⟨h3, rfl⟩;exact pW hl2 ⟨yN h3 |>.imp id (fun h => by omega), rfl⟩
     rintro _ _ ⟨t, h3, h4, rfl, rfl⟩;have htl := xA h3 h4;refine Vs 1 rfl ?_;refine Vn 4 ?_;have e2 : s ++ [32, 97, 110, 100, 32] ++ t = sgnT sAnd s t := by simp [sgnT]
     rw [e2, show p + 1 + condW k1 + condW k2 = p + (1 + condW k1 + condW k2) by omega];exact zX hl2 [_] ⟨rfl, trivial⟩ [_] .p0 ⟨_, yb h1 h3, by omega, rfl, rfl⟩
    rw [decide_eq_false h25, Bool.false_or];by_cases h24 : opC k2 = 4
    ·rw [decide_eq_true h24];refine vB 1 ?_;refine Vn 2 ?_;refine Db (sq [0, 1, 2, 3, 4, 5, 6, 7, 8, 9, 10, 11, 12, 13, 14, 15, 16, 17, 18, 19, 20, 121, 22, 23] .done) ?_;refine vB 1 ?_;refine Vs 0 rfl ?_;refine Vr 1 rfl (zF sg89 rfl hcp) ?_;refine Vr 0 rfl (zF sg46 rfl hc4) ?_;refine Vb 0 rfl (zO ez46 rfl rfl hA (by omega) (by omega)) ?_
     refine Vr 1 rfl (zJ ag48 rfl rfl ha2) ?_;refine Vr 0 rfl (zF sg46 rfl hc4) ?_;refine Vb 1 rfl (zO ez46 rfl rfl hA (by omega) (by omega)) ?_;refine Vr 0 rfl (zF sg42 rfl ho2) ?_;refine Vb 2 rfl (df (yn rfl rfl) (by assumption)) ?_;refine Vr 0 rfl (zF sg46 rfl hc4) ?_;refine Vb 1 rfl (zO ez46 rfl rfl hA (by omega) (by omega)) ?_
     refine Vr 0 rfl (zF sg42 rfl ho2) ?_;refine Vb 1 rfl (dt (yn rfl rfl) (by assumption)) ?_;refine zA rfl ((zR cl145 rfl .k0 (fun m' hm he => test145 (br := true) (i2.mono hm) h2 hd) rfl ?_ ?_)) rfl
     ·rintro _ _ ⟨h3, rfl⟩;exact pW hl2 ⟨yN h3 |>.imp id (fun h => by omega), rfl⟩
     rintro _ _ ⟨t, h3, h4, rfl, rfl⟩;have htl := xA h3 h4;refine Vs 1 rfl ?_;refine Vn 4 ?_;have e2 : s ++ [32, 97, 110, 100, 32] ++ t = sgnT sAnd s t := by simp [sgnT]
     rw [e2, show p + 1 + condW k1 + condW k2 = p + (1 + condW k1 + condW k2) by omega];exact zX hl2 [_] ⟨rfl, trivial⟩ [_] .p0 ⟨_, yb h1 h3, by omega, rfl, rfl⟩
    ·rw [decide_eq_false h24];refine vB 1 ?_;refine Vn 2 ?_;refine Db (sq [0, 1, 2, 3, 4, 5, 6, 7, 8, 9, 10, 11, 12, 13, 14, 15, 16, 17, 18, 19, 20, 121, 22, 23] .done) ?_;refine vB 1 ?_;refine Vs 0 rfl ?_;refine Vr 1 rfl (zF sg89 rfl hcp) ?_;refine Vr 0 rfl (zF sg46 rfl hc4) ?_;refine Vb 0 rfl (zO ez46 rfl rfl hA (by omega) (by omega)) ?_
     refine Vr 1 rfl (zJ ag48 rfl rfl ha2) ?_;refine Vr 0 rfl (zF sg46 rfl hc4) ?_;refine Vb 1 rfl (zO ez46 rfl rfl hA (by omega) (by omega)) ?_;refine Vr 0 rfl (zF sg42 rfl ho2) ?_;refine Vb 2 rfl (df (yn rfl rfl) (by assumption)) ?_;refine Vr 0 rfl (zF sg46 rfl hc4) ?_;refine Vb 1 rfl (zO ez46 rfl rfl hA (by omega) (by omega)) ?_
     refine Vr 0 rfl (zF sg42 rfl ho2) ?_;refine Vb 1 rfl (df (yn rfl rfl) (by assumption)) ?_;refine zA rfl ((zR cl145 rfl .k0 (fun m' hm he => test145 (br := false) (i2.mono hm) h2 hd) rfl ?_ ?_)) rfl
     ·rintro _ _ ⟨h3, rfl⟩;exact pW hl2 ⟨yN h3 |>.imp id (fun h => by omega), rfl⟩
     rintro _ _ ⟨t, h3, h4, rfl, rfl⟩;have htl := xA h3 h4;refine Vs 1 rfl ?_;refine Vn 4 ?_;have e2 : s ++ [32, 97, 110, 100, 32] ++ t = sgnT sAnd s t := by simp [sgnT]
     rw [e2, show p + 1 + condW k1 + condW k2 = p + (1 + condW k1 + condW k2) by omega];exact zX hl2 [_] ⟨rfl, trivial⟩ [_] .p0 ⟨_, yb h1 h3, by omega, rfl, rfl⟩
  ·refine vr 5 ?_;refine Lo 0 sg42 rfl hc0 ?_;refine cfo 2 ?_;refine Lo 0 sg42 rfl hc1 ?_;refine ctr 2 ?_;refine Lo 0 sg9 rfl hc2 ?_;refine ctr 2 ?_;refine Mt 12 ?_;refine Lo 6 sg42 rfl hc0 ?_;refine cfo 6 ?_;refine cfo 5 ?_;refine cfo 6 ?_;refine cfo 7 ?_;refine ctr 15 ?_;refine Lo 2 sg43 rfl hc3 ?_;refine cto 2 ?_;refine Lo 2 sg46 rfl hc4 ?_;refine cfo 1 ?_;refine Mf fun _ => ?_
   exact pW hl2 ⟨.inl (zw (fun h => by unfold shapeC at h; omega)), rfl⟩
 ·refine vr 5 ?_;refine Lo 0 sg42 rfl hc0 ?_;refine cfo 2 ?_;refine Lo 0 sg42 rfl hc1 ?_;refine ctr 2 ?_;refine Lo 0 sg9 rfl hc2 ?_;refine ctr 2 ?_;refine Mt 12 ?_;refine Lo 6 sg42 rfl hc0 ?_;refine cfo 6 ?_;refine cfo 5 ?_;refine cfo 6 ?_;refine cfo 7 ?_;refine ctr 15 ?_;refine Lo 2 sg43 rfl hc3 ?_;refine cfo 7 ?_;refine Mf fun _ => ?_
  exact pW hl2 ⟨.inl (zw (fun h => by unfold shapeC at h; omega)), rfl⟩
end
section
open Wd Tp Kd
variable {m : Mp} {b d p : Nat}
theorem Yq (hT : TabI m) (hU : Tabs m) {op who : Int} {name : List UInt8} {nums : List NumT} {kids : List CondT} {A B : Option Addr} {ca cb : Nat} {vs us : List Value} (hma : nums.length ≤ 9223372036854775807) (hmb : kids.length ≤ 9223372036854775807) (hnm : name.length ≤ 140737488355328)
  (hra : Rd m A vs) (hva : vs.length = nums.length * 4) (hka : ∀ (i : Nat) (hi : i < nums.length), NumR m ((vs.drop (i * 4)).take 4) nums[i])
  (hrb : Rd m B us) (hvb : us.length = kids.length * 5) (hkb : ∀ (i : Nat) (hi : i < kids.length), CondR m ((us.drop (i * 5)).take 5) kids[i])
  (ih : ∀ (i : Nat) (hi : i < kids.length), CondOk m b ((us.drop (i * 5)).take 5) kids[i]) (hwho : who = 0) (hname : name = []) (h0 : op = 0) : CondOk m b (c5 op who name A nums.length ca B kids.length cb) (.mk op who name nums kids) := by
 intro m0 hm0 p d hp hd;skip;refine za [.tmp 4] Tryz.func115 rfl rfl rfl ?_;refine tr 2 ?_;refine Bx 0 rfl fun b1 => ?_;refine Bx 4 rfl fun b2 => ?_;refine zG .here (fun ns hi _ hd1 => ?_);refine zG .here (fun ns2 hi2 _ hd2 => ?_)
 have hR : Rd (uni (uni m0 ns) ns2) (some ⟨b2, 0, none⟩) (c5 op who name A nums.length ca B kids.length cb) := ((Rd.blk hi).mono (zV hd1)).mono (zM _ _);have hR1 : Rd (uni (uni m0 ns) ns2) (some ⟨b1, 0, none⟩) [ptr b] := (Rd.blk hi2).mono (zV hd2);have hl2 : Le m0 (uni (uni m0 ns) ns2) := (zM _ _).trans (zM _ _);clear hi hd1 hi2 hd2;generalize uni (uni m0 ns) ns2 = m9 at hR hR1 hl2
 have hl9 := hm0.trans hl2;have hT := hT.mono hl9;have hU := hU.mono hl9;have hat : At m9 ⟨b2, 0, none⟩ (c5 op who name A nums.length ca B kids.length cb) := fun i u hi => hR.at_ hi;have hcp : mc m9 ⟨b1, 0, none⟩ = some (ptr b) := hR1.at_ (i := 0) rfl;have hc0 : mc m9 ⟨b2, 0, none⟩ = some (.int .i8 op) := hR.at_ (i := 0) rfl
 have hc1 : mc m9 ⟨b2, 1, none⟩ = some (.int .i8 who) := hR.at_ (i := 1) rfl;have hc2 : mc m9 ⟨b2, 2, none⟩ = some (.string (bs name)) := hR.at_ (i := 2) rfl;have hc3 : mc m9 ⟨b2, 3, none⟩ = some (.slice A nums.length ca) := hR.at_ (i := 3) rfl;have hc4 : mc m9 ⟨b2, 4, none⟩ = some (.slice B kids.length cb) := hR.at_ (i := 4) rfl;have hw1 := ya (.mk op who name nums kids);refine tr 1 ?_
 refine Lo 0 sg89 rfl hcp ?_;refine Cp cl109 rfl .k0 (fun m' hm he => part109 hp) ?_ ?_
 ·rintro _ _ ⟨h1, rfl⟩;exact pW hl2 ⟨.inr (by omega), rfl⟩
 rintro _ _ ⟨hp1, rfl, rfl⟩;subst hwho hname;subst h0;by_cases hna : nums.length = 2
 ·by_cases hnk : kids.length = 0
  ·refine vr 5 ?_;refine Lo 0 sg42 rfl hc0 ?_;refine cfo 2 ?_;refine Lo 0 sg42 rfl hc1 ?_;refine ctr 2 ?_;refine Lo 0 sg9 rfl hc2 ?_;refine ctr 2 ?_;refine Mt 12 ?_;refine Lo 6 sg42 rfl hc0 ?_;refine ctr 15 ?_;refine Lo 2 sg43 rfl hc3 ?_;refine cto 2 ?_;refine Lo 2 sg46 rfl hc4 ?_;refine cto 1 ?_;refine Mt 0 ?_;have hk0 := List.eq_nil_of_length_eq_zero hnk;obtain ⟨x1, x2, rfl⟩ := uA hna
   subst hk0;have hA : A.isSome = true := hra.isSome (by rw [hva]; simp);have f1 : NumR m ((vs.drop (0 * 4)).take 4) x1 := hka 0 (by simp);have f2 : NumR m ((vs.drop (1 * 4)).take 4) x2 := hka 1 (by simp);have ha1 := (hra.elem (0 * 4) 4).mono hl9;have ha2 := (hra.elem (1 * 4) 4).mono hl9;have i1 : NumOk m9 b _ x1 := num111 (b := b) hT (f1.mono hl9)
   have i2 : NumOk m9 b _ x2 := num111 (b := b) hT (f2.mono hl9);obtain ⟨n1, w1, A1, l1, c1, e1⟩ := NumR.formO f1;obtain ⟨n2, w2, A2, l2, c2, e2⟩ := NumR.formO f2;rw [e1] at ha1 i1;rw [e2] at ha2 i2;clear f1 f2 e1 e2;rw [vg, uk];refine vr 6 ?_;refine Lo 5 sg42 rfl hc0 ?_;refine cfo 6 ?_;refine cfo 6 ?_;refine cfo 6 ?_;refine cfo 8 ?_;refine Db (sq [0, 1, 2, 3, 4, 105, 6] .done) ?_
   refine Vr 1 rfl (zF sg89 rfl hcp) ?_;refine Vr 0 rfl (zF sg43 rfl hc3) ?_;refine Vb 0 rfl (zO ez43 rfl rfl hA (by omega) (by omega)) ?_;refine Vr 0 rfl (zJ ag45 rfl rfl ha1) ?_;refine zA rfl ((zR cl111 rfl .k0 (fun m' hm he => i1 m' hm (p + 1) d hp1 hd) rfl ?_ ?_)) rfl
   ·rintro _ _ ⟨h1, rfl⟩;exact pW hl2 ⟨(xw h1 (v := numW x2)).imp id (fun h => by omega), rfl⟩
   rintro _ _ ⟨s, h1, h2, rfl, rfl⟩;have hsl := yp h1 h2;skip;refine vB 1 ?_;refine Vn 2 ?_;refine Db (sq [0, 2, 3, 4, 8, 9, 10, 11, 12] (.fork (sq [101, 5] (.fork (sq [106, 7, 113, 14, 15] .done) (sq [113, 106, 7, 14, 15] .done))) (sq [113, 101, 5, 106, 7, 14, 15] .done))) ?_;refine vB 2 ?_;refine Vr 0 rfl (zF sg42 rfl hc0) ?_;refine Vb 0 rfl (uM rfl rfl (wu8 (by omega) (by omega))) ?_
   refine Vr 1 rfl (zF sg89 rfl hcp) ?_;refine Vr 0 rfl (zF sg43 rfl hc3) ?_;refine Vb 0 rfl (zO ez43 rfl rfl hA (by omega) (by omega)) ?_;refine Vr 0 rfl (zJ ag45 rfl rfl ha2) ?_;refine zk ?_ ?_;refine zA rfl (zQ sl61 rfl rfl rfl rfl (fun b3 => ?_)) rfl;refine Vb 0 rfl (yy ez61 rfl rfl (hR.isSome (by simp <;> omega)) (by omega) (by omega)) ?_
   refine zk ?_ ?_
   ·refine Ve 0 rfl ((zZ (b := b3) (i := 0) (l := [.string (bs [32, 60, 32]), .string (bs [32, 60, 61, 32]), .string (bs [32, 61, 61, 32])]) sg9 rfl .here rfl)) ?_;refine Vs 0 rfl ?_;refine zA rfl ((zR cl111 rfl .k1 (fun m' hm he => i2 m' hm (p + 1 + numW x1) d h2 hd) rfl ?_ ?_)) rfl
    ·rintro _ _ ⟨h3, rfl⟩;exact pW hl2 ⟨yN h3 |>.imp id (fun h => by omega), rfl⟩
    rintro _ _ ⟨t, h3, h4, rfl, rfl⟩;have htl := yp h3 h4;refine Vs 1 rfl ?_;refine Vn 2 ?_;have e2 : s ++ [32, 60, 32] ++ t = sgnT sLt s t := by simp [sgnT]
    rw [e2, show p + 1 + numW x1 + numW x2 = p + (1 + numW x1 + numW x2) by omega];exact zX hl2 [_] ⟨rfl, trivial⟩ [_] .p0 ⟨_, yb h1 h3, by omega, rfl, rfl⟩
   ·skip;refine zA rfl ((zR cl111 rfl .k1 (fun m' hm he => i2 m' hm (p + 1 + numW x1) d h2 hd) rfl ?_ ?_)) rfl
    ·rintro _ _ ⟨h3, rfl⟩;exact pW hl2 ⟨yN h3 |>.imp id (fun h => by omega), rfl⟩
    rintro _ _ ⟨t, h3, h4, rfl, rfl⟩;have htl := yp h3 h4;skip;refine Ve 0 rfl ((zZ (b := b3) (i := 0) (l := [.string (bs [32, 60, 32]), .string (bs [32, 60, 61, 32]), .string (bs [32, 61, 61, 32])]) sg9 rfl .h1 rfl)) ?_;refine Vs 0 rfl ?_;refine Vs 1 rfl ?_;refine Vn 2 ?_;have e2 : s ++ [32, 60, 32] ++ t = sgnT sLt s t := by simp [sgnT]
    rw [e2, show p + 1 + numW x1 + numW x2 = p + (1 + numW x1 + numW x2) by omega];exact zX hl2 [_] ⟨rfl, trivial⟩ [_] .p0 ⟨_, yb h1 h3, by omega, rfl, rfl⟩
   ·refine zA rfl ((zR cl111 rfl .k0 (fun m' hm he => i2 m' hm (p + 1 + numW x1) d h2 hd) rfl ?_ ?_)) rfl
    ·rintro _ _ ⟨h3, rfl⟩;exact pW hl2 ⟨yN h3 |>.imp id (fun h => by omega), rfl⟩
    rintro _ _ ⟨t, h3, h4, rfl, rfl⟩;have htl := yp h3 h4;refine zA rfl (zQ sl61 rfl rfl rfl rfl (fun b3 => ?_)) rfl;refine Vb 0 rfl (yy ez61 rfl rfl (hR.isSome (by simp <;> omega)) (by omega) (by omega)) ?_
    refine Ve 0 rfl ((zZ (b := b3) (i := 0) (l := [.string (bs [32, 60, 32]), .string (bs [32, 60, 61, 32]), .string (bs [32, 61, 61, 32])]) sg9 rfl .here rfl)) ?_;refine Vs 0 rfl ?_;refine Vs 1 rfl ?_;refine Vn 2 ?_;have e2 : s ++ [32, 60, 32] ++ t = sgnT sLt s t := by simp [sgnT]
    rw [e2, show p + 1 + numW x1 + numW x2 = p + (1 + numW x1 + numW x2) by omega];exact zX hl2 [_] ⟨rfl, trivial⟩ [_] .p1 ⟨_, yb h1 h3, by omega, rfl, rfl⟩
  ·refine vr 5 ?_;refine Lo 0 sg42 rfl hc0 ?_;refine cfo 2 ?_;refine Lo 0 sg42 rfl hc1 ?_;refine ctr 2 ?_;refine Lo 0 sg9 rfl hc2 ?_;refine ctr 2 ?_;refine Mt 12 ?_;refine Lo 6 sg42 rfl hc0 ?_;refine ctr 15 ?_;refine Lo 2 sg43 rfl hc3 ?_;refine cto 2 ?_;refine Lo 2 sg46 rfl hc4 ?_;refine cfo 1 ?_;refine Mf fun _ => ?_;exact pW hl2 ⟨.inl (zw (fun h => by unfold shapeC at h; omega)), rfl⟩
 ·refine vr 5 ?_;refine Lo 0 sg42 rfl hc0 ?_;refine cfo 2 ?_;refine Lo 0 sg42 rfl hc1 ?_;refine ctr 2 ?_;refine Lo 0 sg9 rfl hc2 ?_;refine ctr 2 ?_;refine Mt 12 ?_;refine Lo 6 sg42 rfl hc0 ?_;refine ctr 15 ?_;refine Lo 2 sg43 rfl hc3 ?_;refine cfo 7 ?_;refine Mf fun _ => ?_;exact pW hl2 ⟨.inl (zw (fun h => by unfold shapeC at h; omega)), rfl⟩
end
section
open Wd Tp Kd
variable {m : Mp} {b d p : Nat}
theorem Yp (hT : TabI m) (hU : Tabs m) {op who : Int} {name : List UInt8} {nums : List NumT} {kids : List CondT} {A B : Option Addr} {ca cb : Nat} {vs us : List Value} (hma : nums.length ≤ 9223372036854775807) (hmb : kids.length ≤ 9223372036854775807) (hnm : name.length ≤ 140737488355328)
  (hra : Rd m A vs) (hva : vs.length = nums.length * 4) (hka : ∀ (i : Nat) (hi : i < nums.length), NumR m ((vs.drop (i * 4)).take 4) nums[i])
  (hrb : Rd m B us) (hvb : us.length = kids.length * 5) (hkb : ∀ (i : Nat) (hi : i < kids.length), CondR m ((us.drop (i * 5)).take 5) kids[i])
  (ih : ∀ (i : Nat) (hi : i < kids.length), CondOk m b ((us.drop (i * 5)).take 5) kids[i]) (hwho : who = 0) (hname : name = []) (h0 : op = 1) : CondOk m b (c5 op who name A nums.length ca B kids.length cb) (.mk op who name nums kids) := by
 intro m0 hm0 p d hp hd;skip;refine za [.tmp 4] Tryz.func115 rfl rfl rfl ?_;refine tr 2 ?_;refine Bx 0 rfl fun b1 => ?_;refine Bx 4 rfl fun b2 => ?_;refine zG .here (fun ns hi _ hd1 => ?_);refine zG .here (fun ns2 hi2 _ hd2 => ?_)
 have hR : Rd (uni (uni m0 ns) ns2) (some ⟨b2, 0, none⟩) (c5 op who name A nums.length ca B kids.length cb) := ((Rd.blk hi).mono (zV hd1)).mono (zM _ _);have hR1 : Rd (uni (uni m0 ns) ns2) (some ⟨b1, 0, none⟩) [ptr b] := (Rd.blk hi2).mono (zV hd2);have hl2 : Le m0 (uni (uni m0 ns) ns2) := (zM _ _).trans (zM _ _);clear hi hd1 hi2 hd2;generalize uni (uni m0 ns) ns2 = m9 at hR hR1 hl2
 have hl9 := hm0.trans hl2;have hT := hT.mono hl9;have hU := hU.mono hl9;have hat : At m9 ⟨b2, 0, none⟩ (c5 op who name A nums.length ca B kids.length cb) := fun i u hi => hR.at_ hi;have hcp : mc m9 ⟨b1, 0, none⟩ = some (ptr b) := hR1.at_ (i := 0) rfl;have hc0 : mc m9 ⟨b2, 0, none⟩ = some (.int .i8 op) := hR.at_ (i := 0) rfl
 have hc1 : mc m9 ⟨b2, 1, none⟩ = some (.int .i8 who) := hR.at_ (i := 1) rfl;have hc2 : mc m9 ⟨b2, 2, none⟩ = some (.string (bs name)) := hR.at_ (i := 2) rfl;have hc3 : mc m9 ⟨b2, 3, none⟩ = some (.slice A nums.length ca) := hR.at_ (i := 3) rfl;have hc4 : mc m9 ⟨b2, 4, none⟩ = some (.slice B kids.length cb) := hR.at_ (i := 4) rfl;have hw1 := ya (.mk op who name nums kids);refine tr 1 ?_
 refine Lo 0 sg89 rfl hcp ?_;refine Cp cl109 rfl .k0 (fun m' hm he => part109 hp) ?_ ?_
 ·rintro _ _ ⟨h1, rfl⟩;exact pW hl2 ⟨.inr (by omega), rfl⟩
 rintro _ _ ⟨hp1, rfl, rfl⟩;subst hwho hname;subst h0;by_cases hna : nums.length = 2
 ·by_cases hnk : kids.length = 0
  ·refine vr 5 ?_;refine Lo 0 sg42 rfl hc0 ?_;refine cfo 2 ?_;refine Lo 0 sg42 rfl hc1 ?_;refine ctr 2 ?_;refine Lo 0 sg9 rfl hc2 ?_;refine ctr 2 ?_;refine Mt 12 ?_;refine Lo 6 sg42 rfl hc0 ?_;refine cfo 6 ?_;refine ctr 15 ?_;refine Lo 2 sg43 rfl hc3 ?_;refine cto 2 ?_;refine Lo 2 sg46 rfl hc4 ?_;refine cto 1 ?_;refine Mt 0 ?_;have hk0 := List.eq_nil_of_length_eq_zero hnk
   obtain ⟨x1, x2, rfl⟩ := uA hna;subst hk0;have hA : A.isSome = true := hra.isSome (by rw [hva]; simp);have f1 : NumR m ((vs.drop (0 * 4)).take 4) x1 := hka 0 (by simp);have f2 : NumR m ((vs.drop (1 * 4)).take 4) x2 := hka 1 (by simp);have ha1 := (hra.elem (0 * 4) 4).mono hl9;have ha2 := (hra.elem (1 * 4) 4).mono hl9;have i1 : NumOk m9 b _ x1 := num111 (b := b) hT (f1.mono hl9)
   have i2 : NumOk m9 b _ x2 := num111 (b := b) hT (f2.mono hl9);obtain ⟨n1, w1, A1, l1, c1, e1⟩ := NumR.formO f1;obtain ⟨n2, w2, A2, l2, c2, e2⟩ := NumR.formO f2;rw [e1] at ha1 i1;rw [e2] at ha2 i2;clear f1 f2 e1 e2;rw [vf, uk];refine vr 6 ?_;refine Lo 5 sg42 rfl hc0 ?_;refine cfo 6 ?_;refine cfo 6 ?_;refine cfo 6 ?_;refine cfo 8 ?_;refine Db (sq [0, 1, 2, 3, 4, 105, 6] .done) ?_
   refine Vr 1 rfl (zF sg89 rfl hcp) ?_;refine Vr 0 rfl (zF sg43 rfl hc3) ?_;refine Vb 0 rfl (zO ez43 rfl rfl hA (by omega) (by omega)) ?_;refine Vr 0 rfl (zJ ag45 rfl rfl ha1) ?_;refine zA rfl ((zR cl111 rfl .k0 (fun m' hm he => i1 m' hm (p + 1) d hp1 hd) rfl ?_ ?_)) rfl
   ·rintro _ _ ⟨h1, rfl⟩;exact pW hl2 ⟨(xw h1 (v := numW x2)).imp id (fun h => by omega), rfl⟩
   rintro _ _ ⟨s, h1, h2, rfl, rfl⟩;have hsl := yp h1 h2;skip;refine vB 1 ?_;refine Vn 2 ?_;refine Db (sq [0, 2, 3, 4, 8, 9, 10, 11, 12] (.fork (sq [101, 5] (.fork (sq [106, 7, 113, 14, 15] .done) (sq [113, 106, 7, 14, 15] .done))) (sq [113, 101, 5, 106, 7, 14, 15] .done))) ?_;refine vB 2 ?_;refine Vr 0 rfl (zF sg42 rfl hc0) ?_;refine Vb 0 rfl (uM rfl rfl (wu8 (by omega) (by omega))) ?_
   refine Vr 1 rfl (zF sg89 rfl hcp) ?_;refine Vr 0 rfl (zF sg43 rfl hc3) ?_;refine Vb 0 rfl (zO ez43 rfl rfl hA (by omega) (by omega)) ?_;refine Vr 0 rfl (zJ ag45 rfl rfl ha2) ?_;refine zk ?_ ?_;refine zA rfl (zQ sl61 rfl rfl rfl rfl (fun b3 => ?_)) rfl;refine Vb 0 rfl (yy ez61 rfl rfl (hR.isSome (by simp <;> omega)) (by omega) (by omega)) ?_
   refine zk ?_ ?_
   ·refine Ve 0 rfl ((zZ (b := b3) (i := 1) (l := [.string (bs [32, 60, 32]), .string (bs [32, 60, 61, 32]), .string (bs [32, 61, 61, 32])]) sg9 rfl .here rfl)) ?_;refine Vs 0 rfl ?_;refine zA rfl ((zR cl111 rfl .k1 (fun m' hm he => i2 m' hm (p + 1 + numW x1) d h2 hd) rfl ?_ ?_)) rfl
    ·rintro _ _ ⟨h3, rfl⟩;exact pW hl2 ⟨yN h3 |>.imp id (fun h => by omega), rfl⟩
    rintro _ _ ⟨t, h3, h4, rfl, rfl⟩;have htl := yp h3 h4;refine Vs 1 rfl ?_;refine Vn 2 ?_;have e2 : s ++ [32, 60, 61, 32] ++ t = sgnT sLe s t := by simp [sgnT]
    rw [e2, show p + 1 + numW x1 + numW x2 = p + (1 + numW x1 + numW x2) by omega];exact zX hl2 [_] ⟨rfl, trivial⟩ [_] .p0 ⟨_, yb h1 h3, by omega, rfl, rfl⟩
   ·skip;refine zA rfl ((zR cl111 rfl .k1 (fun m' hm he => i2 m' hm (p + 1 + numW x1) d h2 hd) rfl ?_ ?_)) rfl
    ·rintro _ _ ⟨h3, rfl⟩;exact pW hl2 ⟨yN h3 |>.imp id (fun h => by omega), rfl⟩
    rintro _ _ ⟨t, h3, h4, rfl, rfl⟩;have htl := yp h3 h4;skip;refine Ve 0 rfl ((zZ (b := b3) (i := 1) (l := [.string (bs [32, 60, 32]), .string (bs [32, 60, 61, 32]), .string (bs [32, 61, 61, 32])]) sg9 rfl .h1 rfl)) ?_;refine Vs 0 rfl ?_;refine Vs 1 rfl ?_;refine Vn 2 ?_;have e2 : s ++ [32, 60, 61, 32] ++ t = sgnT sLe s t := by simp [sgnT]
    rw [e2, show p + 1 + numW x1 + numW x2 = p + (1 + numW x1 + numW x2) by omega];exact zX hl2 [_] ⟨rfl, trivial⟩ [_] .p0 ⟨_, yb h1 h3, by omega, rfl, rfl⟩
   ·refine zA rfl ((zR cl111 rfl .k0 (fun m' hm he => i2 m' hm (p + 1 + numW x1) d h2 hd) rfl ?_ ?_)) rfl
    ·rintro _ _ ⟨h3, rfl⟩;exact pW hl2 ⟨yN h3 |>.imp id (fun h => by omega), rfl⟩
    rintro _ _ ⟨t, h3, h4, rfl, rfl⟩;have htl := yp h3 h4;refine zA rfl (zQ sl61 rfl rfl rfl rfl (fun b3 => ?_)) rfl;refine Vb 0 rfl (yy ez61 rfl rfl (hR.isSome (by simp <;> omega)) (by omega) (by omega)) ?_
    refine Ve 0 rfl ((zZ (b := b3) (i := 1) (l := [.string (bs [32, 60, 32]), .string (bs [32, 60, 61, 32]), .string (bs [32, 61, 61, 32])]) sg9 rfl .here rfl)) ?_;refine Vs 0 rfl ?_;refine Vs 1 rfl ?_;refine Vn 2 ?_;have e2 : s ++ [32, 60, 61, 32] ++ t = sgnT sLe s t := by simp [sgnT]
    rw [e2, show p + 1 + numW x1 + numW x2 = p + (1 + numW x1 + numW x2) by omega];exact zX hl2 [_] ⟨rfl, trivial⟩ [_] .p1 ⟨_, yb h1 h3, by omega, rfl, rfl⟩
  ·refine vr 5 ?_;refine Lo 0 sg42 rfl hc0 ?_;refine cfo 2 ?_;refine Lo 0 sg42 rfl hc1 ?_;refine ctr 2 ?_;refine Lo 0 sg9 rfl hc2 ?_;refine ctr 2 ?_;refine Mt 12 ?_;refine Lo 6 sg42 rfl hc0 ?_;refine cfo 6 ?_;refine ctr 15 ?_;refine Lo 2 sg43 rfl hc3 ?_;refine cto 2 ?_;refine Lo 2 sg46 rfl hc4 ?_;refine cfo 1 ?_;refine Mf fun _ => ?_
   exact pW hl2 ⟨.inl (zw (fun h => by unfold shapeC at h; omega)), rfl⟩
 ·refine vr 5 ?_;refine Lo 0 sg42 rfl hc0 ?_;refine cfo 2 ?_;refine Lo 0 sg42 rfl hc1 ?_;refine ctr 2 ?_;refine Lo 0 sg9 rfl hc2 ?_;refine ctr 2 ?_;refine Mt 12 ?_;refine Lo 6 sg42 rfl hc0 ?_;refine cfo 6 ?_;refine ctr 15 ?_;refine Lo 2 sg43 rfl hc3 ?_;refine cfo 7 ?_;refine Mf fun _ => ?_;exact pW hl2 ⟨.inl (zw (fun h => by unfold shapeC at h; omega)), rfl⟩
end
section
open Wd Tp Kd
variable {m : Mp} {b d p : Nat}
theorem Yo (hT : TabI m) (hU : Tabs m) {op who : Int} {name : List UInt8} {nums : List NumT} {kids : List CondT} {A B : Option Addr} {ca cb : Nat} {vs us : List Value} (hma : nums.length ≤ 9223372036854775807) (hmb : kids.length ≤ 9223372036854775807) (hnm : name.length ≤ 140737488355328)
  (hra : Rd m A vs) (hva : vs.length = nums.length * 4) (hka : ∀ (i : Nat) (hi : i < nums.length), NumR m ((vs.drop (i * 4)).take 4) nums[i])
  (hrb : Rd m B us) (hvb : us.length = kids.length * 5) (hkb : ∀ (i : Nat) (hi : i < kids.length), CondR m ((us.drop (i * 5)).take 5) kids[i])
  (ih : ∀ (i : Nat) (hi : i < kids.length), CondOk m b ((us.drop (i * 5)).take 5) kids[i]) (hwho : who = 0) (hname : name = []) (h0 : op = 2) : CondOk m b (c5 op who name A nums.length ca B kids.length cb) (.mk op who name nums kids) := by
 intro m0 hm0 p d hp hd;skip;refine za [.tmp 4] Tryz.func115 rfl rfl rfl ?_;refine tr 2 ?_;refine Bx 0 rfl fun b1 => ?_;refine Bx 4 rfl fun b2 => ?_;refine zG .here (fun ns hi _ hd1 => ?_);refine zG .here (fun ns2 hi2 _ hd2 => ?_)
 have hR : Rd (uni (uni m0 ns) ns2) (some ⟨b2, 0, none⟩) (c5 op who name A nums.length ca B kids.length cb) := ((Rd.blk hi).mono (zV hd1)).mono (zM _ _);have hR1 : Rd (uni (uni m0 ns) ns2) (some ⟨b1, 0, none⟩) [ptr b] := (Rd.blk hi2).mono (zV hd2);have hl2 : Le m0 (uni (uni m0 ns) ns2) := (zM _ _).trans (zM _ _);clear hi hd1 hi2 hd2;generalize uni (uni m0 ns) ns2 = m9 at hR hR1 hl2
 have hl9 := hm0.trans hl2;have hT := hT.mono hl9;have hU := hU.mono hl9;have hat : At m9 ⟨b2, 0, none⟩ (c5 op who name A nums.length ca B kids.length cb) := fun i u hi => hR.at_ hi;have hcp : mc m9 ⟨b1, 0, none⟩ = some (ptr b) := hR1.at_ (i := 0) rfl;have hc0 : mc m9 ⟨b2, 0, none⟩ = some (.int .i8 op) := hR.at_ (i := 0) rfl
 have hc1 : mc m9 ⟨b2, 1, none⟩ = some (.int .i8 who) := hR.at_ (i := 1) rfl;have hc2 : mc m9 ⟨b2, 2, none⟩ = some (.string (bs name)) := hR.at_ (i := 2) rfl;have hc3 : mc m9 ⟨b2, 3, none⟩ = some (.slice A nums.length ca) := hR.at_ (i := 3) rfl;have hc4 : mc m9 ⟨b2, 4, none⟩ = some (.slice B kids.length cb) := hR.at_ (i := 4) rfl;have hw1 := ya (.mk op who name nums kids);refine tr 1 ?_
 refine Lo 0 sg89 rfl hcp ?_;refine Cp cl109 rfl .k0 (fun m' hm he => part109 hp) ?_ ?_
 ·rintro _ _ ⟨h1, rfl⟩;exact pW hl2 ⟨.inr (by omega), rfl⟩
 rintro _ _ ⟨hp1, rfl, rfl⟩;subst hwho hname;subst h0;by_cases hna : nums.length = 2
 ·by_cases hnk : kids.length = 0
  ·refine vr 5 ?_;refine Lo 0 sg42 rfl hc0 ?_;refine cfo 2 ?_;refine Lo 0 sg42 rfl hc1 ?_;refine ctr 2 ?_;refine Lo 0 sg9 rfl hc2 ?_;refine ctr 2 ?_;refine Mt 12 ?_;refine Lo 6 sg42 rfl hc0 ?_;refine cfo 6 ?_;refine cfo 5 ?_;refine ctr 12 ?_;refine Lo 2 sg43 rfl hc3 ?_;refine cto 2 ?_;refine Lo 2 sg46 rfl hc4 ?_;refine cto 1 ?_;refine Mt 0 ?_;have hk0 := List.eq_nil_of_length_eq_zero hnk
   obtain ⟨x1, x2, rfl⟩ := uA hna;subst hk0;have hA : A.isSome = true := hra.isSome (by rw [hva]; simp);have f1 : NumR m ((vs.drop (0 * 4)).take 4) x1 := hka 0 (by simp);have f2 : NumR m ((vs.drop (1 * 4)).take 4) x2 := hka 1 (by simp);have ha1 := (hra.elem (0 * 4) 4).mono hl9;have ha2 := (hra.elem (1 * 4) 4).mono hl9;have i1 : NumOk m9 b _ x1 := num111 (b := b) hT (f1.mono hl9)
   have i2 : NumOk m9 b _ x2 := num111 (b := b) hT (f2.mono hl9);obtain ⟨n1, w1, A1, l1, c1, e1⟩ := NumR.formO f1;obtain ⟨n2, w2, A2, l2, c2, e2⟩ := NumR.formO f2;rw [e1] at ha1 i1;rw [e2] at ha2 i2;clear f1 f2 e1 e2;rw [ve, uk];refine vr 6 ?_;refine Lo 5 sg42 rfl hc0 ?_;refine cfo 6 ?_;refine cfo 6 ?_;refine cfo 6 ?_;refine cfo 8 ?_;refine Db (sq [0, 1, 2, 3, 4, 105, 6] .done) ?_
   refine Vr 1 rfl (zF sg89 rfl hcp) ?_;refine Vr 0 rfl (zF sg43 rfl hc3) ?_;refine Vb 0 rfl (zO ez43 rfl rfl hA (by omega) (by omega)) ?_;refine Vr 0 rfl (zJ ag45 rfl rfl ha1) ?_;refine zA rfl ((zR cl111 rfl .k0 (fun m' hm he => i1 m' hm (p + 1) d hp1 hd) rfl ?_ ?_)) rfl
   ·rintro _ _ ⟨h1, rfl⟩;exact pW hl2 ⟨(xw h1 (v := numW x2)).imp id (fun h => by omega), rfl⟩
   rintro _ _ ⟨s, h1, h2, rfl, rfl⟩;have hsl := yp h1 h2;skip;refine vB 1 ?_;refine Vn 2 ?_;refine Db (sq [0, 2, 3, 4, 8, 9, 10, 11, 12] (.fork (sq [101, 5] (.fork (sq [106, 7, 113, 14, 15] .done) (sq [113, 106, 7, 14, 15] .done))) (sq [113, 101, 5, 106, 7, 14, 15] .done))) ?_;refine vB 2 ?_;refine Vr 0 rfl (zF sg42 rfl hc0) ?_;refine Vb 0 rfl (uM rfl rfl (wu8 (by omega) (by omega))) ?_
   refine Vr 1 rfl (zF sg89 rfl hcp) ?_;refine Vr 0 rfl (zF sg43 rfl hc3) ?_;refine Vb 0 rfl (zO ez43 rfl rfl hA (by omega) (by omega)) ?_;refine Vr 0 rfl (zJ ag45 rfl rfl ha2) ?_;refine zk ?_ ?_;refine zA rfl (zQ sl61 rfl rfl rfl rfl (fun b3 => ?_)) rfl;refine Vb 0 rfl (yy ez61 rfl rfl (hR.isSome (by simp <;> omega)) (by omega) (by omega)) ?_
   refine zk ?_ ?_
   ·refine Ve 0 rfl ((zZ (b := b3) (i := 2) (l := [.string (bs [32, 60, 32]), .string (bs [32, 60, 61, 32]), .string (bs [32, 61, 61, 32])]) sg9 rfl .here rfl)) ?_;refine Vs 0 rfl ?_;refine zA rfl ((zR cl111 rfl .k1 (fun m' hm he => i2 m' hm (p + 1 + numW x1) d h2 hd) rfl ?_ ?_)) rfl
    ·rintro _ _ ⟨h3, rfl⟩;exact pW hl2 ⟨yN h3 |>.imp id (fun h => by omega), rfl⟩
    rintro _ _ ⟨t, h3, h4, rfl, rfl⟩;have htl := yp h3 h4;refine Vs 1 rfl ?_;refine Vn 2 ?_;have e2 : s ++ [32, 61, 61, 32] ++ t = sgnT sEq s t := by simp [sgnT]
    rw [e2, show p + 1 + numW x1 + numW x2 = p + (1 + numW x1 + numW x2) by omega];exact zX hl2 [_] ⟨rfl, trivial⟩ [_] .p0 ⟨_, yb h1 h3, by omega, rfl, rfl⟩
   ·skip;refine zA rfl ((zR cl111 rfl .k1 (fun m' hm he => i2 m' hm (p + 1 + numW x1) d h2 hd) rfl ?_ ?_)) rfl
    ·rintro _ _ ⟨h3, rfl⟩;exact pW hl2 ⟨yN h3 |>.imp id (fun h => by omega), rfl⟩
    rintro _ _ ⟨t, h3, h4, rfl, rfl⟩;have htl := yp h3 h4;skip;refine Ve 0 rfl ((zZ (b := b3) (i := 2) (l := [.string (bs [32, 60, 32]), .string (bs [32, 60, 61, 32]), .string (bs [32, 61, 61, 32])]) sg9 rfl .h1 rfl)) ?_;refine Vs 0 rfl ?_;refine Vs 1 rfl ?_;refine Vn 2 ?_;have e2 : s ++ [32, 61, 61, 32] ++ t = sgnT sEq s t := by simp [sgnT]
    rw [e2, show p + 1 + numW x1 + numW x2 = p + (1 + numW x1 + numW x2) by omega];exact zX hl2 [_] ⟨rfl, trivial⟩ [_] .p0 ⟨_, yb h1 h3, by omega, rfl, rfl⟩
   ·refine zA rfl ((zR cl111 rfl .k0 (fun m' hm he => i2 m' hm (p + 1 + numW x1) d h2 hd) rfl ?_ ?_)) rfl
    ·rintro _ _ ⟨h3, rfl⟩;exact pW hl2 ⟨yN h3 |>.imp id (fun h => by omega), rfl⟩
    rintro _ _ ⟨t, h3, h4, rfl, rfl⟩;have htl := yp h3 h4;refine zA rfl (zQ sl61 rfl rfl rfl rfl (fun b3 => ?_)) rfl;refine Vb 0 rfl (yy ez61 rfl rfl (hR.isSome (by simp <;> omega)) (by omega) (by omega)) ?_
    refine Ve 0 rfl ((zZ (b := b3) (i := 2) (l := [.string (bs [32, 60, 32]), .string (bs [32, 60, 61, 32]), .string (bs [32, 61, 61, 32])]) sg9 rfl .here rfl)) ?_;refine Vs 0 rfl ?_;refine Vs 1 rfl ?_;refine Vn 2 ?_;have e2 : s ++ [32, 61, 61, 32] ++ t = sgnT sEq s t := by simp [sgnT]
    rw [e2, show p + 1 + numW x1 + numW x2 = p + (1 + numW x1 + numW x2) by omega];exact zX hl2 [_] ⟨rfl, trivial⟩ [_] .p1 ⟨_, yb h1 h3, by omega, rfl, rfl⟩
  ·refine vr 5 ?_;refine Lo 0 sg42 rfl hc0 ?_;refine cfo 2 ?_;refine Lo 0 sg42 rfl hc1 ?_;refine ctr 2 ?_;refine Lo 0 sg9 rfl hc2 ?_;refine ctr 2 ?_;refine Mt 12 ?_;refine Lo 6 sg42 rfl hc0 ?_;refine cfo 6 ?_;refine cfo 5 ?_;refine ctr 12 ?_;refine Lo 2 sg43 rfl hc3 ?_;refine cto 2 ?_;refine Lo 2 sg46 rfl hc4 ?_;refine cfo 1 ?_;refine Mf fun _ => ?_
   exact pW hl2 ⟨.inl (zw (fun h => by unfold shapeC at h; omega)), rfl⟩
 ·refine vr 5 ?_;refine Lo 0 sg42 rfl hc0 ?_;refine cfo 2 ?_;refine Lo 0 sg42 rfl hc1 ?_;refine ctr 2 ?_;refine Lo 0 sg9 rfl hc2 ?_;refine ctr 2 ?_;refine Mt 12 ?_;refine Lo 6 sg42 rfl hc0 ?_;refine cfo 6 ?_;refine cfo 5 ?_;refine ctr 12 ?_;refine Lo 2 sg43 rfl hc3 ?_;refine cfo 7 ?_;refine Mf fun _ => ?_;exact pW hl2 ⟨.inl (zw (fun h => by unfold shapeC at h; omega)), rfl⟩
theorem Yr (hT : TabI m) (hU : Tabs m) {op who : Int} {name : List UInt8} {nums : List NumT} {kids : List CondT} {A B : Option Addr} {ca cb : Nat} {vs us : List Value} (hma : nums.length ≤ 9223372036854775807) (hmb : kids.length ≤ 9223372036854775807) (hnm : name.length ≤ 140737488355328)
  (hra : Rd m A vs) (hva : vs.length = nums.length * 4) (hka : ∀ (i : Nat) (hi : i < nums.length), NumR m ((vs.drop (i * 4)).take 4) nums[i])
  (hrb : Rd m B us) (hvb : us.length = kids.length * 5) (hkb : ∀ (i : Nat) (hi : i < kids.length), CondR m ((us.drop (i * 5)).take 5) kids[i])
  (ih : ∀ (i : Nat) (hi : i < kids.length), CondOk m b ((us.drop (i * 5)).take 5) kids[i]) (hwho : who = 0) (hname : name = []) (hop : ¬ (0 ≤ op ∧ op ≤ 6)) : CondOk m b (c5 op who name A nums.length ca B kids.length cb) (.mk op who name nums kids) := by
 intro m0 hm0 p d hp hd;skip;refine za [.tmp 4] Tryz.func115 rfl rfl rfl ?_;refine tr 2 ?_;refine Bx 0 rfl fun b1 => ?_;refine Bx 4 rfl fun b2 => ?_;refine zG .here (fun ns hi _ hd1 => ?_);refine zG .here (fun ns2 hi2 _ hd2 => ?_)
 have hR : Rd (uni (uni m0 ns) ns2) (some ⟨b2, 0, none⟩) (c5 op who name A nums.length ca B kids.length cb) := ((Rd.blk hi).mono (zV hd1)).mono (zM _ _);have hR1 : Rd (uni (uni m0 ns) ns2) (some ⟨b1, 0, none⟩) [ptr b] := (Rd.blk hi2).mono (zV hd2);have hl2 : Le m0 (uni (uni m0 ns) ns2) := (zM _ _).trans (zM _ _);clear hi hd1 hi2 hd2;generalize uni (uni m0 ns) ns2 = m9 at hR hR1 hl2
 have hl9 := hm0.trans hl2;have hT := hT.mono hl9;have hU := hU.mono hl9;have hat : At m9 ⟨b2, 0, none⟩ (c5 op who name A nums.length ca B kids.length cb) := fun i u hi => hR.at_ hi;have hcp : mc m9 ⟨b1, 0, none⟩ = some (ptr b) := hR1.at_ (i := 0) rfl;have hc0 : mc m9 ⟨b2, 0, none⟩ = some (.int .i8 op) := hR.at_ (i := 0) rfl
 have hc1 : mc m9 ⟨b2, 1, none⟩ = some (.int .i8 who) := hR.at_ (i := 1) rfl;have hc2 : mc m9 ⟨b2, 2, none⟩ = some (.string (bs name)) := hR.at_ (i := 2) rfl;have hc3 : mc m9 ⟨b2, 3, none⟩ = some (.slice A nums.length ca) := hR.at_ (i := 3) rfl;have hc4 : mc m9 ⟨b2, 4, none⟩ = some (.slice B kids.length cb) := hR.at_ (i := 4) rfl;have hw1 := ya (.mk op who name nums kids);refine tr 1 ?_
 refine Lo 0 sg89 rfl hcp ?_;refine Cp cl109 rfl .k0 (fun m' hm he => part109 hp) ?_ ?_
 ·rintro _ _ ⟨h1, rfl⟩;exact pW hl2 ⟨.inr (by omega), rfl⟩
 rintro _ _ ⟨hp1, rfl, rfl⟩;subst hwho hname;by_cases hneg : op < 0
 ·refine vr 5 ?_;refine Lo 0 sg42 rfl hc0 ?_;refine cfo 2 ?_;refine Lo 0 sg42 rfl hc1 ?_;refine ctr 2 ?_;refine Lo 0 sg9 rfl hc2 ?_;refine ctr 2 ?_;refine Mt 12 ?_;refine Lo 6 sg42 rfl hc0 ?_;refine cfo 6 ?_;refine cfo 5 ?_;refine cfo 6 ?_;refine cfo 7 ?_;refine cfo 5 ?_;refine cfo 6 ?_;refine Lo 0 sg42 rfl hc0 ?_;refine cfo 0 ?_;refine Mf fun _ => ?_
  exact pW hl2 ⟨.inl (zw (fun h => by unfold shapeC at h; omega)), rfl⟩
 ·have hpos : 7 ≤ op := by omega
  refine vr 5 ?_;refine Lo 0 sg42 rfl hc0 ?_;refine cfo 2 ?_;refine Lo 0 sg42 rfl hc1 ?_;refine ctr 2 ?_;refine Lo 0 sg9 rfl hc2 ?_;refine ctr 2 ?_;refine Mt 12 ?_;refine Lo 6 sg42 rfl hc0 ?_;refine cfo 6 ?_;refine cfo 5 ?_;refine cfo 6 ?_;refine cfo 7 ?_;refine cfo 5 ?_;refine cfo 6 ?_;refine Lo 0 sg42 rfl hc0 ?_;refine cfo 0 ?_;refine Mf fun _ => ?_
  exact pW hl2 ⟨.inl (zw (fun h => by unfold shapeC at h; omega)), rfl⟩
end
section
open Wd Tp Kd
variable {m : Mp} {b : Nat}
theorem cond115 (hT : TabI m) (hU : Tabs m) {cs : List Value} {x : CondT} (hx : CondR m cs x) : CondSm x → CondOk m b cs x := by
 induction hx with
 | @mk op who name nums kids A B la ca lb cb vs us ho hw hn hla hma hra hva hka hlb hmb hrb hvb hkb ih =>
 subst hla hlb;intro hsm;have hnm : name.length ≤ 140737488355328 := by cases hsm; assumption
 have hsk : ∀ k ∈ kids, CondSm k := by cases hsm; assumption
 have ih := fun (i : Nat) (hi : i < kids.length) => ih i hi (hsk _ (List.getElem_mem hi));by_cases h6 : op = 6
 ·exact Zl hT hU hma hmb hnm hra hva hka hrb hvb hkb ih h6
 by_cases hwn : who = 0 ∧ name = []
 rotate_left
 ·exact Xw hT hU hma hmb hnm hra hva hka hrb hvb hkb ih h6 hwn
 by_cases h3 : op = 3
 ·exact Xx hT hU hma hmb hnm hra hva hka hrb hvb hkb ih hwn.1 hwn.2 h3
 by_cases h4 : op = 4
 ·exact Xy hT hU hma hmb hnm hra hva hka hrb hvb hkb ih hwn.1 hwn.2 h4
 by_cases h5 : op = 5
 ·exact VK hT hU hma hmb hnm hra hva hka hrb hvb hkb ih hwn.1 hwn.2 h5
 by_cases h0 : op = 0
 ·exact Yq hT hU hma hmb hnm hra hva hka hrb hvb hkb ih hwn.1 hwn.2 h0
 by_cases h1 : op = 1
 ·exact Yp hT hU hma hmb hnm hra hva hka hrb hvb hkb ih hwn.1 hwn.2 h1
 by_cases h2 : op = 2
 ·exact Yo hT hU hma hmb hnm hra hva hka hrb hvb hkb ih hwn.1 hwn.2 h2
 ·exact Yr hT hU hma hmb hnm hra hva hka hrb hvb hkb ih hwn.1 hwn.2 (by omega)
end
namespace Tp
open Go Go.Eng Wd Kd
inductive EffSm : EffT → Prop
 | mk {op who : Int} {n : NumT} {name : List UInt8} {c : CondT} {t e : List EffT} (h : name.length ≤ 140737488355328) (hc : CondSm c) (hlt : t.length ≤ 140737488355328) (hle : e.length ≤ 140737488355328) (ht : ∀ x ∈ t, EffSm x) (he : ∀ x ∈ e, EffSm x) : EffSm (.mk op who n name c t e)
def EffsSm (l : List EffT) : Prop := ∀ x ∈ l, EffSm x
def bareE (c : CondT) (t e : List EffT) : Prop := zeroC c = true ∧ t.length + e.length = 0
instance {c : CondT} {t e : List EffT} : Decidable (bareE c t e) := by unfold bareE; infer_instance
theorem Ql {c : CondT} {t e : List EffT} : (zeroC c = true ∧ t.isEmpty = true ∧ e.isEmpty = true) ↔ bareE c t e := by
 unfold bareE;rw [List.isEmpty_iff, List.isEmpty_iff]
 constructor
 ·rintro ⟨h1, rfl, rfl⟩; exact ⟨h1, rfl⟩
 ·rintro ⟨h1, h2⟩; exact ⟨h1, List.eq_nil_of_length_eq_zero (by omega), List.eq_nil_of_length_eq_zero (by omega)⟩
def ifT (s u v : List UInt8) : List UInt8 := sIf ++ sSp ++ s ++ sSp ++ sLb ++ u ++ sSp ++ sRb ++ sSp ++ sElse ++ sSp ++ sLb ++ v ++ sSp ++ sRb
def ifP (c : CondT) (t e : List EffT) (d : Nat) : Option (List UInt8) := (condP c d).bind fun s => (blkP t d).bind fun u => (blkP e d).bind fun v => some (ifT s u v)
theorem Z9 (who : Int) (n : NumT) (name : List UInt8) (c : CondT) (t e : List EffT) (d : Nat) : effP (.mk 8 who n name c t e) d = if who = 0 ∧ name = [] ∧ zeroN n = true then inP d (ifP c t e) else none := by rw [effP]; rfl
theorem ym {op who : Int} {n : NumT} {name : List UInt8} {c : CondT} {t e : List EffT} {d : Nat} (h8 : op ≠ 8) : effP (.mk op who n name c t e) d =
  if ¬ bareE c t e then none
  else if op = 7 then (if who = 0 ∧ zeroN n = true ∧ nameP name = true then line1 sSummon (some name) else none)
  else if ¬ name = [] then none
  else if op = 0 then lineP sHarm (whoP who) (numP n d)
  else if op = 1 then lineP sMend (whoP who) (numP n d)
  else if op = 2 then lineP sDraw (sideP who) (numP n d)
  else if op = 3 then (if who = 0 then line1 sGain (numP n d) else none)
  else if op = 5 then (if who = 0 then line1 sLook (numP n d) else none)
  else if op = 4 then (if zeroN n = true then line1 sDrop (sideP who) else none)
  else if op = 6 then (if zeroN n = true then line1 sShow (sideP who) else none)
  else none := by
 rw [effP, if_neg h8];simp only [Ql]
theorem zy {op who : Int} {n : NumT} {name : List UInt8} {c : CondT} {t e : List EffT} {d : Nat} (h8 : op ≠ 8) (h : ¬ bareE c t e) : effP (.mk op who n name c t e) d = none := by rw [ym h8, if_pos h]
theorem y8 {op who : Int} {n : NumT} {name : List UInt8} {c : CondT} {t e : List EffT} {d : Nat} (h8 : op ≠ 8) (h7 : op ≠ 7) (h : name ≠ []) : effP (.mk op who n name c t e) d = none := by
 rw [ym h8, if_neg h7, if_pos h, ite_self]
theorem vI {op who : Int} {n : NumT} {name : List UInt8} {c : CondT} {t e : List EffT} {d : Nat} (hop : op = 3 ∨ op = 5 ∨ op = 7) (h : who ≠ 0) : effP (.mk op who n name c t e) d = none := by
 rw [ym (by omega)]
 split
 ·rfl
 rcases hop with rfl | rfl | rfl
 ·simp [h]
 ·simp [h]
 ·rw [if_pos rfl, if_neg (fun h2 => h h2.1)]
theorem vJ {op who : Int} {n : NumT} {name : List UInt8} {c : CondT} {t e : List EffT} {d : Nat} (hop : op = 4 ∨ op = 6 ∨ op = 7) (h : zeroN n = false) : effP (.mk op who n name c t e) d = none := by
 rw [ym (by omega)]
 split
 ·rfl
 rcases hop with rfl | rfl | rfl
 ·simp [h]
 ·simp [h]
 ·rw [if_pos rfl, if_neg (fun h2 => by rw [h] at h2; exact absurd h2.2.1 (by decide))]
theorem jI {op who : Int} {n : NumT} {name : List UInt8} {c : CondT} {t e : List EffT} {d : Nat} (hop : ¬ (0 ≤ op ∧ op ≤ 8)) : effP (.mk op who n name c t e) d = none := by
 have h0 : op ≠ 0 ∧ op ≠ 1 ∧ op ≠ 2 ∧ op ≠ 3 ∧ op ≠ 4 ∧ op ≠ 5 ∧ op ≠ 6 ∧ op ≠ 7 ∧ op ≠ 8 := by omega
 obtain ⟨h0, h1, h2, h3, h4, h5, h6, h7, h8⟩ := h0;rw [ym h8]
 simp [h0, h1, h2, h3, h4, h5, h6, h7]
section
variable {who : Int} {n : NumT} {c : CondT} {t e : List EffT} {d : Nat} (hb : bareE c t e)
include hb
theorem ug : effP (.mk 0 who n [] c t e) d = lineP sHarm (whoP who) (numP n d) := by rw [ym (by decide), if_neg (fun h => h hb)]; rfl
theorem uf : effP (.mk 1 who n [] c t e) d = lineP sMend (whoP who) (numP n d) := by rw [ym (by decide), if_neg (fun h => h hb)]; rfl
theorem jK : effP (.mk 2 who n [] c t e) d = lineP sDraw (sideP who) (numP n d) := by rw [ym (by decide), if_neg (fun h => h hb)]; rfl
theorem jH : effP (.mk 3 0 n [] c t e) d = line1 sGain (numP n d) := by rw [ym (by decide), if_neg (fun h => h hb)]; rfl
theorem jG : effP (.mk 5 0 n [] c t e) d = line1 sLook (numP n d) := by rw [ym (by decide), if_neg (fun h => h hb)]; rfl
theorem jJ (hz : zeroN n = true) : effP (.mk 4 who n [] c t e) d = line1 sDrop (sideP who) := by
 rw [ym (by decide), if_neg (fun h => h hb), if_neg (by decide), if_neg (by simp), if_neg (by decide), if_neg (by decide), if_neg (by decide), if_neg (by decide), if_neg (by decide), if_pos rfl, if_pos hz]
theorem jF (hz : zeroN n = true) : effP (.mk 6 who n [] c t e) d = line1 sShow (sideP who) := by
 rw [ym (by decide), if_neg (fun h => h hb), if_neg (by decide), if_neg (by simp), if_neg (by decide), if_neg (by decide), if_neg (by decide), if_neg (by decide), if_neg (by decide), if_neg (by decide), if_pos rfl, if_pos hz]
theorem uE {name : List UInt8} (hz : zeroN n = true) (hn : nameP name = true) : effP (.mk 7 0 n name c t e) d = some (sSummon ++ sSp ++ name ++ sSemi) := by
 rw [ym (by decide), if_neg (fun h => h hb), if_pos rfl, if_pos ⟨rfl, hz, hn⟩]; rfl
end
theorem jc {who : Int} {n : NumT} {name : List UInt8} {c : CondT} {t e : List EffT} {d : Nat} (h : nameP name = false) : effP (.mk 7 who n name c t e) d = none := by
 rw [ym (by decide)]
 simp [h]
theorem kX {op who : Int} {n : NumT} {name : List UInt8} {c : CondT} {t e : List EffT} {d : Nat} (hop : op = 0 ∨ op = 1) (h : whoP who = none) : effP (.mk op who n name c t e) d = none := by
 rw [ym (by omega)];rcases hop with rfl | rfl <;> simp [lineP, putP, h]
theorem uF {op who : Int} {n : NumT} {name : List UInt8} {c : CondT} {t e : List EffT} {d : Nat} (hop : op = 2 ∨ op = 4 ∨ op = 6) (h : sideP who = none) : effP (.mk op who n name c t e) d = none := by
 rw [ym (by omega)];rcases hop with rfl | rfl | rfl <;> simp [lineP, line1, putP, h]
theorem xW {op who : Int} {n : NumT} {name : List UInt8} {c : CondT} {t e : List EffT} {d : Nat} (hop : op = 0 ∨ op = 1 ∨ op = 2 ∨ op = 3 ∨ op = 5) (h : numP n d = none) : effP (.mk op who n name c t e) d = none := by
 have hx : ∀ a : Option (List UInt8), a.bind (fun _ => (none : Option (List UInt8))) = none := fun a => by cases a <;> rfl
 rw [ym (by omega)];rcases hop with rfl | rfl | rfl | rfl | rfl <;> simp [lineP, line1, putP, h]
theorem wS {op who : Int} {n : NumT} {name : List UInt8} {c : CondT} {t e : List EffT} (h : op = 0 ∨ op = 1 ∨ op = 2 ∨ op = 3 ∨ op = 5) : effW (.mk op who n name c t e) = 1 + numW n := by
 have : countsB op = true := by simpa [countsB, or_assoc] using h
 rw [wl, this, if_pos rfl, if_neg (show ¬ op = 8 by omega), Nat.add_zero]
theorem vH {op who : Int} {n : NumT} {name : List UInt8} {c : CondT} {t e : List EffT} (h : ¬ (op = 0 ∨ op = 1 ∨ op = 2 ∨ op = 3 ∨ op = 5)) (h8 : op ≠ 8) : effW (.mk op who n name c t e) = 1 := by
 have : countsB op = false := by
  cases hc : countsB op with
  | false => rfl
  | true => exact absurd (by simpa [countsB, or_assoc] using hc) h
 rw [wl, this, if_neg (by decide), if_neg h8]
theorem Z8 {who : Int} {n : NumT} {name : List UInt8} {c : CondT} {t e : List EffT} : effW (.mk 8 who n name c t e) = 1 + (condW c + effsW t + effsW e) := by
 have : countsB 8 = false := by decide
 rw [wl, this, if_neg (by decide), if_pos rfl]
 rfl
theorem kW (x : EffT) (l : List EffT) : effsW (x :: l) = effW x + effsW l := by simp [effsW]
theorem vO (d : Nat) : blkP [] d = some [] := by rw [blkP]
theorem xo (x : EffT) (l : List EffT) (d : Nat) : blkP (x :: l) d = (effP x d).bind fun s => (blkP l d).bind fun u => some (sSp ++ s ++ u) := by rw [blkP]
inductive EffS : EffT → Nat → List UInt8 → Prop
 | line {op who : Int} {n : NumT} {c : CondT} {t e : List EffT} {d : Nat} {w u v : List UInt8} (hop : (op = 0 ∧ w = sHarm ∧ whoP who = some u) ∨ (op = 1 ∧ w = sMend ∧ whoP who = some u) ∨ (op = 2 ∧ w = sDraw ∧ sideP who = some u)) (hb : bareE c t e) (hn : numP n d = some v) :
   EffS (.mk op who n [] c t e) d (w ++ sSp ++ u ++ sSp ++ v ++ sSemi)
 | num {op : Int} {n : NumT} {c : CondT} {t e : List EffT} {d : Nat} {w v : List UInt8} (hop : (op = 3 ∧ w = sGain) ∨ (op = 5 ∧ w = sLook)) (hb : bareE c t e) (hn : numP n d = some v) : EffS (.mk op 0 n [] c t e) d (w ++ sSp ++ v ++ sSemi)
 | side {op who : Int} {n : NumT} {c : CondT} {t e : List EffT} {d : Nat} {w u : List UInt8} (hop : (op = 4 ∧ w = sDrop) ∨ (op = 6 ∧ w = sShow)) (hb : bareE c t e) (hz : zeroN n = true) (hs : sideP who = some u) : EffS (.mk op who n [] c t e) d (w ++ sSp ++ u ++ sSemi)
 | summon {n : NumT} {name : List UInt8} {c : CondT} {t e : List EffT} {d : Nat} (hb : bareE c t e) (hz : zeroN n = true) (hn : nameP name = true) : EffS (.mk 7 0 n name c t e) d (sSummon ++ sSp ++ name ++ sSemi)
 | iff {n : NumT} {c : CondT} {t e : List EffT} {d : Nat} {s u v : List UInt8} (hz : zeroN n = true) (hd : d + 1 ≤ 8) (hc : condP c (d + 1) = some s) (ht : blkP t (d + 1) = some u) (he : blkP e (d + 1) = some v) : EffS (.mk 8 0 n [] c t e) d (ifT s u v)
theorem qD {w : List UInt8} {a b : Option (List UInt8)} {s : List UInt8} (h : lineP w a b = some s) : ∃ u v, a = some u ∧ b = some v ∧ s = w ++ sSp ++ u ++ sSp ++ v ++ sSemi := zr h
theorem vZ {w : List UInt8} {a : Option (List UInt8)} {s : List UInt8} (h : line1 w a = some s) : ∃ u, a = some u ∧ s = w ++ sSp ++ u ++ sSemi := by
 cases a with
 | none => cases h
 | some u => exact ⟨u, rfl, (Option.some.inj h).symm⟩
theorem ue {x : EffT} {d : Nat} {s : List UInt8} (h : effP x d = some s) : EffS x d s := by
 obtain ⟨op, who, n, name, c, t, e⟩ := x;by_cases h8 : op = 8
 ·subst h8;rw [Z9] at h
  split at h
  ·rename_i h0
   obtain ⟨rfl, rfl, hz⟩ := h0;obtain ⟨hd, h⟩ := yQ h;unfold ifP at h;cases hc : condP c (d + 1) with
   | none => rw [hc] at h; cases h
   | some s1 =>
     rw [hc] at h;cases ht : blkP t (d + 1) with
     | none => rw [ht] at h; cases h
     | some u =>
       rw [ht] at h;cases he : blkP e (d + 1) with
       | none => rw [he] at h; cases h
       | some v =>
         rw [he] at h;cases h;exact .iff hz hd hc ht he
  ·cases h
 by_cases hb : bareE c t e
 rotate_left
 ·rw [zy h8 hb] at h; cases h
 by_cases h7 : op = 7
 ·subst h7;by_cases hw : who = 0
  rotate_left
  ·rw [vI (.inr (.inr rfl)) hw] at h; cases h
  subst hw;cases hz : zeroN n with
  | false => rw [vJ (.inr (.inr rfl)) hz] at h; cases h
  | true =>
    cases hn : nameP name with
    | false => rw [jc hn] at h; cases h
    | true =>
      rw [uE hb hz hn] at h;cases h;exact .summon hb hz hn
 by_cases hname : name = []
 rotate_left
 ·rw [y8 h8 h7 hname] at h; cases h
 subst hname;by_cases h0 : op = 0
 ·subst h0;rw [ug hb] at h;obtain ⟨u, v, h1, h2, rfl⟩ := qD h;exact .line (.inl ⟨rfl, rfl, h1⟩) hb h2
 by_cases h1 : op = 1
 ·subst h1;rw [uf hb] at h;obtain ⟨u, v, h1, h2, rfl⟩ := qD h;exact .line (.inr (.inl ⟨rfl, rfl, h1⟩)) hb h2
 by_cases h2 : op = 2
 ·subst h2;rw [jK hb] at h;obtain ⟨u, v, h1, h2, rfl⟩ := qD h;exact .line (.inr (.inr ⟨rfl, rfl, h1⟩)) hb h2
 by_cases h3 : op = 3
 ·subst h3;by_cases hw : who = 0
  rotate_left
  ·rw [vI (.inl rfl) hw] at h; cases h
  subst hw;rw [jH hb] at h;obtain ⟨u, h1, rfl⟩ := vZ h;exact .num (.inl ⟨rfl, rfl⟩) hb h1
 by_cases h5 : op = 5
 ·subst h5;by_cases hw : who = 0
  rotate_left
  ·rw [vI (.inr (.inl rfl)) hw] at h; cases h
  subst hw;rw [jG hb] at h;obtain ⟨u, h1, rfl⟩ := vZ h;exact .num (.inr ⟨rfl, rfl⟩) hb h1
 by_cases h4 : op = 4
 ·subst h4;cases hz : zeroN n with
  | false => rw [vJ (.inl rfl) hz] at h; cases h
  | true =>
    rw [jJ hb hz] at h;obtain ⟨u, h1, rfl⟩ := vZ h;exact .side (.inl ⟨rfl, rfl⟩) hb hz h1
 by_cases h6 : op = 6
 ·subst h6;cases hz : zeroN n with
  | false => rw [vJ (.inr (.inl rfl)) hz] at h; cases h
  | true =>
    rw [jF hb hz] at h;obtain ⟨u, h1, rfl⟩ := vZ h;exact .side (.inr ⟨rfl, rfl⟩) hb hz h1
 ·rw [jI (by omega)] at h; cases h
theorem ku {w : Int} {s : List UInt8} (h : whoP w = some s) : s.length ≤ 6 := by
 unfold whoP at h
 split at h
 ·cases h; decide
 ·have := yJ h; omega
theorem bind_some {α β : Type} {a : Option α} {f : α → Option β} {y : β} (h : a.bind f = some y) : ∃ x, a = some x ∧ f x = some y := by
 cases a with
 | none => cases h
 | some x => exact ⟨x, rfl, h⟩
theorem V1 {x : EffT} {l : List EffT} {d : Nat} {s : List UInt8} (h : blkP (x :: l) d = some s) : ∃ u v, effP x d = some u ∧ blkP l d = some v ∧ s = sSp ++ u ++ v := by
 rw [xo] at h;obtain ⟨u, h1, h⟩ := bind_some h;obtain ⟨v, h2, h⟩ := bind_some h;exact ⟨u, v, h1, h2, (Option.some.inj h).symm⟩
mutual
theorem ZI : ∀ {x : EffT} {d : Nat} {s : List UInt8}, effP x d = some s → s.length + 1 ≤ 100 * effW x
 | .mk op who n name c t e, d, s, h => by
   have h := ue h;cases h with
   | line hop hb hn =>
     rw [wS (by omega)];have h1 := xH hn
     rename_i w u v
     have h2 : w.length ≤ 5 ∧ u.length ≤ 6 := by
      rcases hop with ⟨-, rfl, hu⟩ | ⟨-, rfl, hu⟩ | ⟨-, rfl, hu⟩
      ·exact ⟨by decide, ku hu⟩
      ·exact ⟨by decide, ku hu⟩
      ·exact ⟨by decide, by have := yJ hu; omega⟩
     simp only [List.length_append, List.length_cons, List.length_nil];omega
   | num hop hb hn =>
     rw [wS (by omega)];have h1 := xH hn
     rename_i w v
     have h2 : w.length ≤ 5 := by
      rcases hop with ⟨-, rfl⟩ | ⟨-, rfl⟩ <;> decide
     simp only [List.length_append, List.length_cons, List.length_nil];omega
   | side hop hb hz hs =>
     rw [vH (by omega) (by omega)];have h1 := yJ hs
     rename_i w u
     have h2 : w.length ≤ 5 := by
      rcases hop with ⟨-, rfl⟩ | ⟨-, rfl⟩ <;> decide
     simp only [List.length_append, List.length_cons, List.length_nil];omega
   | summon hb hz hn =>
     rw [vH (by omega) (by omega)];have h1 := zx hn;simp only [List.length_append, List.length_cons, List.length_nil];omega
   | iff hz hd hc ht he =>
     rw [Z8];have h1 := vd hc;have h2 := zt ht;have h3 := zt he;simp only [ifT, List.length_append, List.length_cons, List.length_nil];omega
termination_by x => SizeOf.sizeOf x
theorem zt : ∀ {l : List EffT} {d : Nat} {s : List UInt8}, blkP l d = some s → s.length ≤ 100 * effsW l
 | [], d, s, h => by
   rw [vO] at h;cases h;exact Nat.zero_le _
 | x :: l, d, s, h => by
   obtain ⟨u, v, h1, h2, rfl⟩ := V1 h;have h3 := ZI h1;have h4 := zt h2;rw [kW];simp only [List.length_append, List.length_cons, List.length_nil];omega
termination_by l => SizeOf.sizeOf l
end
end Tp
namespace Tp
open Go Go.Eng Wd Kd
structure Out (p : Nat) (q : Bool) (r : Option (List UInt8)) (w c H : Nat) (s : List UInt8) (p' : Nat) (q' : Bool) : Prop where
 lo : p ≤ p'
 hi : p' ≤ p + w
 len : s.length ≤ c + H
 len0 : q = true ∨ q' = false → s.length ≤ c
 stay : q = true → q' = true
 good : q' = false → r = some s ∧ p' = p + w ∧ p' ≤ 200
 bad : q = false → q' = true → r = none ∨ 200 < p + w
theorem Out.stop {p w c H : Nat} {r : Option (List UInt8)} (hw : 1 ≤ w) : Out p true r w c H [] (p + 1) true :=
 ⟨by omega, by omega, Nat.zero_le _, fun _ => Nat.zero_le _, fun _ => rfl, fun h => (by cases h), fun h => (by cases h)⟩
theorem Out.over {p w c H : Nat} {r : Option (List UInt8)} (hp : 200 < p + 1) (hw : 1 ≤ w) : Out p false r w c H [] (p + 1) true :=
 ⟨by omega, by omega, Nat.zero_le _, fun _ => Nat.zero_le _, fun _ => rfl, fun h => (by cases h), fun _ _ => .inr (by omega)⟩
theorem Out.none {p w c H : Nat} {s : List UInt8} {r : Option (List UInt8)} (hr : r = none) (hs : s.length ≤ c + H) : Out p false r w c H s p true :=
 ⟨Nat.le_refl _, by omega, hs, fun h => absurd h (by decide), fun _ => rfl, fun h => (by cases h), fun _ _ => .inl hr⟩
theorem Out.some {p c H : Nat} {s : List UInt8} {r : Option (List UInt8)} (hr : r = some s) (hp : p ≤ 200) (hs : s.length ≤ c) : Out p false r 0 c H s p false :=
 ⟨Nat.le_refl _, by omega, by omega, fun _ => hs, fun h => (by cases h), fun _ => ⟨hr, rfl, hp⟩, fun _ h => (by cases h)⟩
theorem Out.keep {p c H : Nat} {q : Bool} {s : List UInt8} {r : Option (List UInt8)} (hr : r = .some s) (hp : q = false → p ≤ 200) (hs : s.length ≤ c) : Out p q r 0 c H s p q :=
 ⟨Nat.le_refl _, by omega, by omega, fun _ => hs, fun h => h, fun h => ⟨hr, rfl, hp h⟩, fun h h' => (by rw [h] at h'; cases h')⟩
theorem Out.one {p w v c H p' : Nat} {r : Option (List UInt8)} {s : List UInt8} {q' : Bool} (h : Out (p + 1) false r w c H s p' q') (hv : v = 1 + w) : Out p false r v c H s p' q' := by
 subst hv;exact ⟨by have := h.lo; omega, by have := h.hi; omega, h.len, h.len0, h.stay, fun e => ⟨(h.good e).1, by have := (h.good e).2.1; omega, (h.good e).2.2⟩, fun e e' => (h.bad e e').imp id (fun h => by omega)⟩
theorem Out.map {p w c k H p' : Nat} {q q' : Bool} {r : Option (List UInt8)} {s : List UInt8} {g : List UInt8 → List UInt8} (h : Out p q r w c H s p' q') (hg : (g s).length ≤ s.length + k) : Out p q (r.map g) w (c + k) H (g s) p' q' :=
 ⟨h.lo, h.hi, by have := h.len; omega, fun e => by have := h.len0 e; omega, h.stay, fun e => ⟨by rw [(h.good e).1]; rfl, (h.good e).2⟩, fun e e' => (h.bad e e').imp (fun h => by rw [h]; rfl) id⟩
theorem Out.put {p w v c k K H p1 p2 : Nat} {q q1 q2 : Bool} {r1 r2 : Option (List UInt8)} {s t : List UInt8} {f : List UInt8 → List UInt8 → List UInt8} (h : Out p q r1 w c H s p1 q1) (h' : Out p1 q1 r2 v k H t p2 q2) (hf : (f s t).length ≤ s.length + t.length + K) :
  Out p q (putP f r1 r2) (w + v) (c + k + K) H (f s t) p2 q2 := by
 have l1 := h.len;have l2 := h'.len;refine ⟨by have := h.lo; have := h'.lo; omega, by have := h.hi; have := h'.hi; omega, ?_, ?_, fun e => h'.stay (h.stay e), ?_, ?_⟩
 ·cases hq : q1 with
  | true => have := h'.len0 (.inl hq); omega
  | false => have := h.len0 (.inr hq); omega
 ·rintro (e | e)
  ·have := h.len0 (.inl e);have := h'.len0 (.inl (h.stay e));omega
  ·have e1 : q1 = false := by
    cases hq : q1 with
    | true => rw [h'.stay hq] at e; cases e
    | false => rfl
   have := h.len0 (.inr e1);have := h'.len0 (.inr e);omega
 ·intro e
  have e1 : q1 = false := by
   cases hq : q1 with
   | true => rw [h'.stay hq] at e; cases e
   | false => rfl
  obtain ⟨g1, g2, g3⟩ := h.good e1;obtain ⟨k1, k2, k3⟩ := h'.good e;exact ⟨by rw [g1, k1]; rfl, by omega, k3⟩
 ·intro e e';cases hq : q1 with
  | true =>
    rcases h.bad e hq with h1 | h1
    ·left; rw [h1]; rfl
    ·right; omega
  | false =>
    have g := h.good hq;rcases h'.bad hq e' with h1 | h1
    ·left; rw [h1]; cases r1 <;> rfl
    ·right; omega
theorem Out.le {p w c k H K p' : Nat} {q q' : Bool} {r : Option (List UInt8)} {s : List UInt8} (h : Out p q r w c H s p' q') (hc : c ≤ k) (hH : H ≤ K) : Out p q r w k K s p' q' :=
 ⟨h.lo, h.hi, by have := h.len; omega, fun e => by have := h.len0 e; omega, h.stay, h.good, h.bad⟩
theorem Out.congr {p w v c H p' : Nat} {q q' : Bool} {r r' : Option (List UInt8)} {s s' : List UInt8} (h : Out p q r w c H s p' q') (hr : r' = r) (hs : s' = s) (hw : v = w) : Out p q r' v c H s' p' q' := by subst hr hs hw; exact h
theorem Out.inn {p w c H p' d : Nat} {q q' : Bool} {f : Nat → Option (List UInt8)} {s : List UInt8} (h : Out p (q || decide (8 < d + 1)) (f (d + 1)) w c H s p' q') : Out p q (inP d f) w c H s p' q' := by
 by_cases h8 : d + 1 ≤ 8
 ·rw [decide_eq_false (by omega), Bool.or_false] at h;unfold inP;rw [if_pos h8];exact h
 ·rw [decide_eq_true (by omega), Bool.or_true] at h;unfold inP;rw [if_neg h8];have hq := h.stay rfl;subst hq;exact ⟨h.lo, h.hi, h.len, fun _ => h.len0 (.inl rfl), fun _ => rfl, fun e => (by cases e), fun _ _ => .inl rfl⟩
theorem Out.br {p w c H p' d : Nat} {q q' : Bool} {f : Nat → Option (List UInt8)} {s : List UInt8} (h : Out p (q || decide (8 < d + 1)) (f (d + 1)) w c H s p' q') : Out p q (brP true d f) w (c + 2) H (sOpen ++ s ++ sClose) p' q' :=
 h.inn.map (g := fun s => sOpen ++ s ++ sClose) (by simp only [List.length_append, List.length_cons, List.length_nil]; omega)
theorem Out.dead {p w v c H p' : Nat} {q q' : Bool} {r r' : Option (List UInt8)} {s : List UInt8} (h : Out p q r w c H s p' q') (hv : w ≤ v) (hr : q' = true → q = false → r' = .none ∨ 200 < p + v) (hq : q' = true) : Out p q r' v c H s p' q' :=
 ⟨h.lo, by have := h.hi; omega, h.len, h.len0, h.stay, fun e => (by rw [hq] at e; cases e), fun e _ => hr hq e⟩
end Tp
section
open Wd Tp Kd
variable {m : Mp} {b d p : Nat} {q : Bool}
abbrev pd (b p d : Nat) (q : Bool) : Ent := cel b [.int .i64 (p : Nat), .int .i64 (d : Nat), .bool q] 97
def DnC (f : FuncId) (args : List Value) (m : Mp) (b p d : Nat) (q : Bool) (r : Option (List UInt8)) (w c H : Nat) : Prop :=
 CS Tryz.prog f args m [pd b p d q] (fun v L' => ∃ s p' q', v = .string (bs s) ∧ L' = [pd b p' d q'] ∧ Out p q r w c H s p' q')
end
section
open Wd Tp Kd
variable {m : Mp} {b d p : Nat}
end
section
open Wd Tp Kd
variable {m : Mp} {b d p : Nat}
def NumD (m : Mp) (b : Nat) (cs : List Value) (x : NumT) : Prop := ∀ m', Le m m' → ∀ (p d : Nat) (q : Bool), p + numW x ≤ 1000000 → d ≤ 9 → (q = false → d ≤ 8) → DnC 121 [ptr b, .agg cs.toArray] m' b p d q (numP x d) (numW x) (30 * numW x) 0
theorem NumD.mono {m m' : Mp} {cs : List Value} {x : NumT} (h : NumD m b cs x) (hl : Le m m') : NumD m' b cs x := fun m2 h2 => h m2 (hl.trans h2)
variable {op n who : Int} {K : Option Addr} {k kc : Nat} {x y : NumT} {q : Bool}
end
section
open Wd Tp Kd
variable {m : Mp} {b d p : Nat} {q : Bool}
variable {o n1 w1 n2 w2 o1 o2 : Int} {A K1 K2 : Option Addr} {c l1 c1 l2 c2 : Nat} {x y : NumT}
end
section
open Wd Tp Kd
variable {m : Mp} {b : Nat}
end
section
open Wd Tp Kd
variable {m : Mp} {b d p : Nat} {q : Bool}
def CondD (m : Mp) (b : Nat) (cs : List Value) (x : CondT) : Prop := ∀ m', Le m m' → ∀ (p d : Nat) (q : Bool), p + condW x ≤ 1000000 → d ≤ 100 → (q = false → d ≤ 8) → DnC 123 [ptr b, .agg cs.toArray] m' b p d q (condP x d) (condW x) (100 * condW x) 140737488355328
theorem CondD.mono {m m' : Mp} {cs : List Value} {x : CondT} (h : CondD m b cs x) (hl : Le m m') : CondD m' b cs x := fun m2 h2 => h m2 (hl.trans h2)
end
section
open Wd Tp Kd
variable {m : Mp} {b d p : Nat} {q : Bool}
end
section
open Wd Tp Kd
variable {m : Mp} {b d p : Nat} {q : Bool}
end
section
open Wd Tp Kd
variable {m : Mp} {b d p : Nat} {q : Bool}
end
section
open Wd Tp Kd
variable {m : Mp} {b d p : Nat}
theorem plain112 {op n who : Int} {K : Option Addr} {k kc : Nat} {cop cwho : Int} {cname : List UInt8} {A : Option Addr} {la ca : Nat} {B : Option Addr} {lb cb : Nat} (hk : k ≤ 9223372036854775807) (hla : la ≤ 9223372036854775807) (hlb : lb ≤ 9223372036854775807) :
  CS Tryz.prog 112 [.agg (n4 op n who K k kc).toArray, .agg (c5 cop cwho cname A la ca B lb cb).toArray] m [] (Gives (.bool (decide (op = 0 ∧ n = 0 ∧ who = 0 ∧ k = 0 ∧ cop = 0 ∧ cwho = 0 ∧ cname = [] ∧ la = 0 ∧ lb = 0)))) := by
 refine yI [.tmp 4] Tryz.func112 rfl rfl rfl ?_;by_cases h0 : op = 0
 rotate_left
 ·rw [decide_eq_false (fun h => h0 h.1)];refine tr 2 ?_;refine Bx 0 rfl fun b1 => ?_;refine Bx 6 rfl fun b2 => ?_;refine Lb 0 sg42 .h1 ?_;refine cfa 47 ?_;exact rt1 ⟨rfl, trivial⟩ ⟨rfl, rfl⟩
 by_cases h1 : n = 0
 rotate_left
 ·rw [decide_eq_false (fun h => h1 h.2.1)];refine tr 2 ?_;refine Bx 0 rfl fun b1 => ?_;refine Bx 6 rfl fun b2 => ?_;refine Lb 0 sg42 .h1 ?_;refine cta 2 ?_;refine Lb 0 sg3 .h1 ?_;refine cfa 43 ?_;exact rt1 ⟨rfl, trivial⟩ ⟨rfl, rfl⟩
 by_cases h2 : who = 0
 rotate_left
 ·rw [decide_eq_false (fun h => h2 h.2.2.1)];refine tr 2 ?_;refine Bx 0 rfl fun b1 => ?_;refine Bx 6 rfl fun b2 => ?_;refine Lb 0 sg42 .h1 ?_;refine cta 2 ?_;refine Lb 0 sg3 .h1 ?_;refine cta 3 ?_;refine Lb 0 sg42 .h1 ?_;refine cfa 38 ?_;exact rt1 ⟨rfl, trivial⟩ ⟨rfl, rfl⟩
 by_cases h3 : k = 0
 rotate_left
 ·rw [decide_eq_false (fun h => h3 h.2.2.2.1)];refine tr 2 ?_;refine Bx 0 rfl fun b1 => ?_;refine Bx 6 rfl fun b2 => ?_;refine Lb 0 sg42 .h1 ?_;refine cta 2 ?_;refine Lb 0 sg3 .h1 ?_;refine cta 3 ?_;refine Lb 0 sg42 .h1 ?_;refine cta 3 ?_;refine Lb 1 sg43 .h1 ?_;refine cfo 32 ?_;exact rt1 ⟨rfl, trivial⟩ ⟨rfl, rfl⟩
 by_cases h4 : cop = 0
 rotate_left
 ·rw [decide_eq_false (fun h => h4 h.2.2.2.2.1)];refine tr 2 ?_;refine Bx 0 rfl fun b1 => ?_;refine Bx 6 rfl fun b2 => ?_;refine Lb 0 sg42 .h1 ?_;refine cta 2 ?_;refine Lb 0 sg3 .h1 ?_;refine cta 3 ?_;refine Lb 0 sg42 .h1 ?_;refine cta 3 ?_;refine Lb 1 sg43 .h1 ?_;refine cto 3 ?_;refine Lb 0 sg42 .here ?_;refine cfa 27 ?_;exact rt1 ⟨rfl, trivial⟩ ⟨rfl, rfl⟩
 by_cases h5 : cwho = 0
 rotate_left
 ·rw [decide_eq_false (fun h => h5 h.2.2.2.2.2.1)];refine tr 2 ?_;refine Bx 0 rfl fun b1 => ?_;refine Bx 6 rfl fun b2 => ?_;refine Lb 0 sg42 .h1 ?_;refine cta 2 ?_;refine Lb 0 sg3 .h1 ?_;refine cta 3 ?_;refine Lb 0 sg42 .h1 ?_;refine cta 3 ?_;refine Lb 1 sg43 .h1 ?_;refine cto 3 ?_;refine Lb 0 sg42 .here ?_;refine cta 3 ?_;refine Lb 0 sg42 .here ?_;refine cfa 22 ?_
  exact rt1 ⟨rfl, trivial⟩ ⟨rfl, rfl⟩
 by_cases h6 : cname = []
 rotate_left
 ·rw [decide_eq_false (fun h => h6 h.2.2.2.2.2.2.1)];refine tr 2 ?_;refine Bx 0 rfl fun b1 => ?_;refine Bx 6 rfl fun b2 => ?_;refine Lb 0 sg42 .h1 ?_;refine cta 2 ?_;refine Lb 0 sg3 .h1 ?_;refine cta 3 ?_;refine Lb 0 sg42 .h1 ?_;refine cta 3 ?_;refine Lb 1 sg43 .h1 ?_;refine cto 3 ?_;refine Lb 0 sg42 .here ?_;refine cta 3 ?_;refine Lb 0 sg42 .here ?_;refine cta 3 ?_;refine Lb 0 sg9 .here ?_
  refine cfa 17 ?_;exact rt1 ⟨rfl, trivial⟩ ⟨rfl, rfl⟩
 by_cases h7 : la = 0
 rotate_left
 ·rw [decide_eq_false (fun h => h7 h.2.2.2.2.2.2.2.1)];refine tr 2 ?_;refine Bx 0 rfl fun b1 => ?_;refine Bx 6 rfl fun b2 => ?_;refine Lb 0 sg42 .h1 ?_;refine cta 2 ?_;refine Lb 0 sg3 .h1 ?_;refine cta 3 ?_;refine Lb 0 sg42 .h1 ?_;refine cta 3 ?_;refine Lb 1 sg43 .h1 ?_;refine cto 3 ?_;refine Lb 0 sg42 .here ?_;refine cta 3 ?_;refine Lb 0 sg42 .here ?_;refine cta 3 ?_;refine Lb 0 sg9 .here ?_
  refine cta 3 ?_;refine Lb 1 sg43 .here ?_;refine cfo 11 ?_;exact rt1 ⟨rfl, trivial⟩ ⟨rfl, rfl⟩
 by_cases h8 : lb = 0
 rotate_left
 ·rw [decide_eq_false (fun h => h8 h.2.2.2.2.2.2.2.2)];refine tr 2 ?_;refine Bx 0 rfl fun b1 => ?_;refine Bx 6 rfl fun b2 => ?_;refine Lb 0 sg42 .h1 ?_;refine cta 2 ?_;refine Lb 0 sg3 .h1 ?_;refine cta 3 ?_;refine Lb 0 sg42 .h1 ?_;refine cta 3 ?_;refine Lb 1 sg43 .h1 ?_;refine cto 3 ?_;refine Lb 0 sg42 .here ?_;refine cta 3 ?_;refine Lb 0 sg42 .here ?_;refine cta 3 ?_;refine Lb 0 sg9 .here ?_
  refine cta 3 ?_;refine Lb 1 sg43 .here ?_;refine cto 3 ?_;refine Lb 1 sg46 .here ?_;refine cfo 5 ?_;exact rt1 ⟨rfl, trivial⟩ ⟨rfl, rfl⟩
 rw [decide_eq_true ⟨h0, h1, h2, h3, h4, h5, h6, h7, h8⟩];refine tr 2 ?_;refine Bx 0 rfl fun b1 => ?_;refine Bx 6 rfl fun b2 => ?_;refine Lb 0 sg42 .h1 ?_;refine cta 2 ?_;refine Lb 0 sg3 .h1 ?_;refine cta 3 ?_;refine Lb 0 sg42 .h1 ?_;refine cta 3 ?_;refine Lb 1 sg43 .h1 ?_;refine cto 3 ?_;refine Lb 0 sg42 .here ?_;refine cta 3 ?_;refine Lb 0 sg42 .here ?_;refine cta 3 ?_;refine Lb 0 sg9 .here ?_
 refine cta 3 ?_;refine Lb 1 sg43 .here ?_;refine cto 3 ?_;refine Lb 1 sg46 .here ?_;refine cto 5 ?_;exact rt1 ⟨rfl, trivial⟩ ⟨rfl, rfl⟩
theorem NumR.cells {op n who : Int} {K : Option Addr} {k kc : Nat} {x : NumT} (h : NumR m (n4 op n who K k kc) x) : ∃ kids, x = .mk op n who kids ∧ kids.length = k ∧ k ≤ 9223372036854775807 := by
 cases h with
 | mk ho hl hm hr hv hk => exact ⟨_, rfl, hl, hm⟩
theorem CondR.cells {op who : Int} {name : List UInt8} {A : Option Addr} {la ca : Nat} {B : Option Addr} {lb cb : Nat} {x : CondT} (h : CondR m (c5 op who name A la ca B lb cb) x) : ∃ ns ks, x = .mk op who name ns ks ∧ ns.length = la ∧ ks.length = lb ∧ la ≤ 9223372036854775807 ∧ lb ≤ 9223372036854775807 := by
 generalize hv : c5 op who name A la ca B lb cb = vs at h;cases h with
 | mk ho hw hn hla hma hra hva hka hlb hmb hrb hvb hkb =>
   injection hv with h1 hv
   injection hv with h2 hv
   injection hv with h3 hv
   injection hv with h4 hv
   injection hv with h5 hv
   injection h1 with _ h1
   injection h2 with _ h2
   injection h3 with h3
   injection h4 with h4 h4' h4''
   injection h5 with h5 h5' h5''
   have hn := congrArg (fun x : ByteArray => x.data.toList) h3;dsimp only [bs] at hn;subst h1 h2 hn h4' h5';exact ⟨_, _, rfl, hla, hlb, hma, hmb⟩
theorem uB {α : Type} (l : List α) : l.isEmpty = decide (l.length = 0) := by cases l <;> rfl
theorem plainC112 {op who : Int} {name : List UInt8} {A : Option Addr} {la ca : Nat} {B : Option Addr} {lb cb : Nat} {x : CondT} (h : CondR m (c5 op who name A la ca B lb cb) x) {m2 : Mp} :
  CS Tryz.prog 112 [.agg [.int .i8 0, .int .i64 0, .int .i8 0, .slice none 0 0].toArray, .agg (c5 op who name A la ca B lb cb).toArray] m2 [] (Gives (.bool (zeroC x))) := by
 obtain ⟨ns, ks, rfl, hns, hks, h1, h2⟩ := CondR.cells h
 have e : zeroC (.mk op who name ns ks) = decide ((0 : Int) = 0 ∧ (0 : Int) = 0 ∧ (0 : Int) = 0 ∧ (0 : Nat) = 0 ∧ op = 0 ∧ who = 0 ∧ name = [] ∧ la = 0 ∧ lb = 0) := by
  show (decide (op = 0) && decide (who = 0) && name.isEmpty && ns.isEmpty && ks.isEmpty) = _;rw [uB ns, uB ks, hns, hks];have e1 : name.isEmpty = decide (name = []) := by cases name <;> rfl
  rw [e1]
  simp [Bool.and_assoc]
 rw [e];exact plain112 (op := 0) (n := 0) (who := 0) (K := none) (k := 0) (kc := 0) (by decide) h1 h2
theorem plainN112 {op n who : Int} {K : Option Addr} {k kc : Nat} {x : NumT} (h : NumR m (n4 op n who K k kc) x) {m2 : Mp} :
  CS Tryz.prog 112 [.agg (n4 op n who K k kc).toArray, .agg (c5 0 0 [] none 0 0 none 0 0).toArray] m2 [] (Gives (.bool (zeroN x))) := by
 obtain ⟨ks, rfl, hks, h1⟩ := NumR.cells h
 have e : zeroN (.mk op n who ks) = decide (op = 0 ∧ n = 0 ∧ who = 0 ∧ k = 0 ∧ (0 : Int) = 0 ∧ (0 : Int) = 0 ∧ ([] : List UInt8) = [] ∧ (0 : Nat) = 0 ∧ (0 : Nat) = 0) := by
  show (decide (op = 0) && decide (n = 0) && decide (who = 0) && ks.isEmpty) = _;rw [uB ks, hks]
  simp [Bool.and_assoc]
 rw [e];exact plain112 h1 (by decide) (by decide)
abbrev e14 (op who nop nn nwho : Int) (nA : Option Addr) (nl nc : Nat) (name : List UInt8) (cop cwho : Int) (cname : List UInt8) (cA : Option Addr) (cla cca : Nat) (cB : Option Addr) (clb ccb : Nat) (TA : Option Addr) (la ca : Nat) (EB : Option Addr) (lb cb : Nat) : List Value :=
 [.int .i8 op, .int .i8 who, .int .i8 nop, .int .i64 nn, .int .i8 nwho, .slice nA nl nc, .string (bs name), .int .i8 cop, .int .i8 cwho, .string (bs cname), .slice cA cla cca, .slice cB clb ccb, .slice TA la ca, .slice EB lb cb]
def EffOk (m : Mp) (b : Nat) (cs : List Value) (x : EffT) : Prop := ∀ m', Le m m' → ∀ (p d : Nat), p ≤ 200 → d ≤ 8 → PrC 94 [ptr b, .agg cs.toArray] m' b p d (effP x d) (effW x)
def BlkOk (m : Mp) (b : Nat) (A : Option Addr) (len cap : Nat) (l : List EffT) : Prop := ∀ m', Le m m' → ∀ (p d : Nat), p ≤ 200 → d ≤ 8 → PrC 44 [ptr b, .slice A len cap] m' b p d (blkP l d) (effsW l)
theorem EffOk.mono {m m' : Mp} {cs : List Value} {x : EffT} (h : EffOk m b cs x) (hl : Le m m') : EffOk m' b cs x := fun m2 h2 => h m2 (hl.trans h2)
theorem BlkOk.mono {m m' : Mp} {A : Option Addr} {len cap : Nat} {l : List EffT} (h : BlkOk m b A len cap l) (hl : Le m m') : BlkOk m' b A len cap l := fun m2 h2 => h m2 (hl.trans h2)
end
section
open Wd Tp Kd
variable {m : Mp} {b d p : Nat} {q : Bool}
def EffD (m : Mp) (b : Nat) (cs : List Value) (x : EffT) : Prop := ∀ m', Le m m' → ∀ (p d : Nat) (q : Bool), p + effW x ≤ 1000000 → d ≤ 100 → (q = false → d ≤ 8) → DnC 96 [ptr b, .agg cs.toArray] m' b p d q (effP x d) (effW x) (100 * effW x - 1) 140737488355328
def BlkD (m : Mp) (b : Nat) (A : Option Addr) (len cap : Nat) (l : List EffT) : Prop := ∀ m', Le m m' → ∀ (p d : Nat) (q : Bool), p + effsW l ≤ 1000000 → d ≤ 100 → (q = false → d ≤ 8 ∧ p ≤ 200) → DnC 48 [ptr b, .slice A len cap] m' b p d q (blkP l d) (effsW l) (100 * effsW l) 140737488355328
theorem EffD.mono {m m' : Mp} {cs : List Value} {x : EffT} (h : EffD m b cs x) (hl : Le m m') : EffD m' b cs x := fun m2 h2 => h m2 (hl.trans h2)
theorem BlkD.mono {m m' : Mp} {A : Option Addr} {len cap : Nat} {l : List EffT} (h : BlkD m b A len cap l) (hl : Le m m') : BlkD m' b A len cap l := fun m2 h2 => h m2 (hl.trans h2)
end
section
open Wd Tp Kd
variable {m : Mp} {b d p : Nat} {q : Bool}
end
section
open Wd Tp Kd
variable {m : Mp} {b d p : Nat} {q : Bool}
end
section
open Wd Tp Kd
variable {m : Mp} {b d p : Nat} {q : Bool}
end
section
open Wd Tp Kd
variable {m : Mp} {b d p : Nat} {q : Bool}
end
section
open Wd Tp Kd
variable {m : Mp} {b d p : Nat} {q : Bool}
end
section
open Wd Tp Kd
variable {m : Mp} {b d p : Nat}
theorem Xr (hT : TabI m) (hU : Tabs m) {op who nop nn nwho : Int} {nA : Option Addr} {nl nc : Nat} {name : List UInt8} {cop cwho : Int} {cname : List UInt8} {cA : Option Addr} {cla cca : Nat} {cB : Option Addr} {clb ccb : Nat} {TA : Option Addr} {la ca : Nat} {EB : Option Addr} {lb cb : Nat} {n : NumT} {cond : CondT} {thn els : List EffT}
  (hn : NumR m (n4 nop nn nwho nA nl nc) n) (hc : CondR m (c5 cop cwho cname cA cla cca cB clb ccb) cond) (hcs : CondSm cond) (hnm : name.length ≤ 140737488355328) (hla : thn.length = la) (hlb : els.length = lb) (hla2 : la ≤ 140737488355328) (hlb2 : lb ≤ 140737488355328)
  (hbt : BlkOk m b TA la ca thn) (hbe : BlkOk m b EB lb cb els) (hop : op = 0) : EffOk m b (e14 op who nop nn nwho nA nl nc name cop cwho cname cA cla cca cB clb ccb TA la ca EB lb cb) (.mk op who n name cond thn els) := by
 subst hop;intro m0 hm0 p d hp hd;skip;refine za [.tmp 4] Tryz.func94 rfl rfl rfl ?_;refine tr 2 ?_;refine Bx 0 rfl fun b1 => ?_;refine Bx 4 rfl fun b2 => ?_;refine zG .here (fun ns hi _ hd1 => ?_);refine zG .here (fun ns2 hi2 _ hd2 => ?_)
 have hR : Rd (uni (uni m0 ns) ns2) (some ⟨b2, 0, none⟩) (e14 0 who nop nn nwho nA nl nc name cop cwho cname cA cla cca cB clb ccb TA la ca EB lb cb) := ((Rd.blk hi).mono (zV hd1)).mono (zM _ _);have haN : At (uni (uni m0 ns) ns2) ⟨b2, 2, none⟩ (n4 nop nn nwho nA nl nc) := ((At.blkO (o := 2) (k := 4) hi).mono (zV hd1)).mono (zM _ _)
 have haC : At (uni (uni m0 ns) ns2) ⟨b2, 7, none⟩ (c5 cop cwho cname cA cla cca cB clb ccb) := ((At.blkO (o := 7) (k := 5) hi).mono (zV hd1)).mono (zM _ _);have hR1 : Rd (uni (uni m0 ns) ns2) (some ⟨b1, 0, none⟩) [ptr b] := (Rd.blk hi2).mono (zV hd2);have hl2 : Le m0 (uni (uni m0 ns) ns2) := (zM _ _).trans (zM _ _);clear hi hd1 hi2 hd2
 generalize uni (uni m0 ns) ns2 = m9 at hR hR1 hl2 haN haC;have hl9 := hm0.trans hl2;have hT := hT.mono hl9;have hU := hU.mono hl9;have hn := hn.mono hl9;have hc := hc.mono hl9;have hbt := hbt.mono hl9;have hbe := hbe.mono hl9;have iN : NumOk m9 b _ n := num111 (b := b) hT hn;have iC : CondOk m9 b _ cond := cond115 (b := b) hT hU hc hcs
 have hcp : mc m9 ⟨b1, 0, none⟩ = some (ptr b) := hR1.at_ (i := 0) rfl;have hc0 : mc m9 ⟨b2, 0, none⟩ = some (.int .i8 0) := hR.at_ (i := 0) rfl;have hc1 : mc m9 ⟨b2, 1, none⟩ = some (.int .i8 who) := hR.at_ (i := 1) rfl;have hc6 : mc m9 ⟨b2, 6, none⟩ = some (.string (bs name)) := hR.at_ (i := 6) rfl;have hc12 : mc m9 ⟨b2, 12, none⟩ = some (.slice TA la ca) := hR.at_ (i := 12) rfl
 have hc13 : mc m9 ⟨b2, 13, none⟩ = some (.slice EB lb cb) := hR.at_ (i := 13) rfl;have hw1 := y4 (.mk 0 who n name cond thn els);refine tr 1 ?_;refine Lo 0 sg89 rfl hcp ?_;refine Cp cl109 rfl .k0 (fun m' hm he => part109 hp) ?_ ?_
 ·rintro _ _ ⟨h1, rfl⟩;exact pW hl2 ⟨.inr (by omega), rfl⟩
 rintro _ _ ⟨hp1, rfl, rfl⟩;rw [wS (by decide)];by_cases hw2 : who = 2
 ·have hwho : whoP who = some sTarget := by unfold whoP; rw [if_pos hw2]
  refine vr 5 ?_;refine Lo 0 sg42 rfl hc0 ?_;refine pe 0 (zT zl50 pl50 rfl rfl) ?_;refine Al 0 zl50 fun b3 => ?_;refine Sg 11 ag50 .here ?_;refine Lo 6 sg42 rfl hc0 ?_;refine ctr 16 ?_;refine Lo 0 sg42 rfl hc0 ?_;refine ctr 11 ?_;refine Lo 0 sg42 rfl hc1 ?_;refine cta 5 ?_;refine Ps 6 ?_;refine Lo 1 sg89 rfl hcp ?_;refine La 0 ag45 haN ?_
  refine Cp cl111 rfl .k1 (fun m' hm he => iN m' hm (p + 1) d hp1 hd) ?_ ?_
  ·rintro _ _ ⟨h3, rfl⟩;exact pW hl2 ⟨h3.imp (xW (by decide)) (fun h => by omega), rfl⟩
  rintro _ _ ⟨v, h3, h4, rfl, rfl⟩;have hvl := yp h3 h4;by_cases hname : name = []
  rotate_left
  ·refine Ps 3 ?_;refine Db (sq [0, 1, 2, 3, 4, 105, 6, 107] .done) ?_;refine vB 1 ?_;refine Vr 1 rfl (zF sg42 rfl hc1) ?_;refine Vr 1 rfl (zJ ag45 rfl rfl haN) ?_;refine zA rfl (yB co42 rfl rfl rfl .h1 .h1 ?_) rfl;refine vB 1 ?_;refine zA rfl (zc ag45 rfl rfl rfl .h1 (.there (.there (.cons (.cons (.cons (.cons .nil)))))) rfl ?_) rfl;refine Vn 5 ?_
   refine Lo 1 sg42 rfl hc1 ?_;refine Lb 0 sg42 .h1 ?_;refine ctr 2 ?_;refine Lo 1 sg9 rfl hc6 ?_;refine Lb 0 sg9 .h1 ?_;refine cfa 17 ?_;refine Mf fun _ => ?_;exact pW hl2 ⟨.inl (y8 (by decide) (by decide) hname), rfl⟩
  subst hname;by_cases hle : la + lb = 0
  rotate_left
  ·have hnb : ¬ bareE cond thn els := fun h => hle (by have := h.2; omega);refine Ps 3 ?_;refine Db (sq [0, 1, 2, 3, 4, 105, 6, 107] .done) ?_;refine vB 1 ?_;refine Vr 1 rfl (zF sg42 rfl hc1) ?_;refine Vr 1 rfl (zJ ag45 rfl rfl haN) ?_;refine zA rfl (yB co42 rfl rfl rfl .h1 .h1 ?_) rfl;refine vB 1 ?_
   refine zA rfl (zc ag45 rfl rfl rfl .h1 (.there (.there (.cons (.cons (.cons (.cons .nil)))))) rfl ?_) rfl;refine Vn 5 ?_;refine Lo 1 sg42 rfl hc1 ?_;refine Lb 0 sg42 .h1 ?_;refine ctr 2 ?_;refine Lo 1 sg9 rfl hc6 ?_;refine Lb 0 sg9 .h1 ?_;refine ctr 3 ?_;refine Lo 2 sg38 rfl hc12 ?_;refine Lo 1 sg38 rfl hc13 ?_;refine pe 0 (zi rfl rfl (by omega)) ?_;refine cfo 7 ?_
   refine Mf fun _ => ?_;exact pW hl2 ⟨.inl (zy (by decide) hnb), rfl⟩
  refine Ps 3 ?_;refine Db (sq [0, 1, 2, 3, 4, 105, 6, 107] .done) ?_;refine vB 1 ?_;refine Vr 1 rfl (zF sg42 rfl hc1) ?_;refine Vr 1 rfl (zJ ag45 rfl rfl haN) ?_;refine zA rfl (yB co42 rfl rfl rfl .h1 .h1 ?_) rfl;refine vB 1 ?_;refine zA rfl (zc ag45 rfl rfl rfl .h1 (.there (.there (.cons (.cons (.cons (.cons .nil)))))) rfl ?_) rfl;refine Vn 5 ?_
  refine Lo 1 sg42 rfl hc1 ?_;refine Lb 0 sg42 .h1 ?_;refine ctr 2 ?_;refine Lo 1 sg9 rfl hc6 ?_;refine Lb 0 sg9 .h1 ?_;refine ctr 3 ?_;refine Lo 2 sg38 rfl hc12 ?_;refine Lo 1 sg38 rfl hc13 ?_;refine pe 0 (zi rfl rfl (by omega)) ?_;refine cto 2 ?_;refine pe 1 (zT zl45 pl45 rfl rfl) ?_;refine La 0 ag48 haC ?_;refine Cr cl112 rfl (fun m' hm he => (plainC112 hc)) ?_;rintro _ rfl
  cases hzc : zeroC cond with
  | false =>
    have hnb : ¬ bareE cond thn els := fun h => absurd (hzc.symm.trans h.1) (by decide);refine vr 1 ?_;refine Mf fun _ => ?_;exact pW hl2 ⟨.inl (zy (by decide) hnb), rfl⟩
  | true =>
    have hbr : bareE cond thn els := ⟨hzc, by omega⟩;refine vr 1 ?_;refine Mt 6 ?_;refine Lo 0 sg42 rfl hc0 ?_;refine cfo 2 ?_;refine Lo 0 sg42 rfl hc0 ?_;refine cfo 3 ?_;refine Lo 0 sg42 rfl hc0 ?_;refine cfo 9 ?_;refine Ps 4 ?_;rw [show p + 1 + numW n = p + (1 + numW n) by omega]
    exact zX hl2 [_] ⟨rfl, trivial⟩ [_] .p0 ⟨sHarm ++ sSp ++ sTarget ++ sSp ++ v ++ sSemi, by rw [ug hbr, hwho, h3]; rfl, by omega, congrArg (fun t => Value.string (bs t)) (by simp), rfl⟩
 ·have hws : whoP who = sideP who := by unfold whoP; rw [if_neg hw2]
  refine vr 5 ?_;refine Lo 0 sg42 rfl hc0 ?_;refine pe 0 (zT zl50 pl50 rfl rfl) ?_;refine Al 0 zl50 fun b3 => ?_;refine Sg 11 ag50 .here ?_;refine Lo 6 sg42 rfl hc0 ?_;refine ctr 16 ?_;refine Lo 0 sg42 rfl hc0 ?_;refine ctr 11 ?_;refine Lo 0 sg42 rfl hc1 ?_;refine cfa 6 ?_;refine Lo 0 sg42 rfl hc1 ?_;refine Cn cl110 rfl side110 ?_ ?_
  ·rintro _ _ ⟨h1, rfl⟩;exact pW hl2 ⟨.inl (kX (by decide) (hws.trans h1)), rfl⟩
  rintro _ _ ⟨u, hu, rfl, rfl⟩;have hul := yJ hu;have hwho := hws.trans hu;refine Ps 0 ?_;refine Ps 6 ?_;refine Lo 1 sg89 rfl hcp ?_;refine La 0 ag45 haN ?_;refine Cp cl111 rfl .k1 (fun m' hm he => iN m' hm (p + 1) d hp1 hd) ?_ ?_
  ·rintro _ _ ⟨h3, rfl⟩;exact pW hl2 ⟨h3.imp (xW (by decide)) (fun h => by omega), rfl⟩
  rintro _ _ ⟨v, h3, h4, rfl, rfl⟩;have hvl := yp h3 h4;by_cases hname : name = []
  rotate_left
  ·refine Ps 3 ?_;refine Db (sq [0, 1, 2, 3, 4, 105, 6, 107] .done) ?_;refine vB 1 ?_;refine Vr 1 rfl (zF sg42 rfl hc1) ?_;refine Vr 1 rfl (zJ ag45 rfl rfl haN) ?_;refine zA rfl (yB co42 rfl rfl rfl .h1 .h1 ?_) rfl;refine vB 1 ?_;refine zA rfl (zc ag45 rfl rfl rfl .h1 (.there (.there (.cons (.cons (.cons (.cons .nil)))))) rfl ?_) rfl;refine Vn 5 ?_
   refine Lo 1 sg42 rfl hc1 ?_;refine Lb 0 sg42 .h1 ?_;refine ctr 2 ?_;refine Lo 1 sg9 rfl hc6 ?_;refine Lb 0 sg9 .h1 ?_;refine cfa 17 ?_;refine Mf fun _ => ?_;exact pW hl2 ⟨.inl (y8 (by decide) (by decide) hname), rfl⟩
  subst hname;by_cases hle : la + lb = 0
  rotate_left
  ·have hnb : ¬ bareE cond thn els := fun h => hle (by have := h.2; omega);refine Ps 3 ?_;refine Db (sq [0, 1, 2, 3, 4, 105, 6, 107] .done) ?_;refine vB 1 ?_;refine Vr 1 rfl (zF sg42 rfl hc1) ?_;refine Vr 1 rfl (zJ ag45 rfl rfl haN) ?_;refine zA rfl (yB co42 rfl rfl rfl .h1 .h1 ?_) rfl;refine vB 1 ?_
   refine zA rfl (zc ag45 rfl rfl rfl .h1 (.there (.there (.cons (.cons (.cons (.cons .nil)))))) rfl ?_) rfl;refine Vn 5 ?_;refine Lo 1 sg42 rfl hc1 ?_;refine Lb 0 sg42 .h1 ?_;refine ctr 2 ?_;refine Lo 1 sg9 rfl hc6 ?_;refine Lb 0 sg9 .h1 ?_;refine ctr 3 ?_;refine Lo 2 sg38 rfl hc12 ?_;refine Lo 1 sg38 rfl hc13 ?_;refine pe 0 (zi rfl rfl (by omega)) ?_;refine cfo 7 ?_
   refine Mf fun _ => ?_;exact pW hl2 ⟨.inl (zy (by decide) hnb), rfl⟩
  refine Ps 3 ?_;refine Db (sq [0, 1, 2, 3, 4, 105, 6, 107] .done) ?_;refine vB 1 ?_;refine Vr 1 rfl (zF sg42 rfl hc1) ?_;refine Vr 1 rfl (zJ ag45 rfl rfl haN) ?_;refine zA rfl (yB co42 rfl rfl rfl .h1 .h1 ?_) rfl;refine vB 1 ?_;refine zA rfl (zc ag45 rfl rfl rfl .h1 (.there (.there (.cons (.cons (.cons (.cons .nil)))))) rfl ?_) rfl;refine Vn 5 ?_
  refine Lo 1 sg42 rfl hc1 ?_;refine Lb 0 sg42 .h1 ?_;refine ctr 2 ?_;refine Lo 1 sg9 rfl hc6 ?_;refine Lb 0 sg9 .h1 ?_;refine ctr 3 ?_;refine Lo 2 sg38 rfl hc12 ?_;refine Lo 1 sg38 rfl hc13 ?_;refine pe 0 (zi rfl rfl (by omega)) ?_;refine cto 2 ?_;refine pe 1 (zT zl45 pl45 rfl rfl) ?_;refine La 0 ag48 haC ?_;refine Cr cl112 rfl (fun m' hm he => (plainC112 hc)) ?_;rintro _ rfl
  cases hzc : zeroC cond with
  | false =>
    have hnb : ¬ bareE cond thn els := fun h => absurd (hzc.symm.trans h.1) (by decide);refine vr 1 ?_;refine Mf fun _ => ?_;exact pW hl2 ⟨.inl (zy (by decide) hnb), rfl⟩
  | true =>
    have hbr : bareE cond thn els := ⟨hzc, by omega⟩;refine vr 1 ?_;refine Mt 6 ?_;refine Lo 0 sg42 rfl hc0 ?_;refine cfo 2 ?_;refine Lo 0 sg42 rfl hc0 ?_;refine cfo 3 ?_;refine Lo 0 sg42 rfl hc0 ?_;refine cfo 9 ?_;refine Ps 4 ?_;rw [show p + 1 + numW n = p + (1 + numW n) by omega]
    exact zX hl2 [_] ⟨rfl, trivial⟩ [_] .p0 ⟨sHarm ++ sSp ++ u ++ sSp ++ v ++ sSemi, by rw [ug hbr, hwho, h3]; rfl, by omega, congrArg (fun t => Value.string (bs t)) (by simp), rfl⟩
end
section
open Wd Tp Kd
variable {m : Mp} {b d p : Nat}
theorem Xp (hT : TabI m) (hU : Tabs m) {op who nop nn nwho : Int} {nA : Option Addr} {nl nc : Nat} {name : List UInt8} {cop cwho : Int} {cname : List UInt8} {cA : Option Addr} {cla cca : Nat} {cB : Option Addr} {clb ccb : Nat} {TA : Option Addr} {la ca : Nat} {EB : Option Addr} {lb cb : Nat} {n : NumT} {cond : CondT} {thn els : List EffT}
  (hn : NumR m (n4 nop nn nwho nA nl nc) n) (hc : CondR m (c5 cop cwho cname cA cla cca cB clb ccb) cond) (hcs : CondSm cond) (hnm : name.length ≤ 140737488355328) (hla : thn.length = la) (hlb : els.length = lb) (hla2 : la ≤ 140737488355328) (hlb2 : lb ≤ 140737488355328)
  (hbt : BlkOk m b TA la ca thn) (hbe : BlkOk m b EB lb cb els) (hop : op = 1) : EffOk m b (e14 op who nop nn nwho nA nl nc name cop cwho cname cA cla cca cB clb ccb TA la ca EB lb cb) (.mk op who n name cond thn els) := by
 subst hop;intro m0 hm0 p d hp hd;skip;refine za [.tmp 4] Tryz.func94 rfl rfl rfl ?_;refine tr 2 ?_;refine Bx 0 rfl fun b1 => ?_;refine Bx 4 rfl fun b2 => ?_;refine zG .here (fun ns hi _ hd1 => ?_);refine zG .here (fun ns2 hi2 _ hd2 => ?_)
 have hR : Rd (uni (uni m0 ns) ns2) (some ⟨b2, 0, none⟩) (e14 1 who nop nn nwho nA nl nc name cop cwho cname cA cla cca cB clb ccb TA la ca EB lb cb) := ((Rd.blk hi).mono (zV hd1)).mono (zM _ _);have haN : At (uni (uni m0 ns) ns2) ⟨b2, 2, none⟩ (n4 nop nn nwho nA nl nc) := ((At.blkO (o := 2) (k := 4) hi).mono (zV hd1)).mono (zM _ _)
 have haC : At (uni (uni m0 ns) ns2) ⟨b2, 7, none⟩ (c5 cop cwho cname cA cla cca cB clb ccb) := ((At.blkO (o := 7) (k := 5) hi).mono (zV hd1)).mono (zM _ _);have hR1 : Rd (uni (uni m0 ns) ns2) (some ⟨b1, 0, none⟩) [ptr b] := (Rd.blk hi2).mono (zV hd2);have hl2 : Le m0 (uni (uni m0 ns) ns2) := (zM _ _).trans (zM _ _);clear hi hd1 hi2 hd2
 generalize uni (uni m0 ns) ns2 = m9 at hR hR1 hl2 haN haC;have hl9 := hm0.trans hl2;have hT := hT.mono hl9;have hU := hU.mono hl9;have hn := hn.mono hl9;have hc := hc.mono hl9;have hbt := hbt.mono hl9;have hbe := hbe.mono hl9;have iN : NumOk m9 b _ n := num111 (b := b) hT hn;have iC : CondOk m9 b _ cond := cond115 (b := b) hT hU hc hcs
 have hcp : mc m9 ⟨b1, 0, none⟩ = some (ptr b) := hR1.at_ (i := 0) rfl;have hc0 : mc m9 ⟨b2, 0, none⟩ = some (.int .i8 1) := hR.at_ (i := 0) rfl;have hc1 : mc m9 ⟨b2, 1, none⟩ = some (.int .i8 who) := hR.at_ (i := 1) rfl;have hc6 : mc m9 ⟨b2, 6, none⟩ = some (.string (bs name)) := hR.at_ (i := 6) rfl;have hc12 : mc m9 ⟨b2, 12, none⟩ = some (.slice TA la ca) := hR.at_ (i := 12) rfl
 have hc13 : mc m9 ⟨b2, 13, none⟩ = some (.slice EB lb cb) := hR.at_ (i := 13) rfl;have hw1 := y4 (.mk 1 who n name cond thn els);refine tr 1 ?_;refine Lo 0 sg89 rfl hcp ?_;refine Cp cl109 rfl .k0 (fun m' hm he => part109 hp) ?_ ?_
 ·rintro _ _ ⟨h1, rfl⟩;exact pW hl2 ⟨.inr (by omega), rfl⟩
 rintro _ _ ⟨hp1, rfl, rfl⟩;rw [wS (by decide)];by_cases hw2 : who = 2
 ·have hwho : whoP who = some sTarget := by unfold whoP; rw [if_pos hw2]
  refine vr 5 ?_;refine Lo 0 sg42 rfl hc0 ?_;refine pe 0 (zT zl50 pl50 rfl rfl) ?_;refine Al 0 zl50 fun b3 => ?_;refine Sg 11 ag50 .here ?_;refine Lo 6 sg42 rfl hc0 ?_;refine cfo 5 ?_;refine ctr 13 ?_;refine Lo 0 sg42 rfl hc0 ?_;refine cfo 9 ?_;refine Lo 0 sg42 rfl hc1 ?_;refine cta 5 ?_;refine Ps 6 ?_;refine Lo 1 sg89 rfl hcp ?_;refine La 0 ag45 haN ?_
  refine Cp cl111 rfl .k1 (fun m' hm he => iN m' hm (p + 1) d hp1 hd) ?_ ?_
  ·rintro _ _ ⟨h3, rfl⟩;exact pW hl2 ⟨h3.imp (xW (by decide)) (fun h => by omega), rfl⟩
  rintro _ _ ⟨v, h3, h4, rfl, rfl⟩;have hvl := yp h3 h4;by_cases hname : name = []
  rotate_left
  ·refine Ps 3 ?_;refine Db (sq [0, 1, 2, 3, 4, 105, 6, 107] .done) ?_;refine vB 1 ?_;refine Vr 1 rfl (zF sg42 rfl hc1) ?_;refine Vr 1 rfl (zJ ag45 rfl rfl haN) ?_;refine zA rfl (yB co42 rfl rfl rfl .h1 .h1 ?_) rfl;refine vB 1 ?_;refine zA rfl (zc ag45 rfl rfl rfl .h1 (.there (.there (.cons (.cons (.cons (.cons .nil)))))) rfl ?_) rfl;refine Vn 5 ?_
   refine Lo 1 sg42 rfl hc1 ?_;refine Lb 0 sg42 .h1 ?_;refine ctr 2 ?_;refine Lo 1 sg9 rfl hc6 ?_;refine Lb 0 sg9 .h1 ?_;refine cfa 17 ?_;refine Mf fun _ => ?_;exact pW hl2 ⟨.inl (y8 (by decide) (by decide) hname), rfl⟩
  subst hname;by_cases hle : la + lb = 0
  rotate_left
  ·have hnb : ¬ bareE cond thn els := fun h => hle (by have := h.2; omega);refine Ps 3 ?_;refine Db (sq [0, 1, 2, 3, 4, 105, 6, 107] .done) ?_;refine vB 1 ?_;refine Vr 1 rfl (zF sg42 rfl hc1) ?_;refine Vr 1 rfl (zJ ag45 rfl rfl haN) ?_;refine zA rfl (yB co42 rfl rfl rfl .h1 .h1 ?_) rfl;refine vB 1 ?_
   refine zA rfl (zc ag45 rfl rfl rfl .h1 (.there (.there (.cons (.cons (.cons (.cons .nil)))))) rfl ?_) rfl;refine Vn 5 ?_;refine Lo 1 sg42 rfl hc1 ?_;refine Lb 0 sg42 .h1 ?_;refine ctr 2 ?_;refine Lo 1 sg9 rfl hc6 ?_;refine Lb 0 sg9 .h1 ?_;refine ctr 3 ?_;refine Lo 2 sg38 rfl hc12 ?_;refine Lo 1 sg38 rfl hc13 ?_;refine pe 0 (zi rfl rfl (by omega)) ?_;refine cfo 7 ?_
   refine Mf fun _ => ?_;exact pW hl2 ⟨.inl (zy (by decide) hnb), rfl⟩
  refine Ps 3 ?_;refine Db (sq [0, 1, 2, 3, 4, 105, 6, 107] .done) ?_;refine vB 1 ?_;refine Vr 1 rfl (zF sg42 rfl hc1) ?_;refine Vr 1 rfl (zJ ag45 rfl rfl haN) ?_;refine zA rfl (yB co42 rfl rfl rfl .h1 .h1 ?_) rfl;refine vB 1 ?_;refine zA rfl (zc ag45 rfl rfl rfl .h1 (.there (.there (.cons (.cons (.cons (.cons .nil)))))) rfl ?_) rfl;refine Vn 5 ?_
  refine Lo 1 sg42 rfl hc1 ?_;refine Lb 0 sg42 .h1 ?_;refine ctr 2 ?_;refine Lo 1 sg9 rfl hc6 ?_;refine Lb 0 sg9 .h1 ?_;refine ctr 3 ?_;refine Lo 2 sg38 rfl hc12 ?_;refine Lo 1 sg38 rfl hc13 ?_;refine pe 0 (zi rfl rfl (by omega)) ?_;refine cto 2 ?_;refine pe 1 (zT zl45 pl45 rfl rfl) ?_;refine La 0 ag48 haC ?_;refine Cr cl112 rfl (fun m' hm he => (plainC112 hc)) ?_;rintro _ rfl
  cases hzc : zeroC cond with
  | false =>
    have hnb : ¬ bareE cond thn els := fun h => absurd (hzc.symm.trans h.1) (by decide);refine vr 1 ?_;refine Mf fun _ => ?_;exact pW hl2 ⟨.inl (zy (by decide) hnb), rfl⟩
  | true =>
    have hbr : bareE cond thn els := ⟨hzc, by omega⟩;refine vr 1 ?_;refine Mt 6 ?_;refine Lo 0 sg42 rfl hc0 ?_;refine cfo 2 ?_;refine Lo 0 sg42 rfl hc0 ?_;refine cfo 3 ?_;refine Lo 0 sg42 rfl hc0 ?_;refine cfo 9 ?_;refine Ps 4 ?_;rw [show p + 1 + numW n = p + (1 + numW n) by omega]
    exact zX hl2 [_] ⟨rfl, trivial⟩ [_] .p0 ⟨sMend ++ sSp ++ sTarget ++ sSp ++ v ++ sSemi, by rw [uf hbr, hwho, h3]; rfl, by omega, congrArg (fun t => Value.string (bs t)) (by simp), rfl⟩
 ·have hws : whoP who = sideP who := by unfold whoP; rw [if_neg hw2]
  refine vr 5 ?_;refine Lo 0 sg42 rfl hc0 ?_;refine pe 0 (zT zl50 pl50 rfl rfl) ?_;refine Al 0 zl50 fun b3 => ?_;refine Sg 11 ag50 .here ?_;refine Lo 6 sg42 rfl hc0 ?_;refine cfo 5 ?_;refine ctr 13 ?_;refine Lo 0 sg42 rfl hc0 ?_;refine cfo 9 ?_;refine Lo 0 sg42 rfl hc1 ?_;refine cfa 6 ?_;refine Lo 0 sg42 rfl hc1 ?_;refine Cn cl110 rfl side110 ?_ ?_
  ·rintro _ _ ⟨h1, rfl⟩;exact pW hl2 ⟨.inl (kX (by decide) (hws.trans h1)), rfl⟩
  rintro _ _ ⟨u, hu, rfl, rfl⟩;have hul := yJ hu;have hwho := hws.trans hu;refine Ps 0 ?_;refine Ps 6 ?_;refine Lo 1 sg89 rfl hcp ?_;refine La 0 ag45 haN ?_;refine Cp cl111 rfl .k1 (fun m' hm he => iN m' hm (p + 1) d hp1 hd) ?_ ?_
  ·rintro _ _ ⟨h3, rfl⟩;exact pW hl2 ⟨h3.imp (xW (by decide)) (fun h => by omega), rfl⟩
  rintro _ _ ⟨v, h3, h4, rfl, rfl⟩;have hvl := yp h3 h4;by_cases hname : name = []
  rotate_left
  ·refine Ps 3 ?_;refine Db (sq [0, 1, 2, 3, 4, 105, 6, 107] .done) ?_;refine vB 1 ?_;refine Vr 1 rfl (zF sg42 rfl hc1) ?_;refine Vr 1 rfl (zJ ag45 rfl rfl haN) ?_;refine zA rfl (yB co42 rfl rfl rfl .h1 .h1 ?_) rfl;refine vB 1 ?_;refine zA rfl (zc ag45 rfl rfl rfl .h1 (.there (.there (.cons (.cons (.cons (.cons .nil)))))) rfl ?_) rfl;refine Vn 5 ?_
   refine Lo 1 sg42 rfl hc1 ?_;refine Lb 0 sg42 .h1 ?_;refine ctr 2 ?_;refine Lo 1 sg9 rfl hc6 ?_;refine Lb 0 sg9 .h1 ?_;refine cfa 17 ?_;refine Mf fun _ => ?_;exact pW hl2 ⟨.inl (y8 (by decide) (by decide) hname), rfl⟩
  subst hname;by_cases hle : la + lb = 0
  rotate_left
  ·have hnb : ¬ bareE cond thn els := fun h => hle (by have := h.2; omega);refine Ps 3 ?_;refine Db (sq [0, 1, 2, 3, 4, 105, 6, 107] .done) ?_;refine vB 1 ?_;refine Vr 1 rfl (zF sg42 rfl hc1) ?_;refine Vr 1 rfl (zJ ag45 rfl rfl haN) ?_;refine zA rfl (yB co42 rfl rfl rfl .h1 .h1 ?_) rfl;refine vB 1 ?_
   refine zA rfl (zc ag45 rfl rfl rfl .h1 (.there (.there (.cons (.cons (.cons (.cons .nil)))))) rfl ?_) rfl;refine Vn 5 ?_;refine Lo 1 sg42 rfl hc1 ?_;refine Lb 0 sg42 .h1 ?_;refine ctr 2 ?_;refine Lo 1 sg9 rfl hc6 ?_;refine Lb 0 sg9 .h1 ?_;refine ctr 3 ?_;refine Lo 2 sg38 rfl hc12 ?_;refine Lo 1 sg38 rfl hc13 ?_;refine pe 0 (zi rfl rfl (by omega)) ?_;refine cfo 7 ?_
   refine Mf fun _ => ?_;exact pW hl2 ⟨.inl (zy (by decide) hnb), rfl⟩
  refine Ps 3 ?_;refine Db (sq [0, 1, 2, 3, 4, 105, 6, 107] .done) ?_;refine vB 1 ?_;refine Vr 1 rfl (zF sg42 rfl hc1) ?_;refine Vr 1 rfl (zJ ag45 rfl rfl haN) ?_;refine zA rfl (yB co42 rfl rfl rfl .h1 .h1 ?_) rfl;refine vB 1 ?_;refine zA rfl (zc ag45 rfl rfl rfl .h1 (.there (.there (.cons (.cons (.cons (.cons .nil)))))) rfl ?_) rfl;refine Vn 5 ?_
  refine Lo 1 sg42 rfl hc1 ?_;refine Lb 0 sg42 .h1 ?_;refine ctr 2 ?_;refine Lo 1 sg9 rfl hc6 ?_;refine Lb 0 sg9 .h1 ?_;refine ctr 3 ?_;refine Lo 2 sg38 rfl hc12 ?_;refine Lo 1 sg38 rfl hc13 ?_;refine pe 0 (zi rfl rfl (by omega)) ?_;refine cto 2 ?_;refine pe 1 (zT zl45 pl45 rfl rfl) ?_;refine La 0 ag48 haC ?_;refine Cr cl112 rfl (fun m' hm he => (plainC112 hc)) ?_;rintro _ rfl
  cases hzc : zeroC cond with
  | false =>
    have hnb : ¬ bareE cond thn els := fun h => absurd (hzc.symm.trans h.1) (by decide);refine vr 1 ?_;refine Mf fun _ => ?_;exact pW hl2 ⟨.inl (zy (by decide) hnb), rfl⟩
  | true =>
    have hbr : bareE cond thn els := ⟨hzc, by omega⟩;refine vr 1 ?_;refine Mt 6 ?_;refine Lo 0 sg42 rfl hc0 ?_;refine cfo 2 ?_;refine Lo 0 sg42 rfl hc0 ?_;refine cfo 3 ?_;refine Lo 0 sg42 rfl hc0 ?_;refine cfo 9 ?_;refine Ps 4 ?_;rw [show p + 1 + numW n = p + (1 + numW n) by omega]
    exact zX hl2 [_] ⟨rfl, trivial⟩ [_] .p0 ⟨sMend ++ sSp ++ u ++ sSp ++ v ++ sSemi, by rw [uf hbr, hwho, h3]; rfl, by omega, congrArg (fun t => Value.string (bs t)) (by simp), rfl⟩
end
end Go.Proofs.YtpgiokjfkcddeaaGreatDoor
