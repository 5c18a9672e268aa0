/- Parts of the proof: contracts of functions of the program, and plain lemmas. No condition. -/
import Derived.Test.YtgohljjedlpccaaGreatDoorFacts
import Derived.Test.YtgohljjedlpccaaGreatDoorEng2
set_option maxHeartbeats 64000000
set_option maxRecDepth 100000
namespace Go.Proofs.YtgohljjedlpccaaGreatDoor
open Go.Eng
section
open Wd Tp Kd
variable {b c : Nat} {A : Option Addr} {ws : List Wrd}
theorem vX {ts ts' : List Wrd} {w : Int} (h : pSide ts = .ok w ts') : In8 w := by
 unfold pSide at h
 split at h
 ·cases h; exact ⟨by decide, by decide⟩
 ·split at h
  ·cases h; exact ⟨by decide, by decide⟩
  ·cases h
theorem Xd {ts ts' : List Wrd} {w : Int} (h : pWho ts = .ok w ts') : In8 w := by
 unfold pWho at h
 split at h
 ·cases h; exact ⟨by decide, by decide⟩
 ·exact vX h
theorem wb {ws ts ts' : List Wrd} {at_ : Nat} {s : List UInt8} (hp : Pos ws at_ ts) (h : pName ts = .ok s ts') : s.length ≤ 65536 := by
 unfold pName at h
 split at h
 ·rename_i hk
  cases h;exact hp.good.text (by omega)
 ·cases h
theorem YW {i : Nat} (h : i < lessSigns.length) : ([strV sLt, strV sLe, strV sEq] : List Value)[i]? = some (strV lessSigns[i].1) := by
 match i, h with
 | 0, _ => rfl
 | 1, _ => rfl
 | 2, _ => rfl
theorem YV {i : Nat} (h : i < lessSigns.length) : lessSigns[i].2 = (i : Nat) := by
 match i, h with
 | 0, _ => rfl
 | 1, _ => rfl
 | 2, _ => rfl
theorem ZM {i : Nat} (h : i < lessSigns.length) : Ascii lessSigns[i].1 ∧ lessSigns[i].1.length ≤ 1000 := ascs (lessSigns.map (·.1)) rfl _ (List.mem_map.2 ⟨lessSigns[i], List.getElem_mem h, rfl⟩)
theorem condNot {m : Mp} {K : Nat} {q : CondC} {x : CondT} (h : (cel K q.v 88).inv m) (hx : CondR m q.v x) : CondR m [.int .i8 3, .int .i8 0, .string (bs []), .slice none 0 0, .slice (some ⟨K, 0, none⟩) 1 1] (.mk 3 0 [] [] [x]) :=
 .mk (vs := []) (us := q.v) ⟨by decide, by decide⟩ ⟨by decide, by decide⟩ (by decide) rfl (by decide) (Rd.nil _ _) rfl (fun i h => by cases h) rfl (by decide) (Rd.blk h) rfl fun i hi => by
  have : i = 0 := by have : i < 1 := hi; omega
  subst this;exact hx
theorem condHolds {m : Mp} {w : Int} {s : List UInt8} (hw : In8 w) (hs : s.length ≤ maxLen) : CondR m [.int .i8 6, .int .i8 w, .string (bs s), .slice none 0 0, .slice none 0 0] (.mk 6 w s [] []) :=
 .mk (vs := []) (us := []) ⟨by decide, by decide⟩ hw hs rfl (by decide) (Rd.nil _ _) rfl (fun i h => by cases h) rfl (by decide) (Rd.nil _ _) rfl fun i h => by cases h
theorem condLess {m : Mp} {op : Int} {K : Nat} {q r : NumC} {x y : NumT} (ho : In8 op) (h : (cel K (q.v ++ r.v) 85).inv m) (hx : NumR m q.v x) (hy : NumR m r.v y) : CondR m [.int .i8 op, .int .i8 0, .string (bs []), .slice (some ⟨K, 0, none⟩) 2 2, .slice none 0 0] (.mk op 0 [] [x, y] []) :=
 .mk (vs := q.v ++ r.v) (us := []) ho ⟨by decide, by decide⟩ (by decide) rfl (by decide) (Rd.blk h) rfl (fun i hi => by
  have : i = 0 ∨ i = 1 := by have : i < 2 := hi; omega
  rcases this with rfl | rfl
  ·exact hx
  ·exact hy) rfl (by decide) (Rd.nil _ _) rfl fun i h => by cases h
def CnC (m : Mp) (b : Nat) (A : Option Addr) (c : Nat) (ws : List Wrd) (cond : Nat → List Wrd → R CondT) (k : Nat) : Prop :=
 ∀ m', Le m m' → ∀ (at_ d p : Nat) (ts : List Wrd), Pos ws at_ ts → d ≤ 8 → p + ts.length ≤ 4611686018427000000 → ts.length < k → RdC 143 [ptr b] m' b A c ws at_ d p (cond d ts) condW condV
theorem CnC.mono {m m' : Mp} {cond : Nat → List Wrd → R CondT} {k : Nat} (h : CnC m b A c ws cond k) (hl : Le m m') : CnC m' b A c ws cond k := fun m2 h2 => h m2 (hl.trans h2)
theorem test174 {m : Mp} {sum : Nat → List Wrd → R NumT} {cond : Nat → List Wrd → R CondT} {k : Nat} (hT : Tabs m) (hw : WsR m A ws) (hcap : ws.length ≤ c) (hse : ∀ d ts, ts.length < k + 1 → Tp.Ends (sum d ts) numW ts.length) (hsum : SumC m b A c ws sum (k + 1)) (hce : ∀ d ts, ts.length < k → Tp.Ends (cond d ts) condW ts.length) (hcond : CnC m b A c ws cond k) :
  ∀ (n : Nat) (m' : Mp), Le m m' → ∀ (at_ d p : Nat) (ts : List Wrd), Pos ws at_ ts → d ≤ 8 → p + ts.length ≤ 4611686018427000000 → ts.length < n → ts.length < k + 1 → RdC 175 [ptr b] m' b A c ws at_ d p (pTest sum cond n d ts) condW condV
 | 0, _, _, _, _, _, _, _, _, _, h, _ => by cases h
 | n + 1, m', hm, at_, d, p, ts, hp, hd8, hb, hn, hk0 => by
   generalize hF : pTest sum cond (n + 1) d ts = F;unfold pTest at hF;have hsm := hp.small;have hlt := hp.lt;refine z6 [.cell 2 88] Tryz.func175 rfl rfl rfl ?_;refine tr 2 ?_;refine Al 7 zl88 fun b1 => ?_;refine C1 cl50 rfl .h1 (fun m1 h1 he => is18 (s := sNot) (hw.mono (hm.trans h1)) hp (asc _ rfl) (by decide)) ?_;rintro _ _ ⟨rfl, rfl⟩;cases hkn : isW sNot ts with
   | true =>
     rw [if_pos hkn] at hF;have hl1 := zh hkn;have hp1 := hp.isW hkn;refine vr 7 ?_;refine Cp cl142 rfl .k0 (fun m1 h1 he => in129 (hw.mono (hm.trans h1)) hp hd8) ?_ ?_
     ·rintro _ _ ⟨h8, rfl⟩;rw [pIn, if_pos h8] at hF;exact pn ⟨121, _, hF.symm, rfl⟩
     rintro _ _ ⟨h8, rfl, rfl⟩;rw [pIn, if_neg (by omega)] at hF;dsimp only [R.bind] at hF;refine vr 7 ?_;refine Lb 0 sg3 .here ?_;refine Pa 2 ?_;refine Sr 7 co3 .here .h1 ?_;refine Lb 0 sg3 .here ?_;refine Pa 2 ?_;refine Sr 5 co3 .here .h3 ?_
     refine Cp cl175 rfl .k0 (fun m1 h1 he => test174 hT hw hcap hse hsum hce hcond n m1 (hm.trans h1) (at_ + 1) (d + 1) (p + 1) ts.tail hp1 h8 (by omega) (by omega) (by omega)) ?_ ?_
     ·rintro _ _ ⟨e', a', h1, rfl⟩;rw [h1] at hF;exact pn ⟨e', a', hF.symm, rfl⟩
     rintro _ _ ⟨x, ts2, at2, _, h1, hp2, ⟨q, e, rfl, rfl, hx⟩, rfl⟩;rw [h1] at hF;dsimp only [R.bind] at hF;clear h1;refine Al 0 zl88 fun b2 => ?_;refine Sg 7 ag88 .here ?_;refine Lb 0 sg3 .h1 ?_;refine pe 2 (jV rfl rfl (w64 (by omega) (by omega))) ?_;refine Sr 4 co3 .h1 .h2 ?_;refine Lc 0 ag88 .here ?_;refine Bs 0 sl86 fun b3 => ?_;refine pe 0 (zT zl88 pl88 rfl rfl) ?_
     refine Sg 5 ag88 .h4 ?_;rw [show ((d + 1 : Nat) : Int) - 1 = (d : Nat) by omega]
     exact zo [_] ⟨⟨b1, _, _, _, rfl, .h4, .inr ⟨rfl, rfl⟩⟩, trivial⟩ _ (.cons .h2 (Pick.pack2 (.cons .here .p1))) ⟨_, ts2, at2, _, hF.symm, hp2, ⟨⟨3, 0, [], none, 0, 0, some ⟨b3, 0, none⟩, 1, 1⟩, pack [cel b3 q.v 88, e], rfl, rfl, fun ns h => condNot (h.1 _ (.head _)) (hx ns (h.1 _ (.tail _ (.head _))))⟩, by show [rd b A c ws at2 d (p + 1 + condW x), pack [cel b3 q.v 88, e]] = [rd b A c ws at2 d (p + condW (.mk 3 0 [] [] [x])), pack [cel b3 q.v 88, e]]; rw [yw]; simp only [List.map_nil, List.map_cons, List.sum_nil, List.sum_cons, Nat.add_zero, Nat.add_assoc]⟩
   | false =>
   rw [if_neg (by rw [hkn]; decide)] at hF;refine vr 7 ?_;refine C1 cl50 rfl .here (fun m1 h1 he => is18 (s := sOpen) (hw.mono (hm.trans h1)) hp (asc _ rfl) (by decide)) ?_;rintro _ _ ⟨rfl, rfl⟩;cases hko : isW sOpen ts with
   | true =>
     refine vr 2 ?_;refine C1 cl181 rfl .here (fun m1 h1 he => outer182 (hw.mono (hm.trans h1)) hp hcap) ?_;rintro _ _ ⟨rfl, rfl⟩;cases hou : outer 0 ts with
     | true =>
       rw [if_pos (by rw [hko, hou]; rfl)] at hF;have hl1 := zh hko;have hp1 := hp.isW hko;refine vr 8 ?_;refine Cp cl142 rfl .k0 (fun m1 h1 he => in129 (hw.mono (hm.trans h1)) hp hd8) ?_ ?_
       ·rintro _ _ ⟨h8, rfl⟩;rw [pIn, if_pos h8] at hF;exact pn ⟨121, _, hF.symm, rfl⟩
       rintro _ _ ⟨h8, rfl, rfl⟩;rw [pIn, if_neg (by omega)] at hF;dsimp only [R.bind] at hF;refine vr 7 ?_;refine Lb 0 sg3 .here ?_;refine Pa 2 ?_;refine Sr 5 co3 .here .h1 ?_;refine Cp cl143 rfl .k0 (fun m1 h1 he => hcond m1 (hm.trans h1) (at_ + 1) (d + 1) p ts.tail hp1 h8 (by omega) (by omega)) ?_ ?_
       ·rintro _ _ ⟨e', a', h1, rfl⟩;rw [h1] at hF;exact pn ⟨e', a', hF.symm, rfl⟩
       rintro _ _ ⟨x, ts2, at2, _, h1, hp2, ⟨q, e, rfl, rfl, hx⟩, rfl⟩;rw [h1] at hF;dsimp only [R.bind] at hF;have hl2 := (hce (d + 1) ts.tail (by omega)).2 _ _ h1;clear h1;refine Al 0 zl88 fun b2 => ?_;refine Sg 5 ag88 .here ?_;refine Bs 0 sl38 fun b3 => ?_
       refine Cp cl79 rfl .k2 (fun m1 h1 he => must58 (s := sClose) (hw.mono (hm.trans h1)) (Rd.blk (he _ (.head _))) (asc _ rfl) (by decide) hp2) ?_ ?_
       ·rintro _ _ ⟨e', a', h1, rfl⟩;rw [h1] at hF;exact pn ⟨e', a', hF.symm, rfl⟩
       rintro _ _ ⟨_, ts3, at3, _, h1, hp3, ⟨rfl, rfl⟩, rfl⟩;rw [h1] at hF;dsimp only [R.bind] at hF;have hl3 : 1 + ts3.length ≤ ts2.length := (zP (s := sClose) (ts := ts2)).2 _ _ h1;clear h1;refine vr 7 ?_;refine Lb 0 sg3 .here ?_;refine pe 2 (jV rfl rfl (w64 (by omega) (by omega))) ?_;refine Sr 4 co3 .here .h2 ?_;refine Lc 0 ag88 .h2 ?_;refine Sg 5 ag88 .h4 ?_
       rw [show ((d + 1 : Nat) : Int) - 1 = (d : Nat) by omega];exact zo [_] ⟨⟨b1, _, _, _, rfl, .h4, .inr ⟨rfl, rfl⟩⟩, trivial⟩ _ (.cons .here .p2) ⟨x, ts3, at3, _, hF.symm, hp3, ⟨q, e, rfl, rfl, hx⟩, rfl⟩
     | false =>
       have hF2 := hF;rw [if_neg (by rw [hko, hou]; decide)] at hF2;clear hF;have hF := hF2;clear hF2;refine vr 13 ?_;refine Lb 0 sg3 .here ?_;refine Pa 2 ?_;refine Sr 6 co3 .here .h3 ?_;refine C1 cl77 rfl .here (fun m1 h1 he => take56 (s := sHolds) (hw.mono (hm.trans h1)) hp (asc _ rfl) (by decide)) ?_;rintro _ _ (⟨hk, hp1, rfl, rfl⟩ | ⟨hk, rfl, rfl⟩)
       ·have hl1 := zh hk;rw [if_pos hk] at hF;refine vr 6 ?_;refine Bs 0 sl38 fun b2 => ?_;refine Cp cl79 rfl .k1 (fun m1 h1 he => must58 (s := sOpen) (hw.mono (hm.trans h1)) (Rd.blk (he _ (.head _))) (asc _ rfl) (by decide) hp1) ?_ ?_
        ·rintro _ _ ⟨e', a', h1, rfl⟩;rw [h1] at hF;exact pn ⟨e', a', hF.symm, rfl⟩
        rintro _ _ ⟨_, ts2, at2, _, h1, hp2, ⟨rfl, rfl⟩, rfl⟩;rw [h1] at hF;dsimp only [R.bind] at hF;have hl2 : 1 + ts2.length ≤ ts.tail.length := (zP (s := sOpen) (ts := ts.tail)).2 _ _ h1;clear h1;refine vr 5 ?_;refine Cp cl141 rfl .k0 (fun m1 h1 he => side128 (hw.mono (hm.trans h1)) hp2) ?_ ?_
        ·rintro _ _ ⟨e', a', h1, rfl⟩;rw [h1] at hF;exact pn ⟨e', a', hF.symm, rfl⟩
        rintro _ _ ⟨w, ts3, at3, _, h1, hp3, ⟨rfl, rfl⟩, rfl⟩;rw [h1] at hF;dsimp only [R.bind] at hF;have hl3 : 1 + ts3.length ≤ ts2.length := (yX (ts := ts2)).2 _ _ h1;have hw8 := vX h1;clear h1;refine pe 0 (zT zl88 pl88 rfl rfl) ?_;refine Al 0 zl88 fun b3 => ?_;refine Sg 5 ag88 .here ?_;refine Bs 0 sl38 fun b4 => ?_
        refine Cp cl79 rfl .k2 (fun m1 h1 he => must58 (s := sComma) (hw.mono (hm.trans h1)) (Rd.blk (he _ (.head _))) (asc _ rfl) (by decide) hp3) ?_ ?_
        ·rintro _ _ ⟨e', a', h1, rfl⟩;rw [h1] at hF;exact pn ⟨e', a', hF.symm, rfl⟩
        rintro _ _ ⟨_, ts4, at4, _, h1, hp4, ⟨rfl, rfl⟩, rfl⟩;rw [h1] at hF;dsimp only [R.bind] at hF;have hl4 : 1 + ts4.length ≤ ts3.length := (zP (s := sComma) (ts := ts3)).2 _ _ h1;clear h1;refine vr 5 ?_;refine Cp cl76 rfl .k0 (fun m1 h1 he => name55 (hT.mono (hm.trans h1)) (hw.mono (hm.trans h1)) hp4) ?_ ?_
        ·rintro _ _ ⟨e', a', h1, rfl⟩;rw [h1] at hF;exact pn ⟨e', a', hF.symm, rfl⟩
        rintro _ _ ⟨s, ts5, at5, _, h1, hp5, ⟨rfl, rfl⟩, rfl⟩;rw [h1] at hF;dsimp only [R.bind] at hF;have hl5 : 1 + ts5.length ≤ ts4.length := (yg (ts := ts4)).2 _ _ h1;have hs5 := wb hp4 h1;clear h1;refine vr 1 ?_;refine Sr 5 co9 .h2 .h2 ?_;refine Bs 0 sl38 fun b5 => ?_
        refine Cp cl79 rfl .k1 (fun m1 h1 he => must58 (s := sClose) (hw.mono (hm.trans h1)) (Rd.blk (he _ (.head _))) (asc _ rfl) (by decide) hp5) ?_ ?_
        ·rintro _ _ ⟨e', a', h1, rfl⟩;rw [h1] at hF;exact pn ⟨e', a', hF.symm, rfl⟩
        rintro _ _ ⟨_, ts6, at6, _, h1, hp6, ⟨rfl, rfl⟩, rfl⟩;rw [h1] at hF;dsimp only [R.bind] at hF;have hl6 : 1 + ts6.length ≤ ts5.length := (zP (s := sClose) (ts := ts5)).2 _ _ h1;clear h1;refine vr 4 ?_;refine Lc 0 ag88 .h3 ?_;refine Sg 4 ag88 .h5 ?_
        exact zo [_] ⟨⟨b1, _, _, _, rfl, .h5, .inr ⟨rfl, rfl⟩⟩, trivial⟩ _ (.cons .here (Pick.nilE (.nil _))) ⟨_, ts6, at6, _, hF.symm, hp6, ⟨⟨6, w, s, none, 0, 0, none, 0, 0⟩, pack [], rfl, rfl, fun ns _ => condHolds (s := s) hw8 (by unfold maxLen; omega)⟩, by show [rd b A c ws at6 d (p + 1), pack []] = [rd b A c ws at6 d (p + condW (.mk 6 w s [] [])), pack []]; rw [yw]; rfl⟩
       rw [if_neg (by rw [hk]; decide)] at hF;refine vr 8 ?_;refine Cp cl140 rfl .k0 (fun m1 h1 he => hsum m1 (hm.trans h1) at_ d (p + 1) ts hp hd8 (by omega) (by omega)) ?_ ?_
       ·rintro _ _ ⟨e', a', h1, rfl⟩;rw [h1] at hF;exact pn ⟨e', a', hF.symm, rfl⟩
       rintro _ _ ⟨a, ts1, at1, _, h1, hp1, ⟨q, ea, rfl, rfl, ha⟩, rfl⟩;rw [h1] at hF;dsimp only [R.bind] at hF;have hl1 := (hse d ts (by omega)).2 _ _ h1;clear h1;have hap := uZ a;refine Al 0 zl85 fun b2 => ?_;refine Sg 5 ag85 .here ?_;refine Bs 5 sl38 fun b3 => ?_
       refine zZ (α := Nat) (fun i => [(0, ptr b), (2, ptr b1), (6, ptr b2), (97, .slice (some ⟨b3, 0, none⟩) 3 3), (98, .int .i64 3), (99, .int .i64 (i : Nat))]) (fun i => [cel b3 [strV sLt, strV sLe, strV sEq] 9, cel b2 q.v 85, rd b A c ws at1 d (p + 1 + numW a), ea, cel b1 [.int .i8 0, .int .i8 0, .string (bs []), .slice none 0 0, .slice none 0 0] 88]) (fun i => i ≤ lessSigns.length ∧ ∀ (j : Nat) (hj : j < lessSigns.length), j < i → isW lessSigns[j].1 ts1 = false) (fun i => lessSigns.length - i) 0 ⟨rfl, rfl, rfl, rfl, rfl, rfl, trivial⟩ (Pick.refl _) ⟨Nat.zero_le _, fun _ _ h => by cases h⟩ ?_
       rintro i ⟨hi, hno⟩;have hwl : lessSigns.length = 3 := rfl;by_cases hli : i < lessSigns.length
       ·have hcx : ([strV sLt, strV sLe, strV sEq] : List Value)[i]? = some (strV lessSigns[i].1) := YW hli;have hfa := fun h => uo (ts := ts1) hli h hno;have hw2 := YV hli;have hai := ZM hli
        have hnext : isW lessSigns[i].1 ts1 = false → ∀ (j : Nat) (hj : j < lessSigns.length), j < i + 1 → isW lessSigns[j].1 ts1 = false := fun h j hj h2 => by
         by_cases hji : j < i
         ·exact hno j hj hji
         ·obtain rfl : j = i := by omega
          exact h
        generalize lessSigns[i] = sg at hcx hfa hw2 hai hnext;refine tr 2 ?_;refine cto 11 ?_;refine pe 0 (zm ez38 rfl rfl rfl (by omega)) ?_;refine lr 8 (qn sg9 rfl .here hcx) ?_;refine C1 cl77 rfl .h2 (fun m1 h1 he => take56 (s := sg.1) (hw.mono (hm.trans h1)) hp1 hai.1 hai.2) ?_;rintro _ _ (⟨hk1, hp2, rfl, rfl⟩ | ⟨hk1, rfl, rfl⟩)
        rotate_left
        ·refine vr 7 ?_;refine Pa 2 ?_;exact QR (i + 1) (.cons .h1 (.cons .h1 (.cons .here .pp))) ⟨hli, hnext hk1⟩ (by omega)
        have hl2 := zh hk1;rw [hfa hk1] at hF;dsimp only at hF;refine vr 6 ?_;refine Cp cl140 rfl .k0 (fun m1 h1 he => hsum m1 (hm.trans h1) (at1 + 1) d (p + 1 + numW a) ts1.tail hp2 hd8 (by omega) (by omega)) ?_ ?_
        ·rintro _ _ ⟨e', a', h1, rfl⟩;rw [h1] at hF;refine zp ?_;refine ze ?_;exact pn ⟨e', a', hF.symm, rfl⟩
        rintro _ _ ⟨y, ts3, at3, _, h1, hp3, ⟨r, ey, rfl, rfl, hy⟩, rfl⟩;rw [h1] at hF;dsimp only [R.bind] at hF;clear h1;refine Al 0 zl85 fun b4 => ?_;refine Sg 5 ag85 .here ?_;refine pe 0 ((yK us3 ik82 rfl (w8 (by omega) (by omega)))) ?_;skip;refine pe 0 ((zy rfl rfl (w8 (by omega) (by omega)))) ?_;rw [show ((0 : Int) + (i : Nat)) = sg.2 by omega];refine Lc 0 ag85 .h4 ?_
        refine Lc 0 ag85 .here ?_;refine Bs 0 sl83 fun b5 => ?_;refine pe 0 (zT zl88 pl88 rfl rfl) ?_;refine Sg 5 ag88 .h7 ?_;refine zI ?_;refine zH ?_;refine zL ?_
        exact zo [_] ⟨⟨b1, _, _, _, rfl, .h7, .inr ⟨rfl, rfl⟩⟩, trivial⟩ _ (.cons .h2 (Pick.pack3 (.cons .here (.cons .h4 .p1)))) ⟨_, ts3, at3, _, hF.symm, hp3, ⟨⟨sg.2, 0, [], some ⟨b5, 0, none⟩, 2, 2, none, 0, 0⟩, pack [cel b5 (q.v ++ r.v) 85, ea, ey], rfl, rfl, fun ns h => condLess (op := sg.2) ⟨by omega, by omega⟩ (h.1 _ (.head _)) (ha ns (h.1 _ (.tail _ (.head _)))) (hy ns (h.1 _ (.tail _ (.tail _ (.head _)))))⟩, by show [rd b A c ws at3 d (p + 1 + numW a + numW y), pack [cel b5 (q.v ++ r.v) 85, ea, ey]] = [rd b A c ws at3 d (p + condW (.mk sg.2 0 [] [a, y] [])), pack [cel b5 (q.v ++ r.v) 85, ea, ey]]; rw [yw]; simp only [List.map_nil, List.map_cons, List.sum_nil, List.sum_cons, Nat.add_zero, Nat.add_assoc]⟩
       rw [un (signs := lessSigns) (ts := ts1) fun j hj => hno j hj (by omega)] at hF;dsimp only at hF;refine tr 2 ?_;refine cfo 6 ?_;refine zG ?_;refine zF ?_;refine qt 4 ?_;refine Cp cl51 rfl .k2 (fun m1 h1 he => bad19 120 (hw.mono (hm.trans h1)) hp1) ?_ ?_
       ·rintro _ _ rfl;exact pn ⟨120, _, hF.symm, rfl⟩
       ·rintro _ _ h;exact h.elim
   | false =>
   rw [if_neg (by rw [hko]; simp)] at hF;refine vr 16 ?_;refine Lb 0 sg3 .here ?_;refine Pa 2 ?_;refine Sr 6 co3 .here .h3 ?_;refine C1 cl77 rfl .here (fun m1 h1 he => take56 (s := sHolds) (hw.mono (hm.trans h1)) hp (asc _ rfl) (by decide)) ?_;rintro _ _ (⟨hk, hp1, rfl, rfl⟩ | ⟨hk, rfl, rfl⟩)
   ·have hl1 := zh hk;rw [if_pos hk] at hF;refine vr 6 ?_;refine Bs 0 sl38 fun b2 => ?_;refine Cp cl79 rfl .k1 (fun m1 h1 he => must58 (s := sOpen) (hw.mono (hm.trans h1)) (Rd.blk (he _ (.head _))) (asc _ rfl) (by decide) hp1) ?_ ?_
    ·rintro _ _ ⟨e', a', h1, rfl⟩;rw [h1] at hF;exact pn ⟨e', a', hF.symm, rfl⟩
    rintro _ _ ⟨_, ts2, at2, _, h1, hp2, ⟨rfl, rfl⟩, rfl⟩;rw [h1] at hF;dsimp only [R.bind] at hF;have hl2 : 1 + ts2.length ≤ ts.tail.length := (zP (s := sOpen) (ts := ts.tail)).2 _ _ h1;clear h1;refine vr 5 ?_;refine Cp cl141 rfl .k0 (fun m1 h1 he => side128 (hw.mono (hm.trans h1)) hp2) ?_ ?_
    ·rintro _ _ ⟨e', a', h1, rfl⟩;rw [h1] at hF;exact pn ⟨e', a', hF.symm, rfl⟩
    rintro _ _ ⟨w, ts3, at3, _, h1, hp3, ⟨rfl, rfl⟩, rfl⟩;rw [h1] at hF;dsimp only [R.bind] at hF;have hl3 : 1 + ts3.length ≤ ts2.length := (yX (ts := ts2)).2 _ _ h1;have hw8 := vX h1;clear h1;refine pe 0 (zT zl88 pl88 rfl rfl) ?_;refine Al 0 zl88 fun b3 => ?_;refine Sg 5 ag88 .here ?_;refine Bs 0 sl38 fun b4 => ?_
    refine Cp cl79 rfl .k2 (fun m1 h1 he => must58 (s := sComma) (hw.mono (hm.trans h1)) (Rd.blk (he _ (.head _))) (asc _ rfl) (by decide) hp3) ?_ ?_
    ·rintro _ _ ⟨e', a', h1, rfl⟩;rw [h1] at hF;exact pn ⟨e', a', hF.symm, rfl⟩
    rintro _ _ ⟨_, ts4, at4, _, h1, hp4, ⟨rfl, rfl⟩, rfl⟩;rw [h1] at hF;dsimp only [R.bind] at hF;have hl4 : 1 + ts4.length ≤ ts3.length := (zP (s := sComma) (ts := ts3)).2 _ _ h1;clear h1;refine vr 5 ?_;refine Cp cl76 rfl .k0 (fun m1 h1 he => name55 (hT.mono (hm.trans h1)) (hw.mono (hm.trans h1)) hp4) ?_ ?_
    ·rintro _ _ ⟨e', a', h1, rfl⟩;rw [h1] at hF;exact pn ⟨e', a', hF.symm, rfl⟩
    rintro _ _ ⟨s, ts5, at5, _, h1, hp5, ⟨rfl, rfl⟩, rfl⟩;rw [h1] at hF;dsimp only [R.bind] at hF;have hl5 : 1 + ts5.length ≤ ts4.length := (yg (ts := ts4)).2 _ _ h1;have hs5 := wb hp4 h1;clear h1;refine vr 1 ?_;refine Sr 5 co9 .h2 .h2 ?_;refine Bs 0 sl38 fun b5 => ?_
    refine Cp cl79 rfl .k1 (fun m1 h1 he => must58 (s := sClose) (hw.mono (hm.trans h1)) (Rd.blk (he _ (.head _))) (asc _ rfl) (by decide) hp5) ?_ ?_
    ·rintro _ _ ⟨e', a', h1, rfl⟩;rw [h1] at hF;exact pn ⟨e', a', hF.symm, rfl⟩
    rintro _ _ ⟨_, ts6, at6, _, h1, hp6, ⟨rfl, rfl⟩, rfl⟩;rw [h1] at hF;dsimp only [R.bind] at hF;have hl6 : 1 + ts6.length ≤ ts5.length := (zP (s := sClose) (ts := ts5)).2 _ _ h1;clear h1;refine vr 4 ?_;refine Lc 0 ag88 .h3 ?_;refine Sg 4 ag88 .h5 ?_
    exact zo [_] ⟨⟨b1, _, _, _, rfl, .h5, .inr ⟨rfl, rfl⟩⟩, trivial⟩ _ (.cons .here (Pick.nilE (.nil _))) ⟨_, ts6, at6, _, hF.symm, hp6, ⟨⟨6, w, s, none, 0, 0, none, 0, 0⟩, pack [], rfl, rfl, fun ns _ => condHolds (s := s) hw8 (by unfold maxLen; omega)⟩, by show [rd b A c ws at6 d (p + 1), pack []] = [rd b A c ws at6 d (p + condW (.mk 6 w s [] [])), pack []]; rw [yw]; rfl⟩
   rw [if_neg (by rw [hk]; decide)] at hF;refine vr 8 ?_;refine Cp cl140 rfl .k0 (fun m1 h1 he => hsum m1 (hm.trans h1) at_ d (p + 1) ts hp hd8 (by omega) (by omega)) ?_ ?_
   ·rintro _ _ ⟨e', a', h1, rfl⟩;rw [h1] at hF;exact pn ⟨e', a', hF.symm, rfl⟩
   rintro _ _ ⟨a, ts1, at1, _, h1, hp1, ⟨q, ea, rfl, rfl, ha⟩, rfl⟩;rw [h1] at hF;dsimp only [R.bind] at hF;have hl1 := (hse d ts (by omega)).2 _ _ h1;clear h1;have hap := uZ a;refine Al 0 zl85 fun b2 => ?_;refine Sg 5 ag85 .here ?_;refine Bs 5 sl38 fun b3 => ?_
   refine zZ (α := Nat) (fun i => [(0, ptr b), (2, ptr b1), (6, ptr b2), (97, .slice (some ⟨b3, 0, none⟩) 3 3), (98, .int .i64 3), (99, .int .i64 (i : Nat))]) (fun i => [cel b3 [strV sLt, strV sLe, strV sEq] 9, cel b2 q.v 85, rd b A c ws at1 d (p + 1 + numW a), ea, cel b1 [.int .i8 0, .int .i8 0, .string (bs []), .slice none 0 0, .slice none 0 0] 88]) (fun i => i ≤ lessSigns.length ∧ ∀ (j : Nat) (hj : j < lessSigns.length), j < i → isW lessSigns[j].1 ts1 = false) (fun i => lessSigns.length - i) 0 ⟨rfl, rfl, rfl, rfl, rfl, rfl, trivial⟩ (Pick.refl _) ⟨Nat.zero_le _, fun _ _ h => by cases h⟩ ?_
   rintro i ⟨hi, hno⟩;have hwl : lessSigns.length = 3 := rfl;by_cases hli : i < lessSigns.length
   ·have hcx : ([strV sLt, strV sLe, strV sEq] : List Value)[i]? = some (strV lessSigns[i].1) := YW hli;have hfa := fun h => uo (ts := ts1) hli h hno;have hw2 := YV hli;have hai := ZM hli
    have hnext : isW lessSigns[i].1 ts1 = false → ∀ (j : Nat) (hj : j < lessSigns.length), j < i + 1 → isW lessSigns[j].1 ts1 = false := fun h j hj h2 => by
     by_cases hji : j < i
     ·exact hno j hj hji
     ·obtain rfl : j = i := by omega
      exact h
    generalize lessSigns[i] = sg at hcx hfa hw2 hai hnext;refine tr 2 ?_;refine cto 11 ?_;refine pe 0 (zm ez38 rfl rfl rfl (by omega)) ?_;refine lr 8 (qn sg9 rfl .here hcx) ?_;refine C1 cl77 rfl .h2 (fun m1 h1 he => take56 (s := sg.1) (hw.mono (hm.trans h1)) hp1 hai.1 hai.2) ?_;rintro _ _ (⟨hk1, hp2, rfl, rfl⟩ | ⟨hk1, rfl, rfl⟩)
    rotate_left
    ·refine vr 7 ?_;refine Pa 2 ?_;exact QR (i + 1) (.cons .h1 (.cons .h1 (.cons .here .pp))) ⟨hli, hnext hk1⟩ (by omega)
    have hl2 := zh hk1;rw [hfa hk1] at hF;dsimp only at hF;refine vr 6 ?_;refine Cp cl140 rfl .k0 (fun m1 h1 he => hsum m1 (hm.trans h1) (at1 + 1) d (p + 1 + numW a) ts1.tail hp2 hd8 (by omega) (by omega)) ?_ ?_
    ·rintro _ _ ⟨e', a', h1, rfl⟩;rw [h1] at hF;refine zp ?_;refine ze ?_;exact pn ⟨e', a', hF.symm, rfl⟩
    rintro _ _ ⟨y, ts3, at3, _, h1, hp3, ⟨r, ey, rfl, rfl, hy⟩, rfl⟩;rw [h1] at hF;dsimp only [R.bind] at hF;clear h1;refine Al 0 zl85 fun b4 => ?_;refine Sg 5 ag85 .here ?_;refine pe 0 ((yK us3 ik82 rfl (w8 (by omega) (by omega)))) ?_;skip;refine pe 0 ((zy rfl rfl (w8 (by omega) (by omega)))) ?_;rw [show ((0 : Int) + (i : Nat)) = sg.2 by omega];refine Lc 0 ag85 .h4 ?_
    refine Lc 0 ag85 .here ?_;refine Bs 0 sl83 fun b5 => ?_;refine pe 0 (zT zl88 pl88 rfl rfl) ?_;refine Sg 5 ag88 .h7 ?_;refine zI ?_;refine zH ?_;refine zL ?_
    exact zo [_] ⟨⟨b1, _, _, _, rfl, .h7, .inr ⟨rfl, rfl⟩⟩, trivial⟩ _ (.cons .h2 (Pick.pack3 (.cons .here (.cons .h4 .p1)))) ⟨_, ts3, at3, _, hF.symm, hp3, ⟨⟨sg.2, 0, [], some ⟨b5, 0, none⟩, 2, 2, none, 0, 0⟩, pack [cel b5 (q.v ++ r.v) 85, ea, ey], rfl, rfl, fun ns h => condLess (op := sg.2) ⟨by omega, by omega⟩ (h.1 _ (.head _)) (ha ns (h.1 _ (.tail _ (.head _)))) (hy ns (h.1 _ (.tail _ (.tail _ (.head _)))))⟩, by show [rd b A c ws at3 d (p + 1 + numW a + numW y), pack [cel b5 (q.v ++ r.v) 85, ea, ey]] = [rd b A c ws at3 d (p + condW (.mk sg.2 0 [] [a, y] [])), pack [cel b5 (q.v ++ r.v) 85, ea, ey]]; rw [yw]; simp only [List.map_nil, List.map_cons, List.sum_nil, List.sum_cons, Nat.add_zero, Nat.add_assoc]⟩
   rw [un (signs := lessSigns) (ts := ts1) fun j hj => hno j hj (by omega)] at hF;dsimp only at hF;refine tr 2 ?_;refine cfo 6 ?_;refine zG ?_;refine zF ?_;refine qt 4 ?_;refine Cp cl51 rfl .k2 (fun m1 h1 he => bad19 120 (hw.mono (hm.trans h1)) hp1) ?_ ?_
   ·rintro _ _ rfl;exact pn ⟨120, _, hF.symm, rfl⟩
   ·rintro _ _ h;exact h.elim
end
section
open Wd Tp Kd
variable {m : Mp} {b c at_ d p : Nat} {A : Option Addr} {ws ts : List Wrd}
theorem Zm : SignsOk andSigns := ⟨by decide, fun s hs => by
 simp only [andSigns, List.mem_cons, List.not_mem_nil, or_false] at hs
 rcases hs with rfl <;> exact ⟨asc _ rfl, by decide, by decide, by decide⟩⟩
theorem Z3 : SignsOk orSigns := ⟨by decide, fun s hs => by
 simp only [orSigns, List.mem_cons, List.not_mem_nil, or_false] at hs
 rcases hs with rfl <;> exact ⟨asc _ rfl, by decide, by decide, by decide⟩⟩
theorem both153 {cond : Nat → List Wrd → R CondT} {k : Nat} (hT : Tabs m) (hw : WsR m A ws) (hcap : ws.length ≤ c) (hp : Pos ws at_ ts) (hd8 : d ≤ 8) (hb : p + ts.length ≤ 4611686018427000000) (hk0 : ts.length < k + 1) (hce : ∀ d ts, ts.length < k → Tp.Ends (cond d ts) condW ts.length) (hcond : CnC m b A c ws cond k) :
  RdC 160 [ptr b] m b A c ws at_ d p (pBoth cond (k + 1) d ts) condW condV := by
 refine z6 [.cell 2 88] Tryz.func160 rfl rfl rfl ?_;refine tr 2 ?_;refine Al 5 zl88 fun b1 => ?_;refine Bs 0 sl38 fun b2 => ?_;refine Bs 2 sl217 fun b3 => ?_
 refine zE (yZ cl159 rfl .k3 (fun m' hm he => row152 (k := k + 1) (n := k + 1) (signs := andSigns) cl175 (hw.mono hm) ⟨Rd.blk (he _ (.tail _ (.head _))), Rd.blk (he _ (.head _))⟩ Zm
  (fun ts h => vW (ye (k + 1)) hce (k + 1) d ts h h)
  (fun m2 h2 at_ p ts hp hb hk => test174 (hT.mono (hm.trans h2)) (hw.mono (hm.trans h2)) hcap (ye (k + 1)) (sum127 (k + 1) (hw.mono (hm.trans h2))) hce (hcond.mono (hm.trans h2)) (k + 1) m2 (Le.refl _) at_ d p ts hp hd8 hb hk hk) hp hb hk0 hk0) rfl ?_ ?_) rfl
 ·rintro _ _ ⟨e', a', h1, rfl⟩;exact pn ⟨e', a', h1, rfl⟩
 rintro _ _ ⟨x, ts1, at1, _, h1, hp1, ⟨q, e, rfl, rfl, hx⟩, rfl⟩;refine Sg 3 ag88 .h4 ?_;exact zo [_] ⟨⟨b1, _, _, _, rfl, .h4, .inr ⟨rfl, rfl⟩⟩, trivial⟩ _ .pp ⟨x, ts1, at1, _, h1, hp1, ⟨q, e, rfl, rfl, hx⟩, rfl⟩
theorem cond130 (hcap : ws.length ≤ c) : ∀ (n : Nat) {m : Mp}, Tabs m → WsR m A ws → CnC m b A c ws (pCond n) n
 | 0, _, _, _ => fun m' hm at_ d p ts hp hd8 hb hk => by cases hk
 | n + 1, m, hT, hw => fun m' hm at_ d p ts hp hd8 hb hk => by
   refine z6 [.cell 2 88] Tryz.func143 rfl rfl rfl ?_;refine tr 2 ?_;refine Al 5 zl88 fun b1 => ?_;refine Bs 0 sl38 fun b2 => ?_;refine Bs 2 sl217 fun b3 => ?_
   refine zE (yZ cl159 rfl .k3 (fun m1 h1 he => row152 (k := n + 1) (n := n + 1) (signs := orSigns) cl160 (hw.mono (hm.trans h1)) ⟨Rd.blk (he _ (.tail _ (.head _))), Rd.blk (he _ (.head _))⟩ Z3
    (fun ts h => wX (k := n + 1) (fun ts h => vW (ye (n + 1)) (wh n) (n + 1) d ts h h) vf (n + 1) ts h h)
    (fun m2 h2 at_ p ts hp hb hk => both153 (k := n) (hT.mono (hm.trans (h1.trans h2))) (hw.mono (hm.trans (h1.trans h2))) hcap hp hd8 hb hk (wh n) (cond130 hcap n (hT.mono (hm.trans (h1.trans h2))) (hw.mono (hm.trans (h1.trans h2))))) hp hb hk hk) rfl ?_ ?_) rfl
   ·rintro _ _ ⟨e', a', h1, rfl⟩;exact pn ⟨e', a', h1, rfl⟩
   rintro _ _ ⟨x, ts1, at1, _, h1, hp1, ⟨q, e, rfl, rfl, hx⟩, rfl⟩;refine Sg 3 ag88 .h4 ?_;exact zo [_] ⟨⟨b1, _, _, _, rfl, .h4, .inr ⟨rfl, rfl⟩⟩, trivial⟩ _ .pp ⟨x, ts1, at1, _, h1, hp1, ⟨q, e, rfl, rfl, hx⟩, rfl⟩
end
section
open Wd Tp Kd
structure EffC where
 op : Int
 who : Int
 n : NumC
 name : List UInt8
 c : CondC
 T : Option Addr
 t : Nat
 tc : Nat
 E : Option Addr
 e : Nat
 ec : Nat
abbrev EffC.v (q : EffC) : List Value := [.int .i8 q.op, .int .i8 q.who, .int .i8 q.n.op, .int .i64 q.n.n, .int .i8 q.n.who, .slice q.n.K q.n.k q.n.kc, .string (bs q.name), .int .i8 q.c.op, .int .i8 q.c.who, .string (bs q.c.name), .slice q.c.N q.c.n q.c.nc, .slice q.c.K q.c.k q.c.kc, .slice q.T q.t q.tc, .slice q.E q.e q.ec]
abbrev effV : EffT → Value → List Ent → Prop := fun x v Es => ∃ (q : EffC) (e : Ent), v = .agg q.v.toArray ∧ Es = [e] ∧ ∀ ns, e.inv ns → EffR ns q.v x
abbrev effsV : List EffT → Value → List Ent → Prop := fun l v Es => ∃ (K : Option Addr) (kc : Nat) (e : Ent), v = .slice K l.length kc ∧ Es = [e] ∧ ∀ ns, e.inv ns → EffsR ns K l.length l
theorem cond0_R (m : Mp) : CondR m [.int .i8 0, .int .i8 0, .string (bs []), .slice none 0 0, .slice none 0 0] cond0 :=
 .mk (vs := []) (us := []) ⟨by decide, by decide⟩ ⟨by decide, by decide⟩ (by decide) rfl (by decide) (Rd.nil _ _) rfl (fun i h => by cases h) rfl (by decide) (Rd.nil _ _) rfl fun i h => by cases h
theorem effPlain {m : Mp} {op who : Int} {q : NumC} {x : NumT} {name : List UInt8} (ho : In8 op) (hw : In8 who) (hx : NumR m q.v x) (hn : name.length ≤ maxLen) :
  EffR m [.int .i8 op, .int .i8 who, .int .i8 q.op, .int .i64 q.n, .int .i8 q.who, .slice q.K q.k q.kc, .string (bs name), .int .i8 0, .int .i8 0, .string (bs []), .slice none 0 0, .slice none 0 0, .slice none 0 0, .slice none 0 0] (eff0 op who x name) :=
 .mk (ns := q.v) (cs := [.int .i8 0, .int .i8 0, .string (bs []), .slice none 0 0, .slice none 0 0]) (vs := []) (us := []) ho hw hx hn (cond0_R m) rfl (by decide) (Rd.nil _ _) rfl (fun i h => by cases h) rfl (by decide) (Rd.nil _ _) rfl fun i h => by cases h
theorem effIf {m : Mp} {q : CondC} {x : CondT} {t e : List EffT} {T E : Option Addr} {tc ec : Nat} (hx : CondR m q.v x) (ht : EffsR m T t.length t) (he : EffsR m E e.length e) :
  EffR m [.int .i8 8, .int .i8 0, .int .i8 0, .int .i64 0, .int .i8 0, .slice none 0 0, .string (bs []), .int .i8 q.op, .int .i8 q.who, .string (bs q.name), .slice q.N q.n q.nc, .slice q.K q.k q.kc, .slice T t.length tc, .slice E e.length ec] (.mk 8 0 num0 [] x t e) := by
 obtain ⟨-, h2, vs, h3, h4, h5⟩ := ht;obtain ⟨-, g2, us, g3, g4, g5⟩ := he;exact .mk (ns := [.int .i8 0, .int .i64 0, .int .i8 0, .slice none 0 0]) (cs := q.v) (vs := vs) (us := us) ⟨by decide, by decide⟩ ⟨by decide, by decide⟩ (numPlain (op := 0) ⟨by decide, by decide⟩) (by decide) hx rfl h2 h3 h4 h5 rfl g2 g3 g4 g5
def BlC (m : Mp) (b : Nat) (A : Option Addr) (c : Nat) (ws : List Wrd) (blk : Nat → List Wrd → R (List EffT)) (k : Nat) : Prop :=
 ∀ m', Le m m' → ∀ (at_ d p : Nat) (ts : List Wrd), Pos ws at_ ts → d ≤ 8 → p + ts.length ≤ 4611686018427000000 → ts.length < k → RdC 82 [ptr b] m' b A c ws at_ d p (blk d ts) effsW effsV
variable {m : Mp} {b c at_ d p : Nat} {A : Option Addr} {ws ts : List Wrd}
theorem BlC.mono {m m' : Mp} {blk : Nat → List Wrd → R (List EffT)} {k : Nat} (h : BlC m b A c ws blk k) (hl : Le m m') : BlC m' b A c ws blk k := fun m2 h2 => h m2 (hl.trans h2)
theorem effect99 {blk : Nat → List Wrd → R (List EffT)} {n k : Nat} (hT : Tabs m) (hw : WsR m A ws) (hcap : ws.length ≤ c) (hp : Pos ws at_ ts) (hd8 : d ≤ 8) (hb : p + ts.length ≤ 4611686018427000000) (hk0 : ts.length < k + 1) (hkn : k < n)
  (hbe : ∀ d ts, ts.length < k → Tp.Ends (blk d ts) effsW ts.length) (hblk : BlC m b A c ws blk k) : RdC 114 [ptr b] m b A c ws at_ d p (pEff blk n d ts) effW effV := by
 generalize hF : pEff blk n d ts = F;unfold pEff at hF;have hsm := hp.small;have hlt := hp.lt;have hlen := hp.len;refine z6 [.cell 2 90] Tryz.func114 rfl rfl rfl ?_;refine tr 2 ?_;refine Al 7 zl90 fun b1 => ?_;refine Lb 0 sg3 .h1 ?_;refine Pa 2 ?_;refine Sr 7 co3 .h1 .h3 ?_;refine C1 cl77 rfl .h1 (fun m' hm he => take56 (s := sHarm) (hw.mono hm) hp (asc _ rfl) (by decide)) ?_
 rintro _ _ (⟨hk, hp1, rfl, rfl⟩ | ⟨hk, rfl, rfl⟩)
 ·have hl1 := zh hk;rw [if_pos hk] at hF;refine vr 7 ?_;refine Cp cl139 rfl .k0 (fun m' hm he => who126 (hw.mono hm) hp1) ?_ ?_
  ·rintro _ _ ⟨e', a', h1, rfl⟩;rw [h1] at hF;exact pn ⟨e', a', hF.symm, rfl⟩
  rintro _ _ ⟨w, ts2, at2, _, h1, hp2, ⟨rfl, rfl⟩, rfl⟩;rw [h1] at hF;dsimp only [R.bind] at hF;have hl2 : 1 + ts2.length ≤ ts.tail.length := (uR (ts := ts.tail)).2 _ _ h1;have hw8 := Xd h1;clear h1;refine vr 1 ?_;refine Sr 1 co82 .h1 .here ?_;refine Sr 4 co82 .h1 .h1 ?_
  refine Cp cl140 rfl .k0 (fun m' hm he => sum127 n (hw.mono hm) m' (Le.refl _) at2 d (p + 1) ts2 hp2 hd8 (by omega) (by omega)) ?_ ?_
  ·rintro _ _ ⟨e', a', h1, rfl⟩;rw [h1] at hF;exact pn ⟨e', a', hF.symm, rfl⟩
  rintro _ _ ⟨x, ts3, at3, _, h1, hp3, ⟨q, e, rfl, rfl, hx⟩, rfl⟩;rw [h1] at hF;dsimp only [R.bind] at hF;have hl3 := (ye n d ts2 (by omega)).2 _ _ h1;clear h1;unfold pSemi at hF;refine vr 1 ?_;refine zE (xU ag85 rfl rfl rfl .h2 (.there (.there (.cons (.cons (.cons (.cons .nil)))))) rfl ?_) rfl;refine vr 6 ?_;refine Bs 0 sl38 fun b2 => ?_
  refine Cp cl79 rfl .k1 (fun m' hm he => must58 (s := sSemi) (hw.mono hm) (Rd.blk (he _ (.head _))) (asc _ rfl) (by decide) hp3) ?_ ?_
  ·rintro _ _ ⟨e', a', h1, rfl⟩;rw [h1] at hF;exact pn ⟨e', a', hF.symm, rfl⟩
  rintro _ _ ⟨_, tsz, atz, _, h1, hpz, ⟨rfl, rfl⟩, rfl⟩;rw [h1] at hF;dsimp only [R.bind] at hF;have hlz : 1 + tsz.length ≤ ts3.length := (zP (s := sSemi) (ts := ts3)).2 _ _ h1;clear h1;refine vr 4 ?_;refine Lc 0 ag90 .h3 ?_;refine Sg 3 ag90 .h3 ?_
  exact zo [_] ⟨⟨b1, _, _, _, rfl, .h3, .inr ⟨rfl, rfl⟩⟩, trivial⟩ _ (.cons .here .p1) ⟨_, tsz, atz, _, hF.symm, hpz, ⟨⟨0, w, q, [], ⟨0, 0, [], none, 0, 0, none, 0, 0⟩, none, 0, 0, none, 0, 0⟩, e, rfl, rfl, fun ns h => effPlain (op := 0) (who := w) (name := []) ⟨by decide, by decide⟩ hw8 (hx ns h) (by decide)⟩, by show [rd b A c ws atz d (p + 1 + numW x), e] = [rd b A c ws atz d (p + effW (eff0 0 w x [])), e]; rw [wy _ _ _ _ (by decide), if_pos (by decide), Nat.add_assoc]⟩
 rw [if_neg (by rw [hk]; decide)] at hF;refine vr 7 ?_;refine C1 cl77 rfl .here (fun m' hm he => take56 (s := sMend) (hw.mono hm) hp (asc _ rfl) (by decide)) ?_;rintro _ _ (⟨hk, hp1, rfl, rfl⟩ | ⟨hk, rfl, rfl⟩)
 ·have hl1 := zh hk;rw [if_pos hk] at hF;refine vr 7 ?_;refine Cp cl139 rfl .k0 (fun m' hm he => who126 (hw.mono hm) hp1) ?_ ?_
  ·rintro _ _ ⟨e', a', h1, rfl⟩;rw [h1] at hF;exact pn ⟨e', a', hF.symm, rfl⟩
  rintro _ _ ⟨w, ts2, at2, _, h1, hp2, ⟨rfl, rfl⟩, rfl⟩;rw [h1] at hF;dsimp only [R.bind] at hF;have hl2 : 1 + ts2.length ≤ ts.tail.length := (uR (ts := ts.tail)).2 _ _ h1;have hw8 := Xd h1;clear h1;refine vr 1 ?_;refine Sr 1 co82 .h1 .here ?_;refine Sr 4 co82 .h1 .h1 ?_
  refine Cp cl140 rfl .k0 (fun m' hm he => sum127 n (hw.mono hm) m' (Le.refl _) at2 d (p + 1) ts2 hp2 hd8 (by omega) (by omega)) ?_ ?_
  ·rintro _ _ ⟨e', a', h1, rfl⟩;rw [h1] at hF;exact pn ⟨e', a', hF.symm, rfl⟩
  rintro _ _ ⟨x, ts3, at3, _, h1, hp3, ⟨q, e, rfl, rfl, hx⟩, rfl⟩;rw [h1] at hF;dsimp only [R.bind] at hF;have hl3 := (ye n d ts2 (by omega)).2 _ _ h1;clear h1;unfold pSemi at hF;refine vr 1 ?_;refine zE (xU ag85 rfl rfl rfl .h2 (.there (.there (.cons (.cons (.cons (.cons .nil)))))) rfl ?_) rfl;refine vr 6 ?_;refine Bs 0 sl38 fun b2 => ?_
  refine Cp cl79 rfl .k1 (fun m' hm he => must58 (s := sSemi) (hw.mono hm) (Rd.blk (he _ (.head _))) (asc _ rfl) (by decide) hp3) ?_ ?_
  ·rintro _ _ ⟨e', a', h1, rfl⟩;rw [h1] at hF;exact pn ⟨e', a', hF.symm, rfl⟩
  rintro _ _ ⟨_, tsz, atz, _, h1, hpz, ⟨rfl, rfl⟩, rfl⟩;rw [h1] at hF;dsimp only [R.bind] at hF;have hlz : 1 + tsz.length ≤ ts3.length := (zP (s := sSemi) (ts := ts3)).2 _ _ h1;clear h1;refine vr 4 ?_;refine Lc 0 ag90 .h3 ?_;refine Sg 3 ag90 .h3 ?_
  exact zo [_] ⟨⟨b1, _, _, _, rfl, .h3, .inr ⟨rfl, rfl⟩⟩, trivial⟩ _ (.cons .here .p1) ⟨_, tsz, atz, _, hF.symm, hpz, ⟨⟨1, w, q, [], ⟨0, 0, [], none, 0, 0, none, 0, 0⟩, none, 0, 0, none, 0, 0⟩, e, rfl, rfl, fun ns h => effPlain (op := 1) (who := w) (name := []) ⟨by decide, by decide⟩ hw8 (hx ns h) (by decide)⟩, by show [rd b A c ws atz d (p + 1 + numW x), e] = [rd b A c ws atz d (p + effW (eff0 1 w x [])), e]; rw [wy _ _ _ _ (by decide), if_pos (by decide), Nat.add_assoc]⟩
 rw [if_neg (by rw [hk]; decide)] at hF;refine vr 7 ?_;refine C1 cl77 rfl .here (fun m' hm he => take56 (s := sDraw) (hw.mono hm) hp (asc _ rfl) (by decide)) ?_;rintro _ _ (⟨hk, hp1, rfl, rfl⟩ | ⟨hk, rfl, rfl⟩)
 ·have hl1 := zh hk;rw [if_pos hk] at hF;refine vr 7 ?_;refine Cp cl141 rfl .k0 (fun m' hm he => side128 (hw.mono hm) hp1) ?_ ?_
  ·rintro _ _ ⟨e', a', h1, rfl⟩;rw [h1] at hF;exact pn ⟨e', a', hF.symm, rfl⟩
  rintro _ _ ⟨w, ts2, at2, _, h1, hp2, ⟨rfl, rfl⟩, rfl⟩;rw [h1] at hF;dsimp only [R.bind] at hF;have hl2 : 1 + ts2.length ≤ ts.tail.length := (yX (ts := ts.tail)).2 _ _ h1;have hw8 := vX h1;clear h1;refine vr 1 ?_;refine Sr 1 co82 .h1 .here ?_;refine Sr 4 co82 .h1 .h1 ?_
  refine Cp cl140 rfl .k0 (fun m' hm he => sum127 n (hw.mono hm) m' (Le.refl _) at2 d (p + 1) ts2 hp2 hd8 (by omega) (by omega)) ?_ ?_
  ·rintro _ _ ⟨e', a', h1, rfl⟩;rw [h1] at hF;exact pn ⟨e', a', hF.symm, rfl⟩
  rintro _ _ ⟨x, ts3, at3, _, h1, hp3, ⟨q, e, rfl, rfl, hx⟩, rfl⟩;rw [h1] at hF;dsimp only [R.bind] at hF;have hl3 := (ye n d ts2 (by omega)).2 _ _ h1;clear h1;unfold pSemi at hF;refine vr 1 ?_;refine zE (xU ag85 rfl rfl rfl .h2 (.there (.there (.cons (.cons (.cons (.cons .nil)))))) rfl ?_) rfl;refine vr 6 ?_;refine Bs 0 sl38 fun b2 => ?_
  refine Cp cl79 rfl .k1 (fun m' hm he => must58 (s := sSemi) (hw.mono hm) (Rd.blk (he _ (.head _))) (asc _ rfl) (by decide) hp3) ?_ ?_
  ·rintro _ _ ⟨e', a', h1, rfl⟩;rw [h1] at hF;exact pn ⟨e', a', hF.symm, rfl⟩
  rintro _ _ ⟨_, tsz, atz, _, h1, hpz, ⟨rfl, rfl⟩, rfl⟩;rw [h1] at hF;dsimp only [R.bind] at hF;have hlz : 1 + tsz.length ≤ ts3.length := (zP (s := sSemi) (ts := ts3)).2 _ _ h1;clear h1;refine vr 4 ?_;refine Lc 0 ag90 .h3 ?_;refine Sg 3 ag90 .h3 ?_
  exact zo [_] ⟨⟨b1, _, _, _, rfl, .h3, .inr ⟨rfl, rfl⟩⟩, trivial⟩ _ (.cons .here .p1) ⟨_, tsz, atz, _, hF.symm, hpz, ⟨⟨2, w, q, [], ⟨0, 0, [], none, 0, 0, none, 0, 0⟩, none, 0, 0, none, 0, 0⟩, e, rfl, rfl, fun ns h => effPlain (op := 2) (who := w) (name := []) ⟨by decide, by decide⟩ hw8 (hx ns h) (by decide)⟩, by show [rd b A c ws atz d (p + 1 + numW x), e] = [rd b A c ws atz d (p + effW (eff0 2 w x [])), e]; rw [wy _ _ _ _ (by decide), if_pos (by decide), Nat.add_assoc]⟩
 rw [if_neg (by rw [hk]; decide)] at hF;refine vr 7 ?_;refine C1 cl77 rfl .here (fun m' hm he => take56 (s := sGain) (hw.mono hm) hp (asc _ rfl) (by decide)) ?_;rintro _ _ (⟨hk, hp1, rfl, rfl⟩ | ⟨hk, rfl, rfl⟩)
 ·have hl1 := zh hk;rw [if_pos hk] at hF;refine vr 6 ?_;refine Cp cl140 rfl .k0 (fun m' hm he => sum127 n (hw.mono hm) m' (Le.refl _) (at_ + 1) d (p + 1) ts.tail hp1 hd8 (by omega) (by omega)) ?_ ?_
  ·rintro _ _ ⟨e', a', h1, rfl⟩;rw [h1] at hF;exact pn ⟨e', a', hF.symm, rfl⟩
  rintro _ _ ⟨x, ts3, at3, _, h1, hp3, ⟨q, e, rfl, rfl, hx⟩, rfl⟩;rw [h1] at hF;dsimp only [R.bind] at hF;have hl3 := (ye n d ts.tail (by omega)).2 _ _ h1;clear h1;unfold pSemi at hF;refine vr 1 ?_;refine Sr 1 co82 .h2 .here ?_;refine zE (xU ag85 rfl rfl rfl .h2 (.there (.there (.cons (.cons (.cons (.cons .nil)))))) rfl ?_) rfl;refine vr 6 ?_;refine Bs 0 sl38 fun b2 => ?_
  refine Cp cl79 rfl .k1 (fun m' hm he => must58 (s := sSemi) (hw.mono hm) (Rd.blk (he _ (.head _))) (asc _ rfl) (by decide) hp3) ?_ ?_
  ·rintro _ _ ⟨e', a', h1, rfl⟩;rw [h1] at hF;exact pn ⟨e', a', hF.symm, rfl⟩
  rintro _ _ ⟨_, tsz, atz, _, h1, hpz, ⟨rfl, rfl⟩, rfl⟩;rw [h1] at hF;dsimp only [R.bind] at hF;have hlz : 1 + tsz.length ≤ ts3.length := (zP (s := sSemi) (ts := ts3)).2 _ _ h1;clear h1;refine vr 4 ?_;refine Lc 0 ag90 .h3 ?_;refine Sg 3 ag90 .h3 ?_
  exact zo [_] ⟨⟨b1, _, _, _, rfl, .h3, .inr ⟨rfl, rfl⟩⟩, trivial⟩ _ (.cons .here .p1) ⟨_, tsz, atz, _, hF.symm, hpz, ⟨⟨3, 0, q, [], ⟨0, 0, [], none, 0, 0, none, 0, 0⟩, none, 0, 0, none, 0, 0⟩, e, rfl, rfl, fun ns h => effPlain (op := 3) (who := 0) (name := []) ⟨by decide, by decide⟩ ⟨by decide, by decide⟩ (hx ns h) (by decide)⟩, by show [rd b A c ws atz d (p + 1 + numW x), e] = [rd b A c ws atz d (p + effW (eff0 3 0 x [])), e]; rw [wy _ _ _ _ (by decide), if_pos (by decide), Nat.add_assoc]⟩
 rw [if_neg (by rw [hk]; decide)] at hF;refine vr 7 ?_;refine C1 cl77 rfl .here (fun m' hm he => take56 (s := sLook) (hw.mono hm) hp (asc _ rfl) (by decide)) ?_;rintro _ _ (⟨hk, hp1, rfl, rfl⟩ | ⟨hk, rfl, rfl⟩)
 ·have hl1 := zh hk;rw [if_pos hk] at hF;refine vr 6 ?_;refine Cp cl140 rfl .k0 (fun m' hm he => sum127 n (hw.mono hm) m' (Le.refl _) (at_ + 1) d (p + 1) ts.tail hp1 hd8 (by omega) (by omega)) ?_ ?_
  ·rintro _ _ ⟨e', a', h1, rfl⟩;rw [h1] at hF;exact pn ⟨e', a', hF.symm, rfl⟩
  rintro _ _ ⟨x, ts3, at3, _, h1, hp3, ⟨q, e, rfl, rfl, hx⟩, rfl⟩;rw [h1] at hF;dsimp only [R.bind] at hF;have hl3 := (ye n d ts.tail (by omega)).2 _ _ h1;clear h1;unfold pSemi at hF;refine vr 1 ?_;refine Sr 1 co82 .h2 .here ?_;refine zE (xU ag85 rfl rfl rfl .h2 (.there (.there (.cons (.cons (.cons (.cons .nil)))))) rfl ?_) rfl;refine vr 6 ?_;refine Bs 0 sl38 fun b2 => ?_
  refine Cp cl79 rfl .k1 (fun m' hm he => must58 (s := sSemi) (hw.mono hm) (Rd.blk (he _ (.head _))) (asc _ rfl) (by decide) hp3) ?_ ?_
  ·rintro _ _ ⟨e', a', h1, rfl⟩;rw [h1] at hF;exact pn ⟨e', a', hF.symm, rfl⟩
  rintro _ _ ⟨_, tsz, atz, _, h1, hpz, ⟨rfl, rfl⟩, rfl⟩;rw [h1] at hF;dsimp only [R.bind] at hF;have hlz : 1 + tsz.length ≤ ts3.length := (zP (s := sSemi) (ts := ts3)).2 _ _ h1;clear h1;refine vr 4 ?_;refine Lc 0 ag90 .h3 ?_;refine Sg 3 ag90 .h3 ?_
  exact zo [_] ⟨⟨b1, _, _, _, rfl, .h3, .inr ⟨rfl, rfl⟩⟩, trivial⟩ _ (.cons .here .p1) ⟨_, tsz, atz, _, hF.symm, hpz, ⟨⟨5, 0, q, [], ⟨0, 0, [], none, 0, 0, none, 0, 0⟩, none, 0, 0, none, 0, 0⟩, e, rfl, rfl, fun ns h => effPlain (op := 5) (who := 0) (name := []) ⟨by decide, by decide⟩ ⟨by decide, by decide⟩ (hx ns h) (by decide)⟩, by show [rd b A c ws atz d (p + 1 + numW x), e] = [rd b A c ws atz d (p + effW (eff0 5 0 x [])), e]; rw [wy _ _ _ _ (by decide), if_pos (by decide), Nat.add_assoc]⟩
 rw [if_neg (by rw [hk]; decide)] at hF;refine vr 7 ?_;refine C1 cl77 rfl .here (fun m' hm he => take56 (s := sDrop) (hw.mono hm) hp (asc _ rfl) (by decide)) ?_;rintro _ _ (⟨hk, hp1, rfl, rfl⟩ | ⟨hk, rfl, rfl⟩)
 ·have hl1 := zh hk;rw [if_pos hk] at hF;refine vr 6 ?_;refine Cp cl141 rfl .k0 (fun m' hm he => side128 (hw.mono hm) hp1) ?_ ?_
  ·rintro _ _ ⟨e', a', h1, rfl⟩;rw [h1] at hF;exact pn ⟨e', a', hF.symm, rfl⟩
  rintro _ _ ⟨w, ts2, at2, _, h1, hp2, ⟨rfl, rfl⟩, rfl⟩;rw [h1] at hF;dsimp only [R.bind] at hF;have hl2 : 1 + ts2.length ≤ ts.tail.length := (yX (ts := ts.tail)).2 _ _ h1;have hw8 := vX h1;clear h1;unfold pSemi at hF;refine vr 1 ?_;refine Sr 1 co82 .h1 .here ?_;refine Sr 6 co82 .h1 .h1 ?_;refine Bs 0 sl38 fun b2 => ?_
  refine Cp cl79 rfl .k1 (fun m' hm he => must58 (s := sSemi) (hw.mono hm) (Rd.blk (he _ (.head _))) (asc _ rfl) (by decide) hp2) ?_ ?_
  ·rintro _ _ ⟨e', a', h1, rfl⟩;rw [h1] at hF;exact pn ⟨e', a', hF.symm, rfl⟩
  rintro _ _ ⟨_, tsz, atz, _, h1, hpz, ⟨rfl, rfl⟩, rfl⟩;rw [h1] at hF;dsimp only [R.bind] at hF;have hlz : 1 + tsz.length ≤ ts2.length := (zP (s := sSemi) (ts := ts2)).2 _ _ h1;clear h1;refine vr 4 ?_;refine Lc 0 ag90 .h2 ?_;refine Sg 3 ag90 .h2 ?_
  exact zo [_] ⟨⟨b1, _, _, _, rfl, .h2, .inr ⟨rfl, rfl⟩⟩, trivial⟩ _ (.cons .here (Pick.nilE (.nil _))) ⟨_, tsz, atz, _, hF.symm, hpz, ⟨⟨4, w, ⟨0, 0, 0, none, 0, 0⟩, [], ⟨0, 0, [], none, 0, 0, none, 0, 0⟩, none, 0, 0, none, 0, 0⟩, pack [], rfl, rfl, fun ns h => effPlain (op := 4) (who := w) (name := []) (q := ⟨0, 0, 0, none, 0, 0⟩) (x := num0) ⟨by decide, by decide⟩ hw8 (numPlain (op := 0) ⟨by decide, by decide⟩) (by decide)⟩, by show [rd b A c ws atz d (p + 1), pack []] = [rd b A c ws atz d (p + effW (eff0 4 w num0 [])), pack []]; rw [wy _ _ _ _ (by decide), if_neg (by decide)]⟩
 rw [if_neg (by rw [hk]; decide)] at hF;refine vr 7 ?_;refine C1 cl77 rfl .here (fun m' hm he => take56 (s := sShow) (hw.mono hm) hp (asc _ rfl) (by decide)) ?_;rintro _ _ (⟨hk, hp1, rfl, rfl⟩ | ⟨hk, rfl, rfl⟩)
 ·have hl1 := zh hk;rw [if_pos hk] at hF;refine vr 6 ?_;refine Cp cl141 rfl .k0 (fun m' hm he => side128 (hw.mono hm) hp1) ?_ ?_
  ·rintro _ _ ⟨e', a', h1, rfl⟩;rw [h1] at hF;exact pn ⟨e', a', hF.symm, rfl⟩
  rintro _ _ ⟨w, ts2, at2, _, h1, hp2, ⟨rfl, rfl⟩, rfl⟩;rw [h1] at hF;dsimp only [R.bind] at hF;have hl2 : 1 + ts2.length ≤ ts.tail.length := (yX (ts := ts.tail)).2 _ _ h1;have hw8 := vX h1;clear h1;unfold pSemi at hF;refine vr 1 ?_;refine Sr 1 co82 .h1 .here ?_;refine Sr 6 co82 .h1 .h1 ?_;refine Bs 0 sl38 fun b2 => ?_
  refine Cp cl79 rfl .k1 (fun m' hm he => must58 (s := sSemi) (hw.mono hm) (Rd.blk (he _ (.head _))) (asc _ rfl) (by decide) hp2) ?_ ?_
  ·rintro _ _ ⟨e', a', h1, rfl⟩;rw [h1] at hF;exact pn ⟨e', a', hF.symm, rfl⟩
  rintro _ _ ⟨_, tsz, atz, _, h1, hpz, ⟨rfl, rfl⟩, rfl⟩;rw [h1] at hF;dsimp only [R.bind] at hF;have hlz : 1 + tsz.length ≤ ts2.length := (zP (s := sSemi) (ts := ts2)).2 _ _ h1;clear h1;refine vr 4 ?_;refine Lc 0 ag90 .h2 ?_;refine Sg 3 ag90 .h2 ?_
  exact zo [_] ⟨⟨b1, _, _, _, rfl, .h2, .inr ⟨rfl, rfl⟩⟩, trivial⟩ _ (.cons .here (Pick.nilE (.nil _))) ⟨_, tsz, atz, _, hF.symm, hpz, ⟨⟨6, w, ⟨0, 0, 0, none, 0, 0⟩, [], ⟨0, 0, [], none, 0, 0, none, 0, 0⟩, none, 0, 0, none, 0, 0⟩, pack [], rfl, rfl, fun ns h => effPlain (op := 6) (who := w) (name := []) (q := ⟨0, 0, 0, none, 0, 0⟩) (x := num0) ⟨by decide, by decide⟩ hw8 (numPlain (op := 0) ⟨by decide, by decide⟩) (by decide)⟩, by show [rd b A c ws atz d (p + 1), pack []] = [rd b A c ws atz d (p + effW (eff0 6 w num0 [])), pack []]; rw [wy _ _ _ _ (by decide), if_neg (by decide)]⟩
 rw [if_neg (by rw [hk]; decide)] at hF;refine vr 7 ?_;refine C1 cl77 rfl .here (fun m' hm he => take56 (s := sSummon) (hw.mono hm) hp (asc _ rfl) (by decide)) ?_;rintro _ _ (⟨hk, hp1, rfl, rfl⟩ | ⟨hk, rfl, rfl⟩)
 ·have hl1 := zh hk;rw [if_pos hk] at hF;refine vr 6 ?_;refine Cp cl76 rfl .k0 (fun m' hm he => name55 (hT.mono hm) (hw.mono hm) hp1) ?_ ?_
  ·rintro _ _ ⟨e', a', h1, rfl⟩;rw [h1] at hF;exact pn ⟨e', a', hF.symm, rfl⟩
  rintro _ _ ⟨s, ts2, at2, _, h1, hp2, ⟨rfl, rfl⟩, rfl⟩;rw [h1] at hF;dsimp only [R.bind] at hF;have hl2 : 1 + ts2.length ≤ ts.tail.length := (yg (ts := ts.tail)).2 _ _ h1;have hs5 := wb hp1 h1;clear h1;unfold pSemi at hF;refine vr 1 ?_;refine Sr 1 co82 .h1 .here ?_;refine Sr 6 co9 .h1 .h6 ?_;refine Bs 0 sl38 fun b2 => ?_
  refine Cp cl79 rfl .k1 (fun m' hm he => must58 (s := sSemi) (hw.mono hm) (Rd.blk (he _ (.head _))) (asc _ rfl) (by decide) hp2) ?_ ?_
  ·rintro _ _ ⟨e', a', h1, rfl⟩;rw [h1] at hF;exact pn ⟨e', a', hF.symm, rfl⟩
  rintro _ _ ⟨_, tsz, atz, _, h1, hpz, ⟨rfl, rfl⟩, rfl⟩;rw [h1] at hF;dsimp only [R.bind] at hF;have hlz : 1 + tsz.length ≤ ts2.length := (zP (s := sSemi) (ts := ts2)).2 _ _ h1;clear h1;refine vr 4 ?_;refine Lc 0 ag90 .h2 ?_;refine Sg 3 ag90 .h2 ?_
  exact zo [_] ⟨⟨b1, _, _, _, rfl, .h2, .inr ⟨rfl, rfl⟩⟩, trivial⟩ _ (.cons .here (Pick.nilE (.nil _))) ⟨_, tsz, atz, _, hF.symm, hpz, ⟨⟨7, 0, ⟨0, 0, 0, none, 0, 0⟩, s, ⟨0, 0, [], none, 0, 0, none, 0, 0⟩, none, 0, 0, none, 0, 0⟩, pack [], rfl, rfl, fun ns h => effPlain (op := 7) (who := 0) (q := ⟨0, 0, 0, none, 0, 0⟩) (x := num0) (name := s) ⟨by decide, by decide⟩ ⟨by decide, by decide⟩ (numPlain (op := 0) ⟨by decide, by decide⟩) (by unfold maxLen; omega)⟩, by show [rd b A c ws atz d (p + 1), pack []] = [rd b A c ws atz d (p + effW (eff0 7 0 num0 s)), pack []]; rw [wy _ _ _ _ (by decide), if_neg (by decide)]⟩
 rw [if_neg (by rw [hk]; decide)] at hF;refine vr 7 ?_;refine C1 cl50 rfl .here (fun m' hm he => is18 (s := sIf) (hw.mono hm) hp (asc _ rfl) (by decide)) ?_;rintro _ _ ⟨rfl, rfl⟩;cases hki : isW sIf ts with
 | true =>
   rw [if_pos hki] at hF;have hl1 := zh hki;have hp1 := hp.isW hki;refine vr 7 ?_;refine Cp cl142 rfl .k0 (fun m1 h1 he => in129 (hw.mono h1) hp hd8) ?_ ?_
   ·rintro _ _ ⟨h8, rfl⟩;rw [pIn, if_pos h8] at hF;exact pn ⟨121, _, hF.symm, rfl⟩
   rintro _ _ ⟨h8, rfl, rfl⟩;rw [pIn, if_neg (by omega)] at hF;dsimp only [R.bind] at hF;refine vr 7 ?_;refine Lb 0 sg3 .here ?_;refine Pa 2 ?_;refine Sr 5 co3 .here .h1 ?_;refine Cp cl143 rfl .k0 (fun m' hm he => cond130 hcap n (hT.mono hm) (hw.mono hm) m' (Le.refl _) (at_ + 1) (d + 1) (p + 1) ts.tail hp1 h8 (by omega) (by omega)) ?_ ?_
   ·rintro _ _ ⟨e', a', h1, rfl⟩;rw [h1] at hF;exact pn ⟨e', a', hF.symm, rfl⟩
   rintro _ _ ⟨x, ts2, at2, _, h1, hp2, ⟨qc, ec, rfl, rfl, hx⟩, rfl⟩;rw [h1] at hF;dsimp only [R.bind] at hF;have hl2 := (wh n (d + 1) ts.tail (by omega)).2 _ _ h1;clear h1;have hcp := vg x;refine vr 1 ?_;refine Sr 1 co82 .h2 .here ?_
   refine zE (xU ag88 rfl rfl rfl .h2 (.there (.there (.there (.there (.there (.there (.there (.cons (.cons (.cons (.cons (.cons .nil)))))))))))) rfl ?_) rfl;refine vr 5 ?_;refine Cp cl82 rfl .k0 (fun m' hm he => hblk m' hm at2 (d + 1) (p + 1 + condW x) ts2 hp2 h8 (by omega) (by omega)) ?_ ?_
   ·rintro _ _ ⟨e', a', h1, rfl⟩;rw [h1] at hF;exact pn ⟨e', a', hF.symm, rfl⟩
   rintro _ _ ⟨t, ts3, at3, _, h1, hp3, ⟨KT, ct, et, rfl, rfl, ht⟩, rfl⟩;rw [h1] at hF;dsimp only [R.bind] at hF;have hl3 := (hbe (d + 1) ts2 (by omega)).2 _ _ h1;clear h1;refine vr 1 ?_;refine Sr 5 co46 .h3 .h12 ?_;refine Bs 0 sl38 fun b2 => ?_;refine Cp cl79 rfl .k1 (fun m' hm he => must58 (s := sElse) (hw.mono hm) (Rd.blk (he _ (.head _))) (asc _ rfl) (by decide) hp3) ?_ ?_
   ·rintro _ _ ⟨e', a', h1, rfl⟩;rw [h1] at hF;exact pn ⟨e', a', hF.symm, rfl⟩
   rintro _ _ ⟨_, ts4, at4, _, h1, hp4, ⟨rfl, rfl⟩, rfl⟩;rw [h1] at hF;dsimp only [R.bind] at hF;have hl4 : 1 + ts4.length ≤ ts3.length := (zP (s := sElse) (ts := ts3)).2 _ _ h1;clear h1;refine vr 5 ?_;refine Cp cl82 rfl .k0 (fun m' hm he => hblk m' hm at4 (d + 1) (p + 1 + condW x + effsW t) ts4 hp4 h8 (by omega) (by omega)) ?_ ?_
   ·rintro _ _ ⟨e', a', h1, rfl⟩;rw [h1] at hF;exact pn ⟨e', a', hF.symm, rfl⟩
   rintro _ _ ⟨e, ts5, at5, _, h1, hp5, ⟨KE, ce, ee, rfl, rfl, hee⟩, rfl⟩;rw [h1] at hF;dsimp only [R.bind] at hF;clear h1;refine vr 1 ?_;refine Sr 7 co46 .h5 .h13 ?_;refine Lb 0 sg3 .here ?_;refine pe 2 (jV rfl rfl (w64 (by omega) (by omega))) ?_;refine Sr 4 co3 .here .h2 ?_;refine Lc 0 ag90 .h5 ?_;refine Sg 5 ag90 .h5 ?_;rw [show ((d + 1 : Nat) : Int) - 1 = (d : Nat) by omega]
   exact zo [_] ⟨⟨b1, _, _, _, rfl, .h5, .inr ⟨rfl, rfl⟩⟩, trivial⟩ _ (.cons .here (Pick.pack3 (.cons .h3 (.cons .h2 .p0)))) ⟨_, ts5, at5, _, hF.symm, hp5, ⟨⟨8, 0, ⟨0, 0, 0, none, 0, 0⟩, [], qc, KT, t.length, ct, KE, e.length, ce⟩, pack [ec, et, ee], rfl, rfl, fun ns h => effIf (hx ns (h.1 _ (.head _))) (ht ns (h.1 _ (.tail _ (.head _)))) (hee ns (h.1 _ (.tail _ (.tail _ (.head _)))))⟩, by show [rd b A c ws at5 d (p + 1 + condW x + effsW t + effsW e), pack [ec, et, ee]] = [rd b A c ws at5 d (p + effW (.mk 8 0 num0 [] x t e)), pack [ec, et, ee]]; rw [vb, if_pos rfl, if_neg (by decide)]; simp only [Nat.add_assoc, Nat.zero_add, Nat.add_zero]; rfl⟩
 | false =>
 rw [if_neg (by rw [hki]; decide)] at hF;refine vr 6 ?_;refine Cp cl51 rfl .k0 (fun m' hm he => bad19 120 (hw.mono hm) hp) ?_ ?_
 ·rintro _ _ rfl;exact pn ⟨120, _, hF.symm, rfl⟩
 ·rintro _ _ h;exact h.elim
end
section
open Wd Tp Kd
variable {m : Mp} {b c at_ d p : Nat} {A : Option Addr} {ws ts : List Wrd}
def EsC (m : Mp) (xs : List Value) (l : List EffT) : Prop := xs.length = l.length * 14 ∧ ∀ (i : Nat) (hi : i < l.length), EffR m ((xs.drop (i * 14)).take 14) l[i]
theorem EsC.snoc {m : Mp} {xs : List Value} {l : List EffT} {q : EffC} {x : EffT} (h : EsC m xs l) (hx : EffR m q.v x) : EsC m (xs ++ q.v) (l ++ [x]) := by
 obtain ⟨h1, h2⟩ := h;refine ⟨by rw [List.length_append, List.length_append, h1]; show l.length * 14 + 14 = (l.length + 1) * 14; omega, fun i hi => ?_⟩;have hi2 : i < l.length + 1 := by simpa using hi
 by_cases hlt : i < l.length
 ·rw [List.getElem_append_left hlt, List.drop_append_of_le_length (by omega), List.take_append_of_le_length (by rw [List.length_drop]; omega)];exact h2 i hlt
 ·have : i = l.length := by omega
  subst this;rw [← h1, List.drop_left];simp only [List.getElem_concat_length];exact hx
theorem EsC.list {m : Mp} {K : Option Addr} {kc : Nat} {xs : List Value} {l : List EffT} (h : EsC m xs l) (ho : (own 90 14 K l.length kc xs).inv m) (hl : l.length ≤ maxLen) : EffsR m K l.length l := ⟨rfl, hl, xs, Eng.Own.rd ho, h.1, h.2⟩
structure BlkS where
 n : Nat
 at_ : Nat
 p : Nat
 ts : List Wrd
 l : List EffT
 K : Option Addr
 kc : Nat
 xs : List Value
 e : Ent
theorem block61 (hcap : ws.length ≤ c) : ∀ (n : Nat) {m : Mp}, Tabs m → WsR m A ws → BlC m b A c ws (pBlock n) n
 | 0, _, _, _ => fun m' hm at_ d p ts hp hd8 hb hk => by cases hk
 | n + 1, m, hT, hw => fun m' hm at_ d p ts hp hd8 hb hk => by
   generalize hF : pBlock (n + 1) d ts = F;unfold pBlock at hF;have hsm := hp.small;have hlen := hp.len;refine z6 [.tmp 2] Tryz.func82 rfl rfl rfl ?_;refine tr 8 ?_;refine Bs 0 sl38 fun b1 => ?_;refine Cp cl79 rfl .k1 (fun m1 h1 he => must58 (s := sLb) (hw.mono (hm.trans h1)) (Rd.blk (he _ (.head _))) (asc _ rfl) (by decide) hp) ?_ ?_
   ·rintro _ _ ⟨e', a', h1, rfl⟩;rw [h1] at hF;exact pn ⟨e', a', hF.symm, rfl⟩
   rintro _ _ ⟨_, ts1, at1, _, h1, hp1, ⟨rfl, rfl⟩, rfl⟩;rw [h1] at hF;dsimp only [R.bind] at hF;have hl1 : 1 + ts1.length ≤ ts.length := (zP (s := sLb) (ts := ts)).2 _ _ h1;clear h1;have hone := fun ts (h : ts.length < n + 1) => ZY (d := d) (k := n) (n := n + 1) (by omega) (yn n) ts h;refine vr 4 ?_;refine wk 90 14 ?_
   refine zZ (α := BlkS) (fun y => [(0, ptr b), (2, .slice y.K y.l.length y.kc)]) (fun y => [rd b A c ws y.at_ d y.p, own 90 14 y.K y.l.length y.kc y.xs, y.e])
    (fun y => pMany (pEff (pBlock n) (n + 1) d) y.n y.l y.ts = F ∧ Pos ws y.at_ y.ts ∧ y.p = p + effsW y.l ∧ y.p + y.ts.length ≤ 4611686018427000000 ∧ y.ts.length < y.n ∧ y.ts.length < n + 1 ∧ y.l.length + y.ts.length ≤ 65537 ∧ ∀ ns, y.e.inv ns → EsC ns y.xs y.l) (fun y => y.n)
    ⟨n + 1, at1, p, ts1, [], none, 0, [], pack []⟩ ⟨rfl, rfl, trivial⟩ (.cons .h1 (.cons .here (Pick.nilE (.nil _)))) ⟨hF, hp1, rfl, by show p + ts1.length ≤ _; omega, by show ts1.length < n + 1; omega, by show ts1.length < n + 1; omega, by show 0 + ts1.length ≤ _; omega, fun ns _ => ⟨rfl, fun i h => by cases h⟩⟩ ?_
   clear hF hl1 hp1;rintro ⟨j, a, p1, ts, l, K, kc, xs, e⟩ ⟨hF, hp, hpw, hb, hj, hk, hll, hx⟩;dsimp only at hF hp hpw hb hj hk hll hx;dsimp only;obtain ⟨j, rfl⟩ : ∃ j', j = j' + 1 := ⟨j - 1, by omega⟩;unfold pMany at hF;refine tr 4 ?_;refine C1 cl50 rfl .here (fun m1 h1 he => is18 (s := sRb) (hw.mono (hm.trans h1)) hp (asc _ rfl) (by decide)) ?_;rintro _ _ ⟨rfl, rfl⟩;cases hkb : isW sRb ts with
   | true =>
     rw [if_pos hkb] at hF;have hnx := hp.isW hkb;refine vr 6 ?_;refine zG ?_;refine zF ?_;refine qt 4 ?_;refine Bs 0 sl38 fun b2 => ?_;refine Cp cl79 rfl .k1 (fun m1 h1 he => must58 (s := sRb) (hw.mono (hm.trans h1)) (Rd.blk (he _ (.head _))) (asc _ rfl) (by decide) hp) ?_ ?_
     ·rintro _ _ ⟨e', a', h1, rfl⟩;rw [must, if_pos hkb] at h1;cases h1
     rintro _ _ ⟨_, ts2, at2, _, h1, hp2, ⟨rfl, rfl⟩, rfl⟩;rw [must, if_pos hkb] at h1;cases h1;refine vr 9 ?_;exact zo [_] ⟨rfl, trivial⟩ _ (.cons .here (Pick.pack2 (.cons .h1 .p1))) ⟨l, ts.tail, at2, _, hF.symm, hp2, ⟨K, kc, pack [own 90 14 K l.length kc xs, e], rfl, rfl, fun ns h => (hx ns (h.1 _ (.tail _ (.head _)))).list (h.1 _ (.head _)) (by unfold maxLen; omega)⟩, by rw [hpw]; rfl⟩
   | false =>
     rw [if_neg (by rw [hkb]; decide)] at hF;refine vr 10 ?_;refine Cp cl114 rfl .k0 (fun m1 h1 he => effect99 (k := n) (n := n + 1) (hT.mono (hm.trans h1)) (hw.mono (hm.trans h1)) hcap hp hd8 hb hk (by omega) (yn n) (block61 hcap n (hT.mono (hm.trans h1)) (hw.mono (hm.trans h1)))) ?_ ?_
     ·rintro _ _ ⟨e', a', h1, rfl⟩;rw [h1] at hF;refine zp ?_;refine ze ?_;exact pn ⟨e', a', hF.symm, rfl⟩
     rintro _ _ ⟨x, ts2, at2, _, h1, hp2, ⟨q, ex, rfl, rfl, hq⟩, rfl⟩;have hl2 := (hone ts hk).2 _ _ h1;have hxp := ZZ x;rw [h1] at hF;change pMany (pEff (pBlock n) (n + 1) d) j (l ++ [x]) ts2 = F at hF;clear h1;have e1 : l.length + 1 = (l ++ [x]).length := by simp
     have e2 : effsW (l ++ [x]) = effsW l + effW x := by simp [effsW]
     refine Al 0 zl90 fun b2 => ?_;refine Sg 4 ag90 .here ?_;refine Lc 0 ag90 .here ?_;refine Bs 0 sl46 fun b3 => ?_;refine zE (zx sl46 rfl rfl rfl rfl .here (fun _ _ => .h4) rfl rfl (by first | omega | (simp only [maxLen]; omega)) (by omega) rfl (fun A1 c1 => ?_)) rfl;refine vr 3 ?_;rw [e1]
     exact QR (⟨j, at2, p1 + effW x, ts2, l ++ [x], A1, c1, xs ++ q.v, pack [e, ex]⟩ : BlkS) (.cons .h2 (.cons .h3 (Pick.pack2 (.cons .h3 .p2)))) ⟨hF, hp2, by dsimp only; rw [e2, hpw, Nat.add_assoc], by show p1 + effW x + ts2.length ≤ _; omega, by show ts2.length < j; omega, by show ts2.length < n + 1; omega, by show (l ++ [x]).length + ts2.length ≤ _; rw [← e1]; omega, fun ns h => (hx ns (h.1 _ (.head _))).snoc (hq ns (h.1 _ (.tail _ (.head _))))⟩ (Nat.lt_succ_self _)
end
section
open Wd Tp Kd
variable {m : Mp} {b c at_ d p : Nat} {A : Option Addr} {ws ts : List Wrd}
def RdN (m : Mp) (K : Option Addr) (kc : Nat) (l : List (List UInt8)) : Prop := Rd m K (l.map strV) ∧ l.length ≤ kc
theorem RdN.mono {m m' : Mp} {K : Option Addr} {kc : Nat} {l : List (List UInt8)} (h : RdN m K kc l) (hl : Le m m') : RdN m' K kc l := ⟨h.1.mono hl, h.2⟩
theorem RdN.z (m : Mp) : RdN m none 0 [] := ⟨Rd.nil _ _, Nat.zero_le _⟩
abbrev nmsV : List (List UInt8) → Value → List Ent → Prop := fun l v Es => ∃ (K : Option Addr) (kc : Nat) (e : Ent), v = .slice K l.length kc ∧ Es = [e] ∧ l.length ≤ 65537 ∧ (∀ s ∈ l, s.length ≤ 65536) ∧ ∀ ns, e.inv ns → RdN ns K kc l
structure NmS where
 n : Nat
 at_ : Nat
 ts : List Wrd
 l : List (List UInt8)
 K : Option Addr
 kc : Nat
theorem names70 {n : Nat} (hT : Tabs m) (hw : WsR m A ws) (hp : Pos ws at_ ts) (hn : ts.length < n) : RdC 91 [ptr b] m b A c ws at_ d p (pNames n [] ts) (fun _ => 0) nmsV := by
 generalize hF : pNames n [] ts = F;refine z6 [.tmp 2] Tryz.func91 rfl rfl rfl ?_;have hsm := hp.small;have hlen := hp.len;refine tr 6 ?_;refine wk 9 1 ?_
 refine zZ (α := NmS) (fun y => [(0, ptr b), (2, .slice y.K y.l.length y.kc)]) (fun y => [rd b A c ws y.at_ d p, own 9 1 y.K y.l.length y.kc (y.l.map strV)])
  (fun y => pNames y.n y.l y.ts = F ∧ Pos ws y.at_ y.ts ∧ y.ts.length < y.n ∧ y.l.length + y.ts.length ≤ 65537 ∧ ∀ s ∈ y.l, s.length ≤ 65536) (fun y => y.n)
  ⟨n, at_, ts, [], none, 0⟩ ⟨rfl, rfl, trivial⟩ (.cons .h1 .p0) ⟨hF, hp, hn, by show 0 + ts.length ≤ _; omega, fun s h => by cases h⟩ ?_
 clear hF hp hn hlen;rintro ⟨j, a, ts, l, K, kc⟩ ⟨hF, hp, hj, hll, hx⟩;dsimp only at hF hp hj hll hx;dsimp only;obtain ⟨j, rfl⟩ : ∃ j', j = j' + 1 := ⟨j - 1, by omega⟩;unfold pNames at hF;refine tr 4 ?_;refine Cp cl76 rfl .k0 (fun m' hm he => name55 (hT.mono hm) (hw.mono hm) hp) ?_ ?_
 ·rintro _ _ ⟨e', a', h1, rfl⟩;rw [h1] at hF;refine zp ?_;refine ze ?_;exact pn ⟨e', a', hF.symm, rfl⟩
 rintro _ _ ⟨s, ts2, at2, _, h1, hp2, ⟨rfl, rfl⟩, rfl⟩;rw [h1] at hF;dsimp only [R.bind] at hF;have hl2 : 1 + ts2.length ≤ ts.length := (yg (ts := ts)).2 _ _ h1;have hs5 := wb hp h1;clear h1
 have hx2 : ∀ t ∈ l ++ [s], t.length ≤ 65536 := fun t ht => by
  rcases List.mem_append.1 ht with h | h
  ·exact hx t h
  ·rw [List.mem_singleton.1 h]; exact hs5
 have e1 : l.length + 1 = (l ++ [s]).length := by simp
 have e2 : l.map strV ++ [.string (bs s)] = (l ++ [s]).map strV := by simp [strV]
 refine vr 7 ?_;refine Bs 0 sl38 fun b1 => ?_;refine zE (zx sl38 rfl rfl rfl rfl .here (fun _ _ => .h2) rfl rfl (by first | omega | (simp only [maxLen]; omega)) (by omega) rfl (fun A1 c1 => ?_)) rfl;refine vr 6 ?_;refine C1 cl77 rfl .h1 (fun m' hm he => take56 (s := sComma) (hw.mono hm) hp2 (asc _ rfl) (by decide)) ?_;rintro _ _ (⟨hk, hp3, rfl, rfl⟩ | ⟨hk, rfl, rfl⟩)
 ·have hl1 := zh hk;rw [if_pos hk] at hF;refine vr 6 ?_
  exact xZ (⟨j, at2 + 1, ts2.tail, l ++ [s], A1, c1⟩ : NmS) ⟨rfl, by rw [← e1]; rfl, trivial⟩ (.cons .here (Pick.cons (e := own 9 1 A1 (l ++ [s]).length c1 ((l ++ [s]).map strV)) (by rw [← e2, ← e1]; exact .h1) (.nil _))) ⟨hF, hp3, by show ts2.tail.length < j; omega, by show (l ++ [s]).length + ts2.tail.length ≤ _; rw [← e1]; omega, hx2⟩ (Nat.lt_succ_self _)
 rw [if_neg (by rw [hk]; decide)] at hF;refine vr 12 ?_;refine zI ?_;refine zH ?_;rw [e1]
 exact zo [_] ⟨rfl, trivial⟩ _ (.cons .here (Pick.cons (e := own 9 1 A1 (l ++ [s]).length c1 ((l ++ [s]).map strV)) (by rw [← e2, ← e1]; exact .h1) (.nil _))) ⟨l ++ [s], ts2, at2, _, hF.symm, hp2, ⟨A1, c1, _, rfl, rfl, by rw [← e1]; omega, hx2, fun ns h => ⟨Eng.Own.rd h, Eng.Own.le h⟩⟩, rfl⟩
end
section
open Wd Tp Kd
variable {m : Mp} {b c at_ d p : Nat} {A : Option Addr} {ws ts : List Wrd}
theorem uI {v : List UInt8 → Value} {k : List UInt8} : ∀ {l : List (List UInt8)} {i : Nat}, k ∉ l → findM k i (l.map fun s => (s, v s)) = none
 | [], _, _ => rfl
 | s :: r, i, h => by
   unfold findM;simp only [List.map_cons];rw [if_neg (fun e => h (by rw [e]; exact .head _))];exact uI fun hm => h (.tail _ hm)
theorem Yz {k : List UInt8} (l : List (List UInt8)) : (getM (l.map fun s => (s, Value.bool true)) k).getD (.bool false) = .bool (decide (k ∈ l)) := by
 by_cases h : k ∈ l
 ·rw [decide_eq_true h]
  have : ∀ (l : List (List UInt8)) (i : Nat), k ∈ l → ∃ j, findM k i (l.map fun s => (s, Value.bool true)) = some (j, .bool true) := by
   intro l
   induction l with
   | nil => intro i h; cases h
   | cons s r ih =>
     intro i h;unfold findM;simp only [List.map_cons];by_cases hk : k = s
     ·rw [if_pos hk]; exact ⟨_, rfl⟩
     ·rw [if_neg hk];exact ih _ (by rcases List.mem_cons.1 h with h | h; exact absurd h hk; exact h)
  obtain ⟨j, hj⟩ := this l 0 h;rw [getM, hj]
  rfl
 ·rw [decide_eq_false h, getM, uI (v := fun _ => Value.bool true) h]
  rfl
theorem Ys {k : List UInt8} {l : List (List UInt8)} (h : k ∉ l) : putM (l.map fun s => (s, Value.bool true)) k (.bool true) = (l ++ [k]).map fun s => (s, Value.bool true) := by
 rw [putM, uI (v := fun _ => Value.bool true) h, List.map_append]
 rfl
abbrev ruM (keys : List (List UInt8 × FuncId × List Value)) : List (List UInt8 × Value) := keys.map fun k => (k.1, .func (.func k.2.1) [].toArray k.2.2.toArray)
theorem getM_ru {k : List UInt8} : ∀ (keys : List (List UInt8 × FuncId × List Value)), (k ∈ keys.map (·.1) ∧ ∃ x ∈ keys, x.1 = k ∧ getM (ruM keys) k = some (.func (.func x.2.1) [].toArray x.2.2.toArray)) ∨ (k ∉ keys.map (·.1) ∧ getM (ruM keys) k = none) := by
 have gen : ∀ (keys : List (List UInt8 × FuncId × List Value)) (i : Nat), (k ∈ keys.map (·.1) ∧ ∃ x ∈ keys, x.1 = k ∧ ∃ j, findM k i (ruM keys) = some (j, .func (.func x.2.1) [].toArray x.2.2.toArray)) ∨ (k ∉ keys.map (·.1) ∧ findM k i (ruM keys) = none) := by
  intro keys
  induction keys with
  | nil => intro i; exact .inr ⟨by simp, rfl⟩
  | cons x r ih =>
    intro i;by_cases h : k = x.1
    ·refine .inl ⟨by rw [h]; exact .head _, x, .head _, h.symm, i, ?_⟩;show findM k i ((x.1, _) :: ruM r) = _;unfold findM;rw [if_pos h]
    ·have e : findM k i (ruM (x :: r)) = findM k (i + 1) (ruM r) := by
      show findM k i ((x.1, _) :: ruM r) = _;rw [findM, if_neg h]
     rcases ih (i + 1) with ⟨h1, y, h2, h3, j, h4⟩ | ⟨h1, h2⟩
     ·exact .inl ⟨.tail _ h1, y, .tail _ h2, h3, j, by rw [e]; exact h4⟩
     ·refine .inr ⟨fun hm => ?_, by rw [e]; exact h2⟩;rcases List.mem_cons.1 hm with hm | hm
      ·exact h hm
      ·exact h1 hm
 intro keys;rcases gen keys 0 with ⟨h1, y, h2, h3, j, h4⟩ | ⟨h1, h2⟩
 ·exact .inl ⟨h1, y, h2, h3, by rw [getM, h4]; rfl⟩
 ·exact .inr ⟨h1, by rw [getM, h2]; rfl⟩
def RuC {σ : Type} (m : Mp) (b : Nat) (A : Option Addr) (c : Nat) (ws : List Wrd) (f : FuncId) (q : List Value) (rd1 : σ → List Wrd → R σ) (I I2 : σ → Nat → Ent → Prop) (n : Nat) : Prop :=
 ∀ m', Le m m' → ∀ (x : σ) (e : Ent) (at_ p : Nat) (ts : List Wrd), I x p e → Pos ws at_ ts → p + ts.length ≤ 4611686018427000000 → ts.length < n →
  CSP Tryz.prog f q m' [rd b A c ws at_ 0 p, e] (fun v L' => ∃ x' ts' at' p' e', rd1 x ts = .ok x' ts' ∧ Pos ws at' ts' ∧ p' + ts'.length ≤ p + ts.length ∧ ts'.length ≤ ts.length ∧ I2 x' p' e' ∧ v = U0 ∧ L' = [rd b A c ws at' 0 p', e'])
   (fun v _ => ∃ e a, rd1 x ts = .bad e a ∧ v = fltV e a)
structure RuS (σ : Type) where
 n : Nat
 at_ : Nat
 p : Nat
 ts : List Wrd
 seen : List (List UInt8)
 x : σ
 e : Ent
theorem rules59 {σ : Type} {keys : List (List UInt8 × FuncId × List Value)} {read : List UInt8 → σ → List Wrd → R σ} {parts : σ → Nat} {I : List (List UInt8) → σ → Nat → Ent → Prop} {mb n : Nat} {x : σ} {e : Ent}
  (hM : MapAt m mb (ruM keys)) (hcl : ∀ k ∈ keys, callable Tryz.prog k.2.1 = true)
  (hR : ∀ k ∈ keys, ∀ seen, k.1 ∉ seen → RuC m b A c ws k.2.1 k.2.2 (read k.1) (I seen) (I (seen ++ [k.1])) n)
  (hI : ∀ seen x p e, I seen x p e → (200 < p ↔ 200 < parts x)) (hx : I [] x p e) (hw : WsR m A ws) (hp : Pos ws at_ ts) (hb : p + ts.length ≤ 4611686018427000000) (hn : ts.length < n) :
  CSP Tryz.prog 80 [ptr b, .map (some mb)] m [rd b A c ws at_ 0 p, e]
   (fun v L' => ∃ x' ts' at' p' e' seen, ((must sLb ts).bind fun _ ts => pRules (keys.map (·.1)) read parts n [] x ts) = .ok x' ts' ∧ Pos ws at' ts' ∧ p' ≤ 200 ∧ I seen x' p' e' ∧ v = U0 ∧ L' = [rd b A c ws at' 0 p', e'])
   (fun v _ => ∃ e a, ((must sLb ts).bind fun _ ts => pRules (keys.map (·.1)) read parts n [] x ts) = .bad e a ∧ v = fltV e a) := by
 generalize hF : ((must sLb ts).bind fun _ ts => pRules (keys.map (·.1)) read parts n [] x ts) = F;have hsm := hp.small;have hlen := hp.len;refine z6 [] Tryz.func80 rfl rfl rfl ?_;refine tr 3 ?_;refine Bs 0 sl38 fun b1 => ?_;refine Cp cl79 rfl .k1 (fun m' hm he => must58 (s := sLb) (hw.mono hm) (Rd.blk (he _ (.head _))) (asc _ rfl) (by decide) hp) ?_ ?_
 ·rintro _ _ ⟨e', a', h1, rfl⟩;rw [h1] at hF;exact pn ⟨e', a', hF.symm, rfl⟩
 rintro _ _ ⟨_, ts1, at1, _, h1, hp1, ⟨rfl, rfl⟩, rfl⟩;rw [h1] at hF;dsimp only [R.bind] at hF;have hl1 : 1 + ts1.length ≤ ts.length := (zP (s := sLb) (ts := ts)).2 _ _ h1;clear h1;refine vr 4 ?_;refine zE (xC rfl (fun b2 => ?_)) rfl;refine vr 5 ?_
 refine zZ (α := RuS σ) (fun y => [(0, ptr b), (1, .map (some mb)), (4, .map (some b2))]) (fun y => [rd b A c ws y.at_ 0 y.p, smap b2 (y.seen.map fun s => (s, Value.bool true)), y.e])
  (fun y => pRules (keys.map (·.1)) read parts y.n y.seen y.x y.ts = F ∧ Pos ws y.at_ y.ts ∧ y.p + y.ts.length ≤ 4611686018427000000 ∧ y.ts.length < n ∧ y.ts.length < y.n ∧ I y.seen y.x y.p y.e) (fun y => y.n)
  ⟨n, at1, p, ts1, [], x, e⟩ ⟨rfl, rfl, rfl, trivial⟩ (.cons .h1 (.cons .here .p1)) ⟨hF, hp1, by show p + ts1.length ≤ _; omega, by show ts1.length < n; omega, by show ts1.length < n; omega, hx⟩ ?_
 clear hF hl1 hp1 hx;rintro ⟨j, a, p1, ts, seen, x, e⟩ ⟨hF, hp, hb, hn, hj, hx⟩;dsimp only at hF hp hb hn hj hx;dsimp only;obtain ⟨j, rfl⟩ : ∃ j', j = j' + 1 := ⟨j - 1, by omega⟩;unfold pRules at hF;refine tr 4 ?_;refine C1 cl50 rfl .here (fun m1 h1 he => is18 (s := sRb) (hw.mono h1) hp (asc _ rfl) (by decide)) ?_;rintro _ _ ⟨rfl, rfl⟩;have hp200 := hI _ _ _ _ hx;cases hkb : isW sRb ts with
 | true =>
   rw [if_pos hkb] at hF;have hnx := hp.isW hkb;by_cases h2 : 200 < p1
   ·rw [if_pos (hp200.1 h2)] at hF;refine vr 6 ?_;refine zG ?_;refine zF ?_;refine qt 7 ?_;refine Lb 0 sg3 .here ?_;refine cto 5 ?_;refine Cp cl51 rfl .k0 (fun m' hm he => bad19 3 (hw.mono hm) hp) ?_ ?_
    ·rintro _ _ rfl;exact pn ⟨3, _, hF.symm, rfl⟩
    ·rintro _ _ h;exact h.elim
   rw [if_neg (fun h => h2 (hp200.2 h))] at hF;refine vr 6 ?_;refine zG ?_;refine zF ?_;refine qt 7 ?_;refine Lb 0 sg3 .here ?_;refine cfo 7 ?_;refine Bs 0 sl38 fun b3 => ?_;refine Cp cl79 rfl .k1 (fun m' hm he => must58 (s := sRb) (hw.mono hm) (Rd.blk (he _ (.head _))) (asc _ rfl) (by decide) hp) ?_ ?_
   ·rintro _ _ ⟨e', a', h1, rfl⟩;rw [must, if_pos hkb] at h1;cases h1
   rintro _ _ ⟨_, ts2, at2, _, h1, hp2, ⟨rfl, rfl⟩, rfl⟩;rw [must, if_pos hkb] at h1;cases h1;refine vr 1 ?_;exact yi [] trivial _ (.cons .here .p2) ⟨x, ts.tail, at2, p1, e, seen, hF.symm, hp2, by omega, hx, rfl, rfl⟩
 | false =>
   rw [if_neg (by rw [hkb]; decide)] at hF;have hat := hp.word hw;have hA := hp.isSome hw;have hlt := hp.lt;refine vr 8 ?_;refine zc (sT [0, 1, 2, 4, 5, 6, 103, 107, 8, 9, 110, 11] .done) mixed (by kernel_rfl) (fun _ _ _ _ hq => hq) ?_;refine vt 6 ?_;refine Vl 0 rfl sg94 .here ?_;refine Vl 0 rfl sg3 .here ?_;refine Vt 1 rfl (zC ez94 rfl rfl hA (by omega)) ?_
   refine Vu 1 rfl (zR sg9 rfl (hat.at_ rfl)) ?_;refine Vm 5 ?_;refine lr 10 (uP hM ms141 rfl rfl mz141) ?_;rcases getM_ru (k := (hd ts).text) keys with ⟨hin, k, hk, hke, hg⟩ | ⟨hin, hg⟩
   ·rw [hg];dsimp only [Option.getD_some, Option.isSome_some];by_cases h1 : (hd ts).kind = 1
    ·rw [if_pos ⟨h1, hin⟩] at hF;have hp2 := hp.next (by omega)
     have htl : ts.tail.length + 1 = ts.length := by
      have := hp2.len;have := hp.len;omega
     refine zc (sT [0, 1, 2, 3, 4, 5, 7, 8, 9, 106, 110, 11, 12, 113, 14, 15, 16] .done) mixed (by kernel_rfl) (fun _ _ _ _ hq => hq) ?_;refine vt 9 ?_;refine Vl 0 rfl sg94 .here ?_;refine Vl 0 rfl sg3 .here ?_;refine Vt 1 rfl (zC ez94 rfl rfl hA (by omega)) ?_;refine Vu 0 rfl (zR sg82 rfl (hat.at_ rfl)) ?_;refine Vt 2 rfl (df (Zu rfl rfl) (by omega)) ?_;refine Vm 6 ?_
     refine lr 3 (wn ms105 rfl rfl .h1 mz105) ?_;rw [Yz];by_cases hs : (hd ts).text ∈ seen
     ·rw [if_pos hs] at hF;rw [decide_eq_true hs];refine tr 3 ?_;refine Cp cl51 rfl .k0 (fun m' hm he => bad19 101 (hw.mono hm) hp) ?_ ?_
      ·rintro _ _ rfl;refine zp ?_;refine ze ?_;exact pn ⟨101, _, hF.symm, rfl⟩
      ·rintro _ _ h;exact h.elim
     rw [if_neg hs] at hF;rw [decide_eq_false hs];refine tr 8 ?_;refine zE (yR ms105 rfl rfl rfl .h1 ?_) rfl;refine vr 7 ?_;refine Lb 0 sg3 .here ?_;refine Pa 2 ?_;refine Sr 4 co3 .here .h1 ?_;rw [Ys hs]
     refine zE (wB (p := []) (q := k.2.2) (vs := []) (hcl k hk) rfl rfl (.cons .here .k1) (fun m' hm he => hR k hk seen (by rw [hke]; exact hs) m' hm x e (a + 1) p1 ts.tail hx hp2 (by omega) (by omega)) rfl ?_ ?_) rfl
     ·rintro _ _ ⟨e', a', h1, rfl⟩;rw [← hke, h1] at hF;refine kp ?_;refine ze ?_;exact pn ⟨e', a', hF.symm, rfl⟩
     rintro _ _ ⟨x2, ts2, at2, p2, e2, h1, hp3, hle, hle2, hx2, rfl, rfl⟩;rw [← hke, h1] at hF;rw [hke] at hF hx2;dsimp only [R.bind] at hF;refine vr 2 ?_;exact QR (⟨j, at2, p2, ts2, seen ++ [(hd ts).text], x2, e2⟩ : RuS σ) (.cons .here (.cons .h1 .p0)) ⟨hF, hp3, by show p2 + ts2.length ≤ _; omega, by show ts2.length < n; omega, by show ts2.length < j; omega, hx2⟩ (Nat.lt_succ_self _)
    ·rw [if_neg (fun h => h1 h.1)] at hF;refine zc (sT [0, 1, 2, 3, 4, 5, 7, 8, 9, 106, 110, 11, 12, 113, 14, 15, 16] .done) mixed (by kernel_rfl) (fun _ _ _ _ hq => hq) ?_;refine vt 9 ?_;refine Vl 0 rfl sg94 .here ?_;refine Vl 0 rfl sg3 .here ?_;refine Vt 1 rfl (zC ez94 rfl rfl hA (by omega)) ?_;refine Vu 0 rfl (zR sg82 rfl (hat.at_ rfl)) ?_
     refine Vt 2 rfl (dt (Zu rfl rfl) (by assumption)) ?_;refine Vm 4 ?_;refine Cp cl51 rfl .k0 (fun m' hm he => bad19 120 (hw.mono hm) hp) ?_ ?_
     ·rintro _ _ rfl;refine zp ?_;refine ze ?_;exact pn ⟨120, _, hF.symm, rfl⟩
     ·rintro _ _ h;exact h.elim
   ·rw [hg];dsimp only [Option.getD_none, Option.isSome_none];rw [if_neg (fun h => hin h.2)] at hF;refine zc (sT [0, 1, 2, 3, 4, 5, 7, 8, 9, 106, 110, 11, 12, 113, 14, 15, 16] .done) mixed (by kernel_rfl) (fun _ _ _ _ hq => hq) ?_;refine vt 17 ?_;refine Vm 4 ?_;refine Cp cl51 rfl .k0 (fun m' hm he => bad19 120 (hw.mono hm) hp) ?_ ?_
    ·rintro _ _ rfl;refine zp ?_;refine ze ?_;exact pn ⟨120, _, hF.symm, rfl⟩
    ·rintro _ _ h;exact h.elim
end
section
open Wd Tp Kd
variable {m : Mp} {b c at_ d p : Nat} {A : Option Addr} {ws ts : List Wrd}
theorem Pick.unpack2 {a e f : Ent} : Pick [a, pack [e, f]] [a, e, f] := fun m h hs => by
 have h1 := hs.take (Tk.there Tk.here);have h2 : HS m ([e, f] ++ [a]) h := HS.pack_iff.2 h1;exact (Pick.cons .h2 .pp) m h h2
structure CardC where
 A : Option Addr
 ca : Nat
 B : Option Addr
 cb : Nat
 D : Option Addr
 cd : Nat
abbrev CardC.v (q : CardC) (x : CardT) : List Value := [.string (bs x.name), .bool x.unit, .int .i64 x.cost, .int .i64 x.power, .int .i64 x.health, .int .i64 x.shield, .int .i64 x.apow, .int .i64 x.aheal, .slice q.A x.played.length q.ca, .slice q.B x.dead.length q.cb, .slice q.D x.dawn.length q.cd, .int .i64 x.at_]
def CardQ (m : Mp) (vs : List Value) (x : CardT) : Prop := ∃ q : CardC, vs = q.v x ∧ x.name.length ≤ 65536 ∧ EffsR m q.A x.played.length x.played ∧ EffsR m q.B x.dead.length x.dead ∧ EffsR m q.D x.dawn.length x.dawn
theorem CardQ.mono {m m' : Mp} {vs : List Value} {x : CardT} (h : CardQ m vs x) (hl : Le m m') : CardQ m' vs x := by
 obtain ⟨q, h1, h2, h3, h4, h5⟩ := h;exact ⟨q, h1, h2, h3.mono hl, h4.mono hl, h5.mono hl⟩
theorem EffsR.z (m : Mp) : EffsR m none 0 [] := ⟨rfl, Nat.zero_le _, [], Rd.nil _ _, rfl, fun i h => by cases h⟩
def CdI (b4 : Nat) (seen : List (List UInt8)) (x : CardT) (p : Nat) (e : Ent) : Prop := ∃ (q : CardC) (o : Ent), e = pack [cel b4 (q.v x) 48, o] ∧ (∀ ns, o.inv ns → EffsR ns q.A x.played.length x.played ∧ EffsR ns q.B x.dead.length x.dead ∧ EffsR ns q.D x.dawn.length x.dawn) ∧
 p = cardWt x ∧ x.name.length ≤ 65536 ∧ (sPlayed ∉ seen → x.played = []) ∧ (sDead ∉ seen → x.dead = []) ∧ (sDawn ∉ seen → x.dawn = [])
theorem nin {k s : List UInt8} {seen : List (List UInt8)} (h : s ∉ seen ++ [k]) : s ∉ seen := fun hm => h (List.mem_append_left _ hm)
theorem nin2 {k : List UInt8} {seen : List (List UInt8)} (h : k ∉ seen ++ [k]) : False := h (List.mem_append_right _ (.head _))
theorem u9 : effsW [] = 0 := rfl
theorem rule60 {b2 b4 n : Nat} {seen : List (List UInt8)} (hbox : Wc m ⟨b2, 0, none⟩ (ptr b)) (hT : Tabs m) (hw : WsR m A ws) (hcap : ws.length ≤ c) (hs : sPlayed ∉ seen) : RuC m b A c ws 81 [ptr b2, ptr b4] (cardRead n sPlayed) (CdI b4 seen) (CdI b4 (seen ++ [sPlayed])) n := by
 rintro m' hm x e at_ p ts ⟨q, o, rfl, hes, rfl, hnm, h1, h2, h3⟩ hp hb hn;generalize hF : cardRead n sPlayed x ts = F;unfold cardRead at hF;rw [if_pos rfl] at hF;have hbx := hbox.mono hm;clear hbox;refine z6 [] Tryz.func81 rfl rfl rfl ?_;refine xB _ Pick.unpack2 ?_;refine tr 1 ?_;refine lr 0 (z7 sg97 rfl hbx) ?_
 refine Cp cl82 rfl .k0 (fun m1 hm1 he => block61 hcap n (hT.mono (hm.trans hm1)) (hw.mono (hm.trans hm1)) m1 (Le.refl _) at_ 0 (cardWt x) ts hp (by omega) hb hn) ?_ ?_
 ·rintro _ _ ⟨e', a', h1, rfl⟩;rw [h1] at hF;skip;exact pn ⟨e', a', hF.symm, rfl⟩
 rintro _ _ ⟨l, ts1, at1, _, hl, hp1, ⟨K, kc, e, rfl, rfl, he⟩, rfl⟩;rw [hl] at hF;dsimp only [R.bind] at hF;have hlen := (yn n 0 ts hn).2 _ _ hl;have hz := h1 hs;refine vr 1 ?_;refine Sr 1 co46 .h2 .h8 ?_
 refine yi [] trivial _ (.cons .here (Pick.pack2 (a := cel b4 (CardC.v ⟨K, kc, q.B, q.cb, q.D, q.cd⟩ { x with played := l }) 48) (b := pack [o, e]) (.cons .h1 (Pick.pack2 (.cons .h1 .p0))))) ⟨{ x with played := l }, ts1, at1, cardWt x + effsW l, _, hF.symm, hp1, by omega, by omega, ⟨⟨K, kc, q.B, q.cb, q.D, q.cd⟩, pack [o, e], rfl, fun ns h => ⟨he ns (h.1 _ (.tail _ (.head _))), (hes ns (h.1 _ (.head _))).2.1, (hes ns (h.1 _ (.head _))).2.2⟩, ?_, hnm, fun h => (nin2 h).elim, fun h => h2 (nin h), fun h => h3 (nin h)⟩, rfl, rfl⟩
 unfold cardWt;rw [hz, u9];dsimp only;omega
theorem rule62 {b2 b4 n : Nat} {seen : List (List UInt8)} (hbox : Wc m ⟨b2, 0, none⟩ (ptr b)) (hT : Tabs m) (hw : WsR m A ws) (hcap : ws.length ≤ c) (hs : sDead ∉ seen) : RuC m b A c ws 83 [ptr b2, ptr b4] (cardRead n sDead) (CdI b4 seen) (CdI b4 (seen ++ [sDead])) n := by
 rintro m' hm x e at_ p ts ⟨q, o, rfl, hes, rfl, hnm, h1, h2, h3⟩ hp hb hn;generalize hF : cardRead n sDead x ts = F;unfold cardRead at hF;rw [if_neg (by decide), if_pos rfl] at hF;have hbx := hbox.mono hm;clear hbox;refine z6 [] Tryz.func83 rfl rfl rfl ?_;refine xB _ Pick.unpack2 ?_;refine tr 1 ?_;refine lr 0 (z7 sg97 rfl hbx) ?_
 refine Cp cl82 rfl .k0 (fun m1 hm1 he => block61 hcap n (hT.mono (hm.trans hm1)) (hw.mono (hm.trans hm1)) m1 (Le.refl _) at_ 0 (cardWt x) ts hp (by omega) hb hn) ?_ ?_
 ·rintro _ _ ⟨e', a', h1, rfl⟩;rw [h1] at hF;skip;exact pn ⟨e', a', hF.symm, rfl⟩
 rintro _ _ ⟨l, ts1, at1, _, hl, hp1, ⟨K, kc, e, rfl, rfl, he⟩, rfl⟩;rw [hl] at hF;dsimp only [R.bind] at hF;have hlen := (yn n 0 ts hn).2 _ _ hl;have hz := h2 hs;refine vr 1 ?_;refine Sr 1 co46 .h2 .h9 ?_
 refine yi [] trivial _ (.cons .here (Pick.pack2 (a := cel b4 (CardC.v ⟨q.A, q.ca, K, kc, q.D, q.cd⟩ { x with dead := l }) 48) (b := pack [o, e]) (.cons .h1 (Pick.pack2 (.cons .h1 .p0))))) ⟨{ x with dead := l }, ts1, at1, cardWt x + effsW l, _, hF.symm, hp1, by omega, by omega, ⟨⟨q.A, q.ca, K, kc, q.D, q.cd⟩, pack [o, e], rfl, fun ns h => ⟨(hes ns (h.1 _ (.head _))).1, he ns (h.1 _ (.tail _ (.head _))), (hes ns (h.1 _ (.head _))).2.2⟩, ?_, hnm, fun h => h1 (nin h), fun h => (nin2 h).elim, fun h => h3 (nin h)⟩, rfl, rfl⟩
 unfold cardWt;rw [hz, u9];dsimp only;omega
theorem rule63 {b2 b4 n : Nat} {seen : List (List UInt8)} (hbox : Wc m ⟨b2, 0, none⟩ (ptr b)) (hT : Tabs m) (hw : WsR m A ws) (hcap : ws.length ≤ c) (hs : sDawn ∉ seen) : RuC m b A c ws 84 [ptr b2, ptr b4] (cardRead n sDawn) (CdI b4 seen) (CdI b4 (seen ++ [sDawn])) n := by
 rintro m' hm x e at_ p ts ⟨q, o, rfl, hes, rfl, hnm, h1, h2, h3⟩ hp hb hn;generalize hF : cardRead n sDawn x ts = F;unfold cardRead at hF;rw [if_neg (by decide), if_neg (by decide), if_pos rfl] at hF;have hbx := hbox.mono hm;clear hbox;refine z6 [] Tryz.func84 rfl rfl rfl ?_;refine xB _ Pick.unpack2 ?_;refine tr 1 ?_;refine lr 0 (z7 sg97 rfl hbx) ?_
 refine Cp cl82 rfl .k0 (fun m1 hm1 he => block61 hcap n (hT.mono (hm.trans hm1)) (hw.mono (hm.trans hm1)) m1 (Le.refl _) at_ 0 (cardWt x) ts hp (by omega) hb hn) ?_ ?_
 ·rintro _ _ ⟨e', a', h1, rfl⟩;rw [h1] at hF;skip;exact pn ⟨e', a', hF.symm, rfl⟩
 rintro _ _ ⟨l, ts1, at1, _, hl, hp1, ⟨K, kc, e, rfl, rfl, he⟩, rfl⟩;rw [hl] at hF;dsimp only [R.bind] at hF;have hlen := (yn n 0 ts hn).2 _ _ hl;have hz := h3 hs;refine vr 1 ?_;refine Sr 1 co46 .h2 .h10 ?_
 refine yi [] trivial _ (.cons .here (Pick.pack2 (a := cel b4 (CardC.v ⟨q.A, q.ca, q.B, q.cb, K, kc⟩ { x with dawn := l }) 48) (b := pack [o, e]) (.cons .h1 (Pick.pack2 (.cons .h1 .p0))))) ⟨{ x with dawn := l }, ts1, at1, cardWt x + effsW l, _, hF.symm, hp1, by omega, by omega, ⟨⟨q.A, q.ca, q.B, q.cb, K, kc⟩, pack [o, e], rfl, fun ns h => ⟨(hes ns (h.1 _ (.head _))).1, (hes ns (h.1 _ (.head _))).2.1, he ns (h.1 _ (.tail _ (.head _)))⟩, ?_, hnm, fun h => h1 (nin h), fun h => h2 (nin h), fun h => (nin2 h).elim⟩, rfl, rfl⟩
 unfold cardWt;rw [hz, u9];dsimp only;omega
theorem rule64 {b2 b4 n : Nat} {seen : List (List UInt8)} (hbox : Wc m ⟨b2, 0, none⟩ (ptr b)) (hw : WsR m A ws) : RuC m b A c ws 85 [ptr b2, ptr b4] (cardRead n sAura) (CdI b4 seen) (CdI b4 (seen ++ [sAura])) n := by
 rintro m' hm x e at_ p ts ⟨q, o, rfl, hes, rfl, hnm, h1, h2, h3⟩ hp hb hn;generalize hF : cardRead n sAura x ts = F;unfold cardRead at hF;rw [if_neg (by decide), if_neg (by decide), if_neg (by decide), if_pos rfl] at hF;have hbx := hbox.mono hm;clear hbox;refine z6 [] Tryz.func85 rfl rfl rfl ?_;refine xB _ Pick.unpack2 ?_;refine tr 2 ?_;refine lr 0 (z7 sg97 rfl hbx) ?_
 refine Cp cl78 rfl .k0 (fun m1 hm1 he => number57 (hw.mono (hm.trans hm1)) hp) ?_ ?_
 ·rintro _ _ ⟨e', a', h1, rfl⟩;rw [h1] at hF;exact pn ⟨e', a', hF.symm, rfl⟩
 rintro _ _ ⟨v1, ts1, at1, _, h1, hp1, ⟨rfl, rfl⟩, rfl⟩;rw [h1] at hF;dsimp only [R.bind] at hF;have hl1 : 1 + ts1.length ≤ ts.length := (zr (ts := ts)).2 _ _ h1;clear h1;refine vr 1 ?_;refine Sr 4 co3 .h1 .h6 ?_;refine lr 0 (z7 sg97 rfl hbx) ?_;refine Bs 0 sl38 fun b1 => ?_
 refine Cp cl79 rfl .k1 (fun m1 hm1 he => must58 (s := sSlash) (hw.mono (hm.trans hm1)) (Rd.blk (he _ (.head _))) (asc _ rfl) (by decide) hp1) ?_ ?_
 ·rintro _ _ ⟨e', a', h1, rfl⟩;rw [h1] at hF;exact pn ⟨e', a', hF.symm, rfl⟩
 rintro _ _ ⟨_, ts2, at2, _, h1, hp2, ⟨rfl, rfl⟩, rfl⟩;rw [h1] at hF;dsimp only [R.bind] at hF;have hl2 : 1 + ts2.length ≤ ts1.length := (zP (s := sSlash) (ts := ts1)).2 _ _ h1;clear h1;refine vr 4 ?_;refine lr 0 (z7 sg97 rfl hbx) ?_;refine Cp cl78 rfl .k0 (fun m1 hm1 he => number57 (hw.mono (hm.trans hm1)) hp2) ?_ ?_
 ·rintro _ _ ⟨e', a', h1, rfl⟩;rw [h1] at hF;exact pn ⟨e', a', hF.symm, rfl⟩
 rintro _ _ ⟨v2, ts3, at3, _, h1, hp3, ⟨rfl, rfl⟩, rfl⟩;rw [h1] at hF;dsimp only [R.bind] at hF;have hl3 : 1 + ts3.length ≤ ts2.length := (zr (ts := ts2)).2 _ _ h1;clear h1;refine vr 1 ?_;refine Sr 3 co3 .h2 .h7 ?_;refine lr 0 (z7 sg97 rfl hbx) ?_;refine Bs 0 sl38 fun b3 => ?_
 refine Cp cl79 rfl .k1 (fun m1 hm1 he => must58 (s := sSemi) (hw.mono (hm.trans hm1)) (Rd.blk (he _ (.head _))) (asc _ rfl) (by decide) hp3) ?_ ?_
 ·rintro _ _ ⟨e', a', h1, rfl⟩;rw [h1] at hF;skip;exact pn ⟨e', a', hF.symm, rfl⟩
 rintro _ _ ⟨_, ts4, at4, _, h1, hp4, ⟨rfl, rfl⟩, rfl⟩;rw [h1] at hF;dsimp only [R.bind] at hF;have hl4 : 1 + ts4.length ≤ ts3.length := (zP (s := sSemi) (ts := ts3)).2 _ _ h1;clear h1;refine vr 1 ?_
 exact yi [] trivial _ (.cons .here (Pick.pack2 (a := cel b4 (CardC.v q { x with apow := v1, aheal := v2 }) 48) (b := o) (.cons .h2 .p2))) ⟨{ x with apow := v1, aheal := v2 }, ts4, at4, cardWt x, _, hF.symm, hp4, by omega, by omega, ⟨q, o, rfl, hes, rfl, hnm, fun h => h1 (nin h), fun h => h2 (nin h), fun h => h3 (nin h)⟩, rfl, rfl⟩
theorem rule65 {b2 b4 n : Nat} {seen : List (List UInt8)} (hbox : Wc m ⟨b2, 0, none⟩ (ptr b)) (hw : WsR m A ws) : RuC m b A c ws 86 [ptr b2, ptr b4] (cardRead n sShield) (CdI b4 seen) (CdI b4 (seen ++ [sShield])) n := by
 rintro m' hm x e at_ p ts ⟨q, o, rfl, hes, rfl, hnm, h1, h2, h3⟩ hp hb hn;generalize hF : cardRead n sShield x ts = F;unfold cardRead at hF;rw [if_neg (by decide), if_neg (by decide), if_neg (by decide), if_neg (by decide)] at hF;have hbx := hbox.mono hm;clear hbox;refine z6 [] Tryz.func86 rfl rfl rfl ?_;refine xB _ Pick.unpack2 ?_;refine tr 2 ?_;refine lr 0 (z7 sg97 rfl hbx) ?_
 refine Cp cl78 rfl .k0 (fun m1 hm1 he => number57 (hw.mono (hm.trans hm1)) hp) ?_ ?_
 ·rintro _ _ ⟨e', a', h1, rfl⟩;rw [h1] at hF;exact pn ⟨e', a', hF.symm, rfl⟩
 rintro _ _ ⟨v1, ts1, at1, _, h1, hp1, ⟨rfl, rfl⟩, rfl⟩;rw [h1] at hF;dsimp only [R.bind] at hF;have hl1 : 1 + ts1.length ≤ ts.length := (zr (ts := ts)).2 _ _ h1;clear h1;refine vr 1 ?_;refine Sr 3 co3 .h1 .h5 ?_;refine lr 0 (z7 sg97 rfl hbx) ?_;refine Bs 0 sl38 fun b1 => ?_
 refine Cp cl79 rfl .k1 (fun m1 hm1 he => must58 (s := sSemi) (hw.mono (hm.trans hm1)) (Rd.blk (he _ (.head _))) (asc _ rfl) (by decide) hp1) ?_ ?_
 ·rintro _ _ ⟨e', a', h1, rfl⟩;rw [h1] at hF;skip;exact pn ⟨e', a', hF.symm, rfl⟩
 rintro _ _ ⟨_, ts2, at2, _, h1, hp2, ⟨rfl, rfl⟩, rfl⟩;rw [h1] at hF;dsimp only [R.bind] at hF;have hl2 : 1 + ts2.length ≤ ts1.length := (zP (s := sSemi) (ts := ts1)).2 _ _ h1;clear h1;refine vr 1 ?_
 exact yi [] trivial _ (.cons .here (Pick.pack2 (a := cel b4 (CardC.v q { x with shield := v1 }) 48) (b := o) (.cons .h1 .p1))) ⟨{ x with shield := v1 }, ts2, at2, cardWt x, _, hF.symm, hp2, by omega, by omega, ⟨q, o, rfl, hes, rfl, hnm, fun h => h1 (nin h), fun h => h2 (nin h), fun h => h3 (nin h)⟩, rfl, rfl⟩
end
section
open Wd Tp Kd
theorem jU {P : Program} {rs : List ResultVar} {env : Env} {m m2 : Mp} {L : List Ent} {post ppost : Value → List Ent → Prop} (hl : Le m m2) (vs : List Value) (hv : RvsS P env L rs vs) (L' : List Ent) (hp : Pick L L') (hq : post (tup vs) L') : QS (retP P rs (postS m post) (postS m ppost)) .ret env m2 L :=
 fun h hs => ⟨vs, hv.ok hs, L', hq, (hp m2 h hs).weaken hl⟩
abbrev cardRules (q : List Value) : List (List UInt8 × FuncId × List Value) := [(sPlayed, 81, q), (sDead, 83, q), (sDawn, 84, q), (sAura, 85, q), (sShield, 86, q)]
abbrev clo (f : FuncId) (q : List Value) : Value := .func (.func f) [].toArray q.toArray
theorem cardM (q : List Value) : putM (putM (putM (putM (putM [] sPlayed (clo 81 q)) sDead (clo 83 q)) sDawn (clo 84 q)) sAura (clo 85 q)) sShield (clo 86 q) = ruM (cardRules q) := rfl
theorem cardCl {q : List Value} : ∀ k ∈ cardRules q, callable Tryz.prog k.2.1 = true := fun k hk => by
 simp only [cardRules, List.mem_cons, List.not_mem_nil, or_false] at hk;rcases hk with rfl | rfl | rfl | rfl | rfl
 ·exact cl81
 ·exact cl83
 ·exact cl84
 ·exact cl85
 ·exact cl86
variable {m : Mp} {b c at_ d p : Nat} {A : Option Addr} {ws ts : List Wrd}
theorem cardRs {b2 b4 n : Nat} (hbox : Wc m ⟨b2, 0, none⟩ (ptr b)) (hT : Tabs m) (hw : WsR m A ws) (hcap : ws.length ≤ c) : ∀ k ∈ cardRules [ptr b2, ptr b4], ∀ seen, k.1 ∉ seen → RuC m b A c ws k.2.1 k.2.2 (cardRead n k.1) (CdI b4 seen) (CdI b4 (seen ++ [k.1])) n := fun k hk seen hs => by
 simp only [cardRules, List.mem_cons, List.not_mem_nil, or_false] at hk;rcases hk with rfl | rfl | rfl | rfl | rfl
 ·exact rule60 hbox hT hw hcap hs
 ·exact rule62 hbox hT hw hcap hs
 ·exact rule63 hbox hT hw hcap hs
 ·exact rule64 hbox hw
 ·exact rule65 hbox hw
theorem CdI.pw {b4 : Nat} : ∀ (seen : List (List UInt8)) (x : CardT) (p : Nat) (e : Ent), CdI b4 seen x p e → (200 < p ↔ 200 < cardWt x) := by
 rintro seen x p e ⟨q, o, -, -, rfl, -⟩;exact Iff.rfl
theorem card20 {n : Nat} {at0 : Int} (hT : Tabs m) (hw : WsR m A ws) (hcap : ws.length ≤ c) (hp : Pos ws at_ ts) (hn : ts.length < n) : CSP Tryz.prog 52 [ptr b, .int .i64 at0] m [rd b A c ws at_ 0 p]
  (fun v L' => ∃ x ts' at' p' q e, pCard cardWt n at0 ts = .ok x ts' ∧ Pos ws at' ts' ∧ p' ≤ 200 ∧ v = .agg (CardC.v q x).toArray ∧ L' = [rd b A c ws at' 0 p', e] ∧ x.name.length ≤ 65536 ∧ cardWt x ≤ 200 ∧ ∀ ns, e.inv ns → EffsR ns q.A x.played.length x.played ∧ EffsR ns q.B x.dead.length x.dead ∧ EffsR ns q.D x.dawn.length x.dawn)
  (fun v _ => ∃ e a, pCard cardWt n at0 ts = .bad e a ∧ v = fltV e a) := by
 generalize hF : pCard cardWt n at0 ts = F;unfold pCard at hF;have hsm := hp.small;have hlen := hp.len;refine z6 [.cell 4 48] Tryz.func52 rfl rfl rfl ?_;refine tr 2 ?_;refine Bx 0 rfl fun b1 => ?_;refine Al 5 zl48 fun b2 => ?_;refine Lb 0 sg97 .h1 ?_;refine Cp cl76 rfl .k2 (fun m' hm he => name55 (hT.mono hm) (hw.mono hm) hp) ?_ ?_
 ·rintro _ _ ⟨e', a', h1, rfl⟩;rw [h1] at hF;exact pn ⟨e', a', hF.symm, rfl⟩
 rintro _ _ ⟨s, ts1, at1, _, h1, hp1, ⟨rfl, rfl⟩, rfl⟩;rw [h1] at hF;dsimp only [R.bind] at hF;have hl1 : 1 + ts1.length ≤ ts.length := (yg (ts := ts)).2 _ _ h1;have hs5 := wb hp h1;clear h1;refine vr 1 ?_;refine Sr 1 co3 .h1 .h11 ?_;refine Sr 5 co9 .h1 .here ?_;refine Lb 0 sg97 .h2 ?_
 refine C1 cl77 rfl .here (fun m' hm he => take56 (s := sUnit) (hw.mono hm) hp1 (asc _ rfl) (by decide)) ?_;rintro _ _ (⟨hk, hp2, rfl, rfl⟩ | ⟨hk, rfl, rfl⟩)
 ·have hlk := zh hk;rw [if_pos hk] at hF;refine vr 6 ?_;refine Sr 4 co4 .h1 .h1 ?_;refine Lb 0 sg97 .h2 ?_;refine Cp cl78 rfl .k0 (fun m' hm he => number57 (hw.mono hm) hp2) ?_ ?_
  ·rintro _ _ ⟨e', a', h1, rfl⟩;rw [h1] at hF;exact pn ⟨e', a', hF.symm, rfl⟩
  rintro _ _ ⟨vc, ts2, at2, _, h1, hp3, ⟨rfl, rfl⟩, rfl⟩;rw [h1] at hF;dsimp only [R.bind] at hF;have hl3 : 1 + ts2.length ≤ ts1.tail.length := (zr (ts := ts1.tail)).2 _ _ h1;clear h1;refine vr 1 ?_;refine Sr 4 co3 .h1 .h2 ?_;refine Lb 0 sg97 .h2 ?_;refine Cp cl78 rfl .k0 (fun m' hm he => number57 (hw.mono hm) hp3) ?_ ?_
  ·rintro _ _ ⟨e', a', h1, rfl⟩;rw [h1] at hF;exact pn ⟨e', a', hF.symm, rfl⟩
  rintro _ _ ⟨vp, ts3, at3, _, h1, hp4, ⟨rfl, rfl⟩, rfl⟩;rw [h1] at hF;dsimp only [R.bind] at hF;have hl4 : 1 + ts3.length ≤ ts2.length := (zr (ts := ts2)).2 _ _ h1;clear h1;refine vr 1 ?_;refine Sr 4 co3 .h1 .h3 ?_;refine Lb 0 sg97 .h2 ?_;refine Bs 0 sl38 fun b3 => ?_
  refine Cp cl79 rfl .k1 (fun m' hm he => must58 (s := sSlash) (hw.mono hm) (Rd.blk (he _ (.head _))) (asc _ rfl) (by decide) hp4) ?_ ?_
  ·rintro _ _ ⟨e', a', h1, rfl⟩;rw [h1] at hF;exact pn ⟨e', a', hF.symm, rfl⟩
  rintro _ _ ⟨_, ts4, at4, _, h1, hp5, ⟨rfl, rfl⟩, rfl⟩;rw [h1] at hF;dsimp only [R.bind] at hF;have hl5 : 1 + ts4.length ≤ ts3.length := (zP (s := sSlash) (ts := ts3)).2 _ _ h1;clear h1;refine vr 3 ?_;refine Lb 0 sg97 .h3 ?_;refine Cp cl78 rfl .k0 (fun m' hm he => number57 (hw.mono hm) hp5) ?_ ?_
  ·rintro _ _ ⟨e', a', h1, rfl⟩;rw [h1] at hF;exact pn ⟨e', a', hF.symm, rfl⟩
  rintro _ _ ⟨vh, ts5, at5, _, h1, hp6, ⟨rfl, rfl⟩, rfl⟩;rw [h1] at hF;dsimp only [R.bind] at hF;have hl6 : 1 + ts5.length ≤ ts4.length := (zr (ts := ts4)).2 _ _ h1;clear h1;refine vr 1 ?_;refine Sr 4 co3 .h2 .h4 ?_;refine Lb 2 sg97 .h3 ?_;refine Sr 4 co3 .here .h3 ?_;refine Lb 0 sg97 .h3 ?_;refine zE (xC rfl (fun b4 => ?_)) rfl;refine vr 1 ?_
  refine zE (yV (k := sPlayed) ms141 rfl rfl rfl .here ?_) rfl;refine vr 1 ?_;refine zE (yV (k := sDead) ms141 rfl rfl rfl .here ?_) rfl;refine vr 1 ?_;refine zE (yV (k := sDawn) ms141 rfl rfl rfl .here ?_) rfl;refine vr 1 ?_;refine zE (yV (k := sAura) ms141 rfl rfl rfl .here ?_) rfl;refine vr 1 ?_
  refine zE (yV (k := sShield) ms141 rfl rfl rfl .here ?_) rfl;refine vr 1 ?_;refine vk .here (fun ns1 hi1 _ hd1 => ?_);refine vk .h3 (fun ns2 hi2 _ hd2 => ?_);have hM : MapAt (uni (uni m ns1) ns2) b4 (ruM (cardRules [ptr b1, ptr b2])) := (show MapAt ns1 b4 (ruM (cardRules [ptr b1, ptr b2])) by rw [← cardM]; exact hi1).mono ((yU hd1).trans (yL _ _))
  have hbx : Wc (uni (uni m ns1) ns2) ⟨b1, 0, none⟩ (ptr b) := (Wc.cel (e := 97) hi2 rfl).mono (yU hd2);have hl2 : Le m (uni (uni m ns1) ns2) := (yL _ _).trans (yL _ _);clear hi1 hi2 hd1 hd2
  refine qk [rd b A c ws at5 0 0, pack [cel b2 (CardC.v ⟨none, 0, none, 0, none, 0⟩ ⟨s, true, vc, vp, vh, 0, 0, 0, [], [], [], at0⟩) 48, pack []]] (.cons .here (Pick.pack2 (.cons .h1 (Pick.nilE (.nil _))))) ?_
  refine Cp cl80 rfl (.cons .here .k0) (fun m' hm he => rules59 (n := n) (parts := cardWt) (read := cardRead n) (I := CdI b2) (hM.mono hm) cardCl (cardRs (hbx.mono hm) (hT.mono (hl2.trans hm)) (hw.mono (hl2.trans hm)) hcap) CdI.pw ⟨⟨none, 0, none, 0, none, 0⟩, pack [], rfl, fun ns _ => ⟨EffsR.z _, EffsR.z _, EffsR.z _⟩, rfl, hs5, fun _ => rfl, fun _ => rfl, fun _ => rfl⟩ (hw.mono (hl2.trans hm)) hp6 (by have := hp6.len; omega) (by omega)) ?_ ?_
  ·rintro _ _ ⟨e', a', h1, rfl⟩;exact pW hl2 ⟨e', a', hF.symm.trans h1, rfl⟩
  rintro _ _ ⟨x, ts9, at9, p9, e9, seen, h1, hp9, h200, ⟨q, o, rfl, hes, rfl, hnm, -, -, -⟩, rfl, rfl⟩;refine qk _ Pick.unpack2 ?_;refine vr 4 ?_;refine Lc 0 ag48 .h1 ?_;refine Sg 3 ag48 .h1 ?_;exact jU hl2 [_] ⟨⟨b2, _, _, _, rfl, .h1, .inr ⟨rfl, rfl⟩⟩, trivial⟩ _ (.cons .here .p1) ⟨x, ts9, at9, _, q, o, hF.symm.trans h1, hp9, h200, rfl, rfl, hnm, h200, hes⟩
 rw [if_neg (by rw [hk]; decide)] at hF;refine vr 5 ?_;refine Lb 0 sg97 .h2 ?_;refine Bs 0 sl38 fun b3 => ?_;refine Cp cl79 rfl .k1 (fun m' hm he => must58 (s := sCharm) (hw.mono hm) (Rd.blk (he _ (.head _))) (asc _ rfl) (by decide) hp1) ?_ ?_
 ·rintro _ _ ⟨e', a', h1, rfl⟩;rw [h1] at hF;exact pn ⟨e', a', hF.symm, rfl⟩
 rintro _ _ ⟨_, ts2, at2, _, h1, hp2, ⟨rfl, rfl⟩, rfl⟩;rw [h1] at hF;dsimp only [R.bind] at hF;have hl2 : 1 + ts2.length ≤ ts1.length := (zP (s := sCharm) (ts := ts1)).2 _ _ h1;clear h1;refine vr 3 ?_;refine Lb 0 sg97 .h3 ?_;refine Cp cl78 rfl .k0 (fun m' hm he => number57 (hw.mono hm) hp2) ?_ ?_
 ·rintro _ _ ⟨e', a', h1, rfl⟩;rw [h1] at hF;exact pn ⟨e', a', hF.symm, rfl⟩
 rintro _ _ ⟨vc, ts3, at3, _, h1, hp3, ⟨rfl, rfl⟩, rfl⟩;rw [h1] at hF;dsimp only [R.bind] at hF;have hl3 : 1 + ts3.length ≤ ts2.length := (zr (ts := ts2)).2 _ _ h1;clear h1;refine vr 1 ?_;refine Sr 4 co3 .h2 .h2 ?_;refine Lb 2 sg97 .h3 ?_;refine Sr 4 co3 .here .h3 ?_;refine Lb 0 sg97 .h3 ?_;refine zE (xC rfl (fun b4 => ?_)) rfl;refine vr 1 ?_
 refine zE (yV (k := sPlayed) ms141 rfl rfl rfl .here ?_) rfl;refine vr 1 ?_;refine zE (yV (k := sDead) ms141 rfl rfl rfl .here ?_) rfl;refine vr 1 ?_;refine zE (yV (k := sDawn) ms141 rfl rfl rfl .here ?_) rfl;refine vr 1 ?_;refine zE (yV (k := sAura) ms141 rfl rfl rfl .here ?_) rfl;refine vr 1 ?_
 refine zE (yV (k := sShield) ms141 rfl rfl rfl .here ?_) rfl;refine vr 1 ?_;refine vk .here (fun ns1 hi1 _ hd1 => ?_);refine vk .h3 (fun ns2 hi2 _ hd2 => ?_);have hM : MapAt (uni (uni m ns1) ns2) b4 (ruM (cardRules [ptr b1, ptr b2])) := (show MapAt ns1 b4 (ruM (cardRules [ptr b1, ptr b2])) by rw [← cardM]; exact hi1).mono ((yU hd1).trans (yL _ _))
 have hbx : Wc (uni (uni m ns1) ns2) ⟨b1, 0, none⟩ (ptr b) := (Wc.cel (e := 97) hi2 rfl).mono (yU hd2);have hl2 : Le m (uni (uni m ns1) ns2) := (yL _ _).trans (yL _ _);clear hi1 hi2 hd1 hd2
 refine qk [rd b A c ws at3 0 0, pack [cel b2 (CardC.v ⟨none, 0, none, 0, none, 0⟩ ⟨s, false, vc, 0, 0, 0, 0, 0, [], [], [], at0⟩) 48, pack []]] (.cons .here (Pick.pack2 (.cons .h1 (Pick.nilE (.nil _))))) ?_
 refine Cp cl80 rfl (.cons .here .k0) (fun m' hm he => rules59 (n := n) (parts := cardWt) (read := cardRead n) (I := CdI b2) (hM.mono hm) cardCl (cardRs (hbx.mono hm) (hT.mono (hl2.trans hm)) (hw.mono (hl2.trans hm)) hcap) CdI.pw ⟨⟨none, 0, none, 0, none, 0⟩, pack [], rfl, fun ns _ => ⟨EffsR.z _, EffsR.z _, EffsR.z _⟩, rfl, hs5, fun _ => rfl, fun _ => rfl, fun _ => rfl⟩ (hw.mono (hl2.trans hm)) hp3 (by have := hp3.len; omega) (by omega)) ?_ ?_
 ·rintro _ _ ⟨e', a', h1, rfl⟩;exact pW hl2 ⟨e', a', hF.symm.trans h1, rfl⟩
 rintro _ _ ⟨x, ts9, at9, p9, e9, seen, h1, hp9, h200, ⟨q, o, rfl, hes, rfl, hnm, -, -, -⟩, rfl, rfl⟩;refine qk _ Pick.unpack2 ?_;refine vr 4 ?_;refine Lc 0 ag48 .h1 ?_;refine Sg 3 ag48 .h1 ?_;exact jU hl2 [_] ⟨⟨b2, _, _, _, rfl, .h1, .inr ⟨rfl, rfl⟩⟩, trivial⟩ _ (.cons .here .p1) ⟨x, ts9, at9, _, q, o, hF.symm.trans h1, hp9, h200, rfl, rfl, hnm, h200, hes⟩
end
section
open Wd Tp Kd
variable {m : Mp} {b c at_ d p : Nat} {A : Option Addr} {ws ts : List Wrd}
structure FmtC where
 A : Option Addr
 ca : Nat
 B : Option Addr
 cb : Nat
abbrev FmtC.v (q : FmtC) (x : FmtT) : List Value := [.string (bs x.name), .int .i64 x.least, .int .i64 x.most, .int .i64 x.copies, .slice q.A x.banned.length q.ca, .slice q.B x.single.length q.cb, .int .i64 x.at_]
structure FmtOk (x : FmtT) : Prop where
 name : x.name.length ≤ 65536
 ban : x.banned.length ≤ 65537
 bans : ∀ s ∈ x.banned, s.length ≤ 65536
 sin : x.single.length ≤ 65537
 sins : ∀ s ∈ x.single, s.length ≤ 65536
def FmtQ (m : Mp) (vs : List Value) (x : FmtT) : Prop := ∃ q : FmtC, vs = q.v x ∧ FmtOk x ∧ RdN m q.A q.ca x.banned ∧ RdN m q.B q.cb x.single
theorem FmtQ.mono {m m' : Mp} {vs : List Value} {x : FmtT} (h : FmtQ m vs x) (hl : Le m m') : FmtQ m' vs x := by
 obtain ⟨q, h1, h2, h3, h4⟩ := h;exact ⟨q, h1, h2, h3.mono hl, h4.mono hl⟩
def FmI (b4 : Nat) (_ : List (List UInt8)) (x : FmtT) (p : Nat) (e : Ent) : Prop := ∃ (q : FmtC) (o : Ent), e = pack [cel b4 (q.v x) 40, o] ∧ (∀ ns, o.inv ns → RdN ns q.A q.ca x.banned ∧ RdN ns q.B q.cb x.single) ∧ p = 0 ∧ FmtOk x
theorem FmI.pw {b4 : Nat} : ∀ (seen : List (List UInt8)) (x : FmtT) (p : Nat) (e : Ent), FmI b4 seen x p e → (200 < p ↔ 200 < (fun _ : FmtT => 0) x) := by
 rintro seen x p e ⟨q, o, -, -, rfl, -⟩;exact Iff.rfl
theorem mk66 {bF off bX : Nat} : CS Tryz.prog 87 [.pointer (some ⟨bF, off, none⟩), ptr bX] m [] (fun u L' => ∃ k, u = clo 88 [ptr bX, ptr k] ∧ L' = [cel k [.pointer (some ⟨bF, off, none⟩)] 142]) := by
 refine zl [.tmp 3] Tryz.func87 rfl rfl rfl ?_;refine tr 2 ?_;refine Bx 10 rfl fun b1 => ?_;exact zb [_] ⟨rfl, trivial⟩ _ .p0 ⟨b1, rfl, rfl⟩
theorem mk68 {bF off bX : Nat} : CS Tryz.prog 89 [.pointer (some ⟨bF, off, none⟩), ptr bX] m [] (fun u L' => ∃ k, u = clo 90 [ptr bX, ptr k] ∧ L' = [cel k [.pointer (some ⟨bF, off, none⟩)] 144]) := by
 refine zl [.tmp 3] Tryz.func89 rfl rfl rfl ?_;refine tr 2 ?_;refine Bx 10 rfl fun b1 => ?_;exact zb [_] ⟨rfl, trivial⟩ _ .p0 ⟨b1, rfl, rfl⟩
theorem Xm {bX bK bF n : Nat} {seen : List (List UInt8)} (hbox : Wc m ⟨bX, 0, none⟩ (ptr b)) (hfld : Wc m ⟨bK, 0, none⟩ (.pointer (some ⟨bF, 1, none⟩))) (hw : WsR m A ws) : RuC m b A c ws 88 [ptr bX, ptr bK] (fmtRead n sLeast) (FmI bF seen) (FmI bF (seen ++ [sLeast])) n := by
 rintro m' hm x e at_ p ts ⟨q, o, rfl, hes, rfl, hok⟩ hp hb hn;generalize hF : fmtRead n sLeast x ts = F;unfold fmtRead at hF;rw [if_pos rfl] at hF;have hbx := hbox.mono hm;have hfx := hfld.mono hm;clear hbox hfld;refine z6 [] Tryz.func88 rfl rfl rfl ?_;refine xB _ Pick.unpack2 ?_;skip;refine tr 1 ?_;refine Db (sq [0, 1, 102, 3, 104] .done) ?_;refine Vr 0 rfl (z7 sg142 rfl hfx) ?_
 refine Vr 0 rfl (z7 sg97 rfl hbx) ?_;refine zk rfl (yZ cl78 rfl .k0 (fun m1 hm1 he => number57 (hw.mono (hm.trans hm1)) hp) rfl ?_ ?_) rfl
 ·rintro _ _ ⟨e', a', h1, rfl⟩;rw [h1] at hF;exact pn ⟨e', a', hF.symm, rfl⟩
 rintro _ _ ⟨v1, ts1, at1, _, h1, hp1, ⟨rfl, rfl⟩, rfl⟩;rw [h1] at hF;dsimp only [R.bind] at hF;have hl1 : 1 + ts1.length ≤ ts.length := (zr (ts := ts)).2 _ _ h1;clear h1;refine vB 1 ?_;refine zk rfl (yd co3 rfl rfl rfl .h1 .h1 ?_) rfl;refine Vn 2 ?_;refine lr 0 (z7 sg97 rfl hbx) ?_;refine Bs 0 sl38 fun b1 => ?_
 refine Cp cl79 rfl .k1 (fun m1 hm1 he => must58 (s := sSemi) (hw.mono (hm.trans hm1)) (Rd.blk (he _ (.head _))) (asc _ rfl) (by decide) hp1) ?_ ?_
 ·rintro _ _ ⟨e', a', h1, rfl⟩;rw [h1] at hF;skip;exact pn ⟨e', a', hF.symm, rfl⟩
 rintro _ _ ⟨_, ts2, at2, _, h1, hp2, ⟨rfl, rfl⟩, rfl⟩;rw [h1] at hF;dsimp only [R.bind] at hF;have hl2 : 1 + ts2.length ≤ ts1.length := (zP (s := sSemi) (ts := ts1)).2 _ _ h1;clear h1;refine vr 1 ?_
 exact yi [] trivial _ (.cons .here (Pick.pack2 (a := cel bF (FmtC.v q { x with least := v1 }) 40) (b := o) (.cons .h1 .p1))) ⟨{ x with least := v1 }, ts2, at2, 0, _, hF.symm, hp2, by omega, by omega, ⟨q, o, rfl, hes, rfl, ⟨hok.name, hok.ban, hok.bans, hok.sin, hok.sins⟩⟩, rfl, rfl⟩
theorem Xl {bX bK bF n : Nat} {seen : List (List UInt8)} (hbox : Wc m ⟨bX, 0, none⟩ (ptr b)) (hfld : Wc m ⟨bK, 0, none⟩ (.pointer (some ⟨bF, 2, none⟩))) (hw : WsR m A ws) : RuC m b A c ws 88 [ptr bX, ptr bK] (fmtRead n sMost) (FmI bF seen) (FmI bF (seen ++ [sMost])) n := by
 rintro m' hm x e at_ p ts ⟨q, o, rfl, hes, rfl, hok⟩ hp hb hn;generalize hF : fmtRead n sMost x ts = F;unfold fmtRead at hF;rw [if_neg (by decide), if_pos rfl] at hF;have hbx := hbox.mono hm;have hfx := hfld.mono hm;clear hbox hfld;refine z6 [] Tryz.func88 rfl rfl rfl ?_;refine xB _ Pick.unpack2 ?_;skip;refine tr 1 ?_;refine Db (sq [0, 1, 102, 3, 104] .done) ?_
 refine Vr 0 rfl (z7 sg142 rfl hfx) ?_;refine Vr 0 rfl (z7 sg97 rfl hbx) ?_;refine zk rfl (yZ cl78 rfl .k0 (fun m1 hm1 he => number57 (hw.mono (hm.trans hm1)) hp) rfl ?_ ?_) rfl
 ·rintro _ _ ⟨e', a', h1, rfl⟩;rw [h1] at hF;exact pn ⟨e', a', hF.symm, rfl⟩
 rintro _ _ ⟨v1, ts1, at1, _, h1, hp1, ⟨rfl, rfl⟩, rfl⟩;rw [h1] at hF;dsimp only [R.bind] at hF;have hl1 : 1 + ts1.length ≤ ts.length := (zr (ts := ts)).2 _ _ h1;clear h1;refine vB 1 ?_;refine zk rfl (yd co3 rfl rfl rfl .h1 .h2 ?_) rfl;refine Vn 2 ?_;refine lr 0 (z7 sg97 rfl hbx) ?_;refine Bs 0 sl38 fun b1 => ?_
 refine Cp cl79 rfl .k1 (fun m1 hm1 he => must58 (s := sSemi) (hw.mono (hm.trans hm1)) (Rd.blk (he _ (.head _))) (asc _ rfl) (by decide) hp1) ?_ ?_
 ·rintro _ _ ⟨e', a', h1, rfl⟩;rw [h1] at hF;skip;exact pn ⟨e', a', hF.symm, rfl⟩
 rintro _ _ ⟨_, ts2, at2, _, h1, hp2, ⟨rfl, rfl⟩, rfl⟩;rw [h1] at hF;dsimp only [R.bind] at hF;have hl2 : 1 + ts2.length ≤ ts1.length := (zP (s := sSemi) (ts := ts1)).2 _ _ h1;clear h1;refine vr 1 ?_
 exact yi [] trivial _ (.cons .here (Pick.pack2 (a := cel bF (FmtC.v q { x with most := v1 }) 40) (b := o) (.cons .h1 .p1))) ⟨{ x with most := v1 }, ts2, at2, 0, _, hF.symm, hp2, by omega, by omega, ⟨q, o, rfl, hes, rfl, ⟨hok.name, hok.ban, hok.bans, hok.sin, hok.sins⟩⟩, rfl, rfl⟩
theorem Xk {bX bK bF n : Nat} {seen : List (List UInt8)} (hbox : Wc m ⟨bX, 0, none⟩ (ptr b)) (hfld : Wc m ⟨bK, 0, none⟩ (.pointer (some ⟨bF, 3, none⟩))) (hw : WsR m A ws) : RuC m b A c ws 88 [ptr bX, ptr bK] (fmtRead n sCopies) (FmI bF seen) (FmI bF (seen ++ [sCopies])) n := by
 rintro m' hm x e at_ p ts ⟨q, o, rfl, hes, rfl, hok⟩ hp hb hn;generalize hF : fmtRead n sCopies x ts = F;unfold fmtRead at hF;rw [if_neg (by decide), if_neg (by decide), if_pos rfl] at hF;have hbx := hbox.mono hm;have hfx := hfld.mono hm;clear hbox hfld;refine z6 [] Tryz.func88 rfl rfl rfl ?_;refine xB _ Pick.unpack2 ?_;skip;refine tr 1 ?_;refine Db (sq [0, 1, 102, 3, 104] .done) ?_
 refine Vr 0 rfl (z7 sg142 rfl hfx) ?_;refine Vr 0 rfl (z7 sg97 rfl hbx) ?_;refine zk rfl (yZ cl78 rfl .k0 (fun m1 hm1 he => number57 (hw.mono (hm.trans hm1)) hp) rfl ?_ ?_) rfl
 ·rintro _ _ ⟨e', a', h1, rfl⟩;rw [h1] at hF;exact pn ⟨e', a', hF.symm, rfl⟩
 rintro _ _ ⟨v1, ts1, at1, _, h1, hp1, ⟨rfl, rfl⟩, rfl⟩;rw [h1] at hF;dsimp only [R.bind] at hF;have hl1 : 1 + ts1.length ≤ ts.length := (zr (ts := ts)).2 _ _ h1;clear h1;refine vB 1 ?_;refine zk rfl (yd co3 rfl rfl rfl .h1 .h3 ?_) rfl;refine Vn 2 ?_;refine lr 0 (z7 sg97 rfl hbx) ?_;refine Bs 0 sl38 fun b1 => ?_
 refine Cp cl79 rfl .k1 (fun m1 hm1 he => must58 (s := sSemi) (hw.mono (hm.trans hm1)) (Rd.blk (he _ (.head _))) (asc _ rfl) (by decide) hp1) ?_ ?_
 ·rintro _ _ ⟨e', a', h1, rfl⟩;rw [h1] at hF;skip;exact pn ⟨e', a', hF.symm, rfl⟩
 rintro _ _ ⟨_, ts2, at2, _, h1, hp2, ⟨rfl, rfl⟩, rfl⟩;rw [h1] at hF;dsimp only [R.bind] at hF;have hl2 : 1 + ts2.length ≤ ts1.length := (zP (s := sSemi) (ts := ts1)).2 _ _ h1;clear h1;refine vr 1 ?_
 exact yi [] trivial _ (.cons .here (Pick.pack2 (a := cel bF (FmtC.v q { x with copies := v1 }) 40) (b := o) (.cons .h1 .p1))) ⟨{ x with copies := v1 }, ts2, at2, 0, _, hF.symm, hp2, by omega, by omega, ⟨q, o, rfl, hes, rfl, ⟨hok.name, hok.ban, hok.bans, hok.sin, hok.sins⟩⟩, rfl, rfl⟩
theorem Xj {bX bK bF n : Nat} {seen : List (List UInt8)} (hbox : Wc m ⟨bX, 0, none⟩ (ptr b)) (hfld : Wc m ⟨bK, 0, none⟩ (.pointer (some ⟨bF, 4, none⟩))) (hT : Tabs m) (hw : WsR m A ws) : RuC m b A c ws 90 [ptr bX, ptr bK] (fmtRead n sBanned) (FmI bF seen) (FmI bF (seen ++ [sBanned])) n := by
 rintro m' hm x e at_ p ts ⟨q, o, rfl, hes, rfl, hok⟩ hp hb hn;generalize hF : fmtRead n sBanned x ts = F;unfold fmtRead at hF;rw [if_neg (by decide), if_neg (by decide), if_neg (by decide), if_pos rfl] at hF;have hbx := hbox.mono hm;have hfx := hfld.mono hm;clear hbox hfld;refine z6 [] Tryz.func90 rfl rfl rfl ?_;refine xB _ Pick.unpack2 ?_;skip;refine tr 1 ?_
 refine Db (sq [0, 1, 102, 3, 104] .done) ?_;refine Vr 0 rfl (z7 sg144 rfl hfx) ?_;refine Vr 0 rfl (z7 sg97 rfl hbx) ?_;refine zk rfl (yZ cl91 rfl .k0 (fun m1 hm1 he => names70 (hT.mono (hm.trans hm1)) (hw.mono (hm.trans hm1)) hp hn) rfl ?_ ?_) rfl
 ·rintro _ _ ⟨e', a', h1, rfl⟩;rw [h1] at hF;exact pn ⟨e', a', hF.symm, rfl⟩
 rintro _ _ ⟨v1, ts1, at1, _, h1, hp1, ⟨K, kc, ek, rfl, rfl, hnl, hns, hK⟩, rfl⟩;rw [h1] at hF;dsimp only [R.bind] at hF;have hl1 : ts1.length ≤ ts.length := by have h9 := (wE n [] ts hn).2 _ _ h1; omega
 clear h1;refine vB 1 ?_;refine zk rfl (yd co38 rfl rfl rfl .h2 .h4 ?_) rfl;refine Vn 2 ?_;refine lr 0 (z7 sg97 rfl hbx) ?_;refine Bs 0 sl38 fun b1 => ?_;refine Cp cl79 rfl .k1 (fun m1 hm1 he => must58 (s := sSemi) (hw.mono (hm.trans hm1)) (Rd.blk (he _ (.head _))) (asc _ rfl) (by decide) hp1) ?_ ?_
 ·rintro _ _ ⟨e', a', h1, rfl⟩;rw [h1] at hF;skip;exact pn ⟨e', a', hF.symm, rfl⟩
 rintro _ _ ⟨_, ts2, at2, _, h1, hp2, ⟨rfl, rfl⟩, rfl⟩;rw [h1] at hF;dsimp only [R.bind] at hF;have hl2 : 1 + ts2.length ≤ ts1.length := (zP (s := sSemi) (ts := ts1)).2 _ _ h1;clear h1;refine vr 1 ?_
 exact yi [] trivial _ (.cons .here (Pick.pack2 (a := cel bF (FmtC.v ⟨K, kc, q.B, q.cb⟩ { x with banned := v1 }) 40) (b := pack [o, ek]) (.cons .h2 (Pick.pack2 (.cons .h2 .p1))))) ⟨{ x with banned := v1 }, ts2, at2, 0, _, hF.symm, hp2, by omega, by omega, ⟨⟨K, kc, q.B, q.cb⟩, pack [o, ek], rfl, fun ns h => ⟨hK ns (h.1 _ (.tail _ (.head _))), (hes ns (h.1 _ (.head _))).2⟩, rfl, ⟨hok.name, hnl, hns, hok.sin, hok.sins⟩⟩, rfl, rfl⟩
theorem Xi {bX bK bF n : Nat} {seen : List (List UInt8)} (hbox : Wc m ⟨bX, 0, none⟩ (ptr b)) (hfld : Wc m ⟨bK, 0, none⟩ (.pointer (some ⟨bF, 5, none⟩))) (hT : Tabs m) (hw : WsR m A ws) : RuC m b A c ws 90 [ptr bX, ptr bK] (fmtRead n sSingle) (FmI bF seen) (FmI bF (seen ++ [sSingle])) n := by
 rintro m' hm x e at_ p ts ⟨q, o, rfl, hes, rfl, hok⟩ hp hb hn;generalize hF : fmtRead n sSingle x ts = F;unfold fmtRead at hF;rw [if_neg (by decide), if_neg (by decide), if_neg (by decide), if_neg (by decide)] at hF;have hbx := hbox.mono hm;have hfx := hfld.mono hm;clear hbox hfld;refine z6 [] Tryz.func90 rfl rfl rfl ?_;refine xB _ Pick.unpack2 ?_;skip;refine tr 1 ?_
 refine Db (sq [0, 1, 102, 3, 104] .done) ?_;refine Vr 0 rfl (z7 sg144 rfl hfx) ?_;refine Vr 0 rfl (z7 sg97 rfl hbx) ?_;refine zk rfl (yZ cl91 rfl .k0 (fun m1 hm1 he => names70 (hT.mono (hm.trans hm1)) (hw.mono (hm.trans hm1)) hp hn) rfl ?_ ?_) rfl
 ·rintro _ _ ⟨e', a', h1, rfl⟩;rw [h1] at hF;exact pn ⟨e', a', hF.symm, rfl⟩
 rintro _ _ ⟨v1, ts1, at1, _, h1, hp1, ⟨K, kc, ek, rfl, rfl, hnl, hns, hK⟩, rfl⟩;rw [h1] at hF;dsimp only [R.bind] at hF;have hl1 : ts1.length ≤ ts.length := by have h9 := (wE n [] ts hn).2 _ _ h1; omega
 clear h1;refine vB 1 ?_;refine zk rfl (yd co38 rfl rfl rfl .h2 .h5 ?_) rfl;refine Vn 2 ?_;refine lr 0 (z7 sg97 rfl hbx) ?_;refine Bs 0 sl38 fun b1 => ?_;refine Cp cl79 rfl .k1 (fun m1 hm1 he => must58 (s := sSemi) (hw.mono (hm.trans hm1)) (Rd.blk (he _ (.head _))) (asc _ rfl) (by decide) hp1) ?_ ?_
 ·rintro _ _ ⟨e', a', h1, rfl⟩;rw [h1] at hF;skip;exact pn ⟨e', a', hF.symm, rfl⟩
 rintro _ _ ⟨_, ts2, at2, _, h1, hp2, ⟨rfl, rfl⟩, rfl⟩;rw [h1] at hF;dsimp only [R.bind] at hF;have hl2 : 1 + ts2.length ≤ ts1.length := (zP (s := sSemi) (ts := ts1)).2 _ _ h1;clear h1;refine vr 1 ?_
 exact yi [] trivial _ (.cons .here (Pick.pack2 (a := cel bF (FmtC.v ⟨q.A, q.ca, K, kc⟩ { x with single := v1 }) 40) (b := pack [o, ek]) (.cons .h2 (Pick.pack2 (.cons .h2 .p1))))) ⟨{ x with single := v1 }, ts2, at2, 0, _, hF.symm, hp2, by omega, by omega, ⟨⟨q.A, q.ca, K, kc⟩, pack [o, ek], rfl, fun ns h => ⟨(hes ns (h.1 _ (.head _))).1, hK ns (h.1 _ (.tail _ (.head _)))⟩, rfl, ⟨hok.name, hok.ban, hok.bans, hnl, hns⟩⟩, rfl, rfl⟩
abbrev fmtKey : Nat → List UInt8
 | 0 => sLeast
 | 1 => sMost
 | 2 => sCopies
 | 3 => sBanned
 | _ => sSingle
abbrev fmtFn (j : Nat) : FuncId := if j < 3 then 88 else 90
abbrev fmtRu (bX : Nat) (β : Nat → Nat) (js : List Nat) : List (List UInt8 × FuncId × List Value) := js.map fun j => (fmtKey j, fmtFn j, [ptr bX, ptr (β j)])
theorem fmtCl {bX : Nat} {β : Nat → Nat} {js : List Nat} : ∀ k ∈ fmtRu bX β js, callable Tryz.prog k.2.1 = true := fun k hk => by
 obtain ⟨j, -, rfl⟩ := List.mem_map.1 hk;show callable Tryz.prog (if j < 3 then 88 else 90) = true
 split
 ·exact cl88
 ·exact cl90
theorem fmtRs {bX bF n : Nat} {β : Nat → Nat} {js : List Nat} (hjs : ∀ j ∈ js, j < 5) (hbox : Wc m ⟨bX, 0, none⟩ (ptr b)) (hf : ∀ j ∈ js, Wc m ⟨β j, 0, none⟩ (.pointer (some ⟨bF, j + 1, none⟩))) (hT : Tabs m) (hw : WsR m A ws) :
  ∀ k ∈ fmtRu bX β js, ∀ seen, k.1 ∉ seen → RuC m b A c ws k.2.1 k.2.2 (fmtRead n k.1) (FmI bF seen) (FmI bF (seen ++ [k.1])) n := fun k hk seen hs => by
 obtain ⟨j, hj, rfl⟩ := List.mem_map.1 hk;have h5 := hjs j hj;have hfj := hf j hj;clear hk hs hjs hf hj
 match j, h5 with
 | 0, _ => exact Xm hbox hfj hw
 | 1, _ => exact Xl hbox hfj hw
 | 2, _ => exact Xk hbox hfj hw
 | 3, _ => exact Xj hbox hfj hT hw
 | 4, _ => exact Xi hbox hfj hT hw
end
section
open Wd Tp Kd
noncomputable def drawsOf : Code → List (List Oper)
 | .seq a b => drawsOf a ++ drawsOf b
 | .block _ c => drawsOf c
 | .scope c => drawsOf c
 | .loop c => drawsOf c
 | .cond _ a b => drawsOf a ++ drawsOf b
 | .region _ l true => [l.toList]
 | _ => []
noncomputable def l21 : List Oper := ((Tryz.f53.body.map drawsOf).getD []).headD []
structure FSt where
 mm : Bool
 k : Nat
 b0 : Bool
 b1 : Bool
 b2 : Bool
 b3 : Bool
 b4 : Bool
 mv : Bool
 fin : Bool
def FSt.bit (s : FSt) : Nat → Bool
 | 0 => s.b0
 | 1 => s.b1
 | 2 => s.b2
 | 3 => s.b3
 | 4 => s.b4
 | _ => false
def FSt.lst (s : FSt) : Array Bool := #[true, s.mm, true, true, Nat.blt 0 s.k, s.b0, true, true, Nat.blt 1 s.k, s.b1, true, true, Nat.blt 2 s.k, s.b2, true, true, Nat.blt 3 s.k, s.b3, true, true, Nat.blt 4 s.k, s.b4, s.mv, s.fin]
def nB : Bool → Nat
 | true => 0
 | false => 1
def FSt.mu (s : FSt) : Nat := nB s.mm + (5 - s.k) + nB s.b0 + nB s.b1 + nB s.b2 + nB s.b3 + nB s.b4 + nB s.mv + nB s.fin
def FSt.all (s : FSt) : Bool := s.b0 && s.b1 && s.b2 && s.b3 && s.b4
def FSt.ok (s : FSt) : Bool := Nat.ble s.k 5 && (!s.b0 || (s.mm && Nat.blt 0 s.k)) && (!s.b1 || (s.mm && Nat.blt 1 s.k)) && (!s.b2 || (s.mm && Nat.blt 2 s.k)) && (!s.b3 || (s.mm && Nat.blt 3 s.k)) && (!s.b4 || (s.mm && Nat.blt 4 s.k)) && (!s.mv || s.all) && (!s.fin || s.mv)
def FSt.nx (s : FSt) (i : Nat) : Bool := (Nat.beq i 1 && !s.mm) || ((Nat.beq i (4 + 4 * s.k) && Nat.blt s.k 5) || ((Nat.beq i 5 && (s.mm && Nat.blt 0 s.k && !s.b0)) || ((Nat.beq i 9 && (s.mm && Nat.blt 1 s.k && !s.b1)) || ((Nat.beq i 13 && (s.mm && Nat.blt 2 s.k && !s.b2)) || ((Nat.beq i 17 && (s.mm && Nat.blt 3 s.k && !s.b3)) || ((Nat.beq i 21 && (s.mm && Nat.blt 4 s.k && !s.b4)) || ((Nat.beq i 22 && (s.all && !s.mv)) || (Nat.beq i 23 && (s.mv && !s.fin)))))))))
def FSt.nxt (s : FSt) : Nat → FSt
 | 1 => { s with mm := true }
 | 5 => { s with b0 := true }
 | 9 => { s with b1 := true }
 | 13 => { s with b2 := true }
 | 17 => { s with b3 := true }
 | 21 => { s with b4 := true }
 | 22 => { s with mv := true }
 | 23 => { s with fin := true }
 | _ => { s with k := s.k + 1 }
noncomputable def FSt.chk (s : FSt) : Bool := !s.ok || (fun r => (r.all fun i => s.nx i && ((s.nxt i).ok && ((s.nxt i).lst.toList == (s.lst.setIfInBounds i true).toList && Nat.beq ((s.nxt i).mu + 1) s.mu))) && (s.fin == r.isEmpty)) (Region.ready .any l21.toArray s.lst)
abbrev bools : List Bool := [true, false]
theorem xS (b : Bool) : b ∈ bools := by cases b <;> decide
theorem chkAll : (bools.all fun mk => bools.all fun b0 => bools.all fun b1 => bools.all fun b2 => bools.all fun b3 => bools.all fun b4 => bools.all fun mv => bools.all fun fin => (List.range 6).all fun k => FSt.chk ⟨mk, k, b0, b1, b2, b3, b4, mv, fin⟩) = true := by kernel_rfl
theorem chk_all (s : FSt) : s.chk = true := by
 obtain ⟨mk, k, b0, b1, b2, b3, b4, mv, fin⟩ := s;by_cases hk : k < 6
 ·have h := chkAll;simp only [List.all_eq_true] at h;exact h mk (xS _) b0 (xS _) b1 (xS _) b2 (xS _) b3 (xS _) b4 (xS _) mv (xS _) fin (xS _) k (List.mem_range.2 hk)
 ·unfold FSt.chk FSt.ok
  have : Nat.ble k 5 = false := by
   cases h : Nat.ble k 5 with
   | false => rfl
   | true => have := Nat.le_of_ble_eq_true h; omega
  simp [this]
theorem Xt {s : FSt} {i : Nat} (h : s.nx i = true) : (i = 1 ∧ s.mm = false) ∨ (i = 4 + 4 * s.k ∧ s.k < 5) ∨ (i = 5 ∧ s.mm = true ∧ 0 < s.k ∧ s.b0 = false) ∨ (i = 9 ∧ s.mm = true ∧ 1 < s.k ∧ s.b1 = false) ∨ (i = 13 ∧ s.mm = true ∧ 2 < s.k ∧ s.b2 = false) ∨ (i = 17 ∧ s.mm = true ∧ 3 < s.k ∧ s.b3 = false) ∨ (i = 21 ∧ s.mm = true ∧ 4 < s.k ∧ s.b4 = false) ∨ (i = 22 ∧ s.all = true ∧ s.mv = false) ∨ (i = 23 ∧ s.mv = true ∧ s.fin = false) := by
 have hb : ∀ a b : Nat, Nat.beq a b = true ↔ a = b := fun a b => by simp
 have hl : ∀ a b : Nat, Nat.blt a b = true ↔ a < b := fun a b => by rw [Nat.blt_eq]
 unfold FSt.nx at h;simp only [Bool.or_eq_true, Bool.and_eq_true, Bool.not_eq_true', hb, hl, and_assoc] at h;exact h
theorem uX {bX : Nat} {β : Nat → Nat} : ∀ {js : List Nat} {j : Nat}, j < 5 → (∀ i ∈ js, i < 5) → j ∉ js → putM (ruM (fmtRu bX β js)) (fmtKey j) (clo (fmtFn j) [ptr bX, ptr (β j)]) = ruM (fmtRu bX β (js ++ [j])) := by
 intro js j hj hjs hn
 have inj : ∀ a b, a < 5 → b < 5 → fmtKey a = fmtKey b → a = b := by
  have h : ∀ a : Fin 5, ∀ b : Fin 5, fmtKey a.1 = fmtKey b.1 → a.1 = b.1 := by decide
  intro a b ha hb he;exact h ⟨a, ha⟩ ⟨b, hb⟩ he
 have hnone : ∀ (l : List Nat) (n : Nat), (∀ i ∈ l, i < 5) → j ∉ l → findM (fmtKey j) n (ruM (fmtRu bX β l)) = none := by
  intro l
  induction l with
  | nil => intro n _ _; rfl
  | cons a r ih =>
    intro n h1 h2;show findM (fmtKey j) n ((fmtKey a, _) :: ruM (fmtRu bX β r)) = none;rw [findM, if_neg (fun he => h2 (by rw [inj _ _ hj (h1 a (.head _)) he]; exact .head _))];exact ih _ (fun i hi => h1 i (.tail _ hi)) fun hm => h2 (.tail _ hm)
 rw [putM, hnone js 0 hjs hn];unfold ruM fmtRu;rw [List.map_append, List.map_append]
 rfl
theorem qu {σ : Type} {K1 K2 : List (List UInt8)} (h : ∀ k, k ∈ K1 ↔ k ∈ K2) {read : List UInt8 → σ → List Wrd → R σ} {parts : σ → Nat} : ∀ (n : Nat) (seen : List (List UInt8)) (x : σ) (ts : List Wrd), pRules K1 read parts n seen x ts = pRules K2 read parts n seen x ts
 | 0, _, _, _ => rfl
 | n + 1, seen, x, ts => by
   unfold pRules;have ih := qu h (read := read) (parts := parts) n;by_cases hk : (hd ts).kind = 1 ∧ (hd ts).text ∈ K1
   ·rw [if_pos hk, if_pos (show (hd ts).kind = 1 ∧ (hd ts).text ∈ K2 from ⟨hk.1, (h _).1 hk.2⟩)];simp only [ih]
   ·rw [if_neg hk, if_neg (show ¬((hd ts).kind = 1 ∧ (hd ts).text ∈ K2) from fun h2 => hk ⟨h2.1, (h _).2 h2.2⟩)]
theorem ZU {bX : Nat} {β : Nat → Nat} {js : List Nat} (h : ∀ j, j ∈ js ↔ j < 5) : ∀ k, k ∈ (fmtRu bX β js).map (·.1) ↔ k ∈ fmtKeys := fun k => by
 simp only [fmtRu, List.map_map, List.mem_map, Function.comp]
 constructor
 ·rintro ⟨j, hj, rfl⟩;have := (h j).1 hj
  match j, this with
  | 0, _ => decide
  | 1, _ => decide
  | 2, _ => decide
  | 3, _ => decide
  | 4, _ => decide
 ·intro hk;simp only [fmtKeys, List.mem_cons, List.not_mem_nil, or_false] at hk;rcases hk with rfl | rfl | rfl | rfl | rfl
  ·exact ⟨0, (h 0).2 (by decide), rfl⟩
  ·exact ⟨1, (h 1).2 (by decide), rfl⟩
  ·exact ⟨2, (h 2).2 (by decide), rfl⟩
  ·exact ⟨3, (h 3).2 (by decide), rfl⟩
  ·exact ⟨4, (h 4).2 (by decide), rfl⟩
variable {m : Mp} {b c at_ d p : Nat} {A : Option Addr} {ws ts : List Wrd}
abbrev fptr (bF off : Nat) : Value := .pointer (some ⟨bF, off, none⟩)
abbrev fBase (b bF bX : Nat) : Env := [(4, ptr bF), (17, ptr b), (19, clo 87 [ptr bX]), (22, clo 87 [ptr bX]), (25, clo 87 [ptr bX]), (28, clo 89 [ptr bX]), (31, clo 89 [ptr bX]), (20, fptr bF 1), (23, fptr bF 2), (26, fptr bF 3), (29, fptr bF 4), (32, fptr bF 5)]
def FFin (b : Nat) (A : Option Addr) (c : Nat) (ws : List Wrd) (bF : Nat) (r : R FmtT) (L : List Ent) : Prop := ∃ x' ts' at' p' e' seen, r = .ok x' ts' ∧ Pos ws at' ts' ∧ p' ≤ 200 ∧ FmI bF seen x' p' e' ∧ Pick L [rd b A c ws at' 0 p', e']
def FIv (b : Nat) (A : Option Addr) (c : Nat) (ws : List Wrd) (at_ bF bX : Nat) (fm : Ent) (r : R FmtT) (s : FSt) (env : Env) (L : List Ent) : Prop :=
 s.ok = true ∧ Sub (fBase b bF bX) env ∧ ((s.fin = true ∧ FFin b A c ws bF r L) ∨ (s.fin = false ∧ ∃ (β : Nat → Nat) (bx : List Ent) (mb : Nat) (js : List Nat),
  Pick L ((if s.mm then [smap mb (ruM (fmtRu bX β js))] else []) ++ [rd b A c ws at_ 0 0, fm, pack bx]) ∧
  (∀ ns, (pack bx).inv ns → ∀ j, j < s.k → Wc ns ⟨β j, 0, none⟩ (fptr bF (j + 1))) ∧
  (∀ j, j < s.k → lk env (21 + 3 * j) = some (clo (fmtFn j) [ptr bX, ptr (β j)])) ∧
  (s.mm = true → lk env 18 = some (.map (some mb))) ∧ (s.mv = true → lk env 34 = some (.map (some mb))) ∧ (∀ j ∈ js, j < 5) ∧ (∀ j, j < 5 → (j ∈ js ↔ s.bit j = true)) ∧ (s.mm = false → js = [])))
theorem yO {P : Program} {n : Nat} {Q : Post} {o : Oper} {env : Env} {L L' : List Ent} {kept : Bool} {K : Env → List Ent → Prop} (hp : Pick L L') (h : StepS P n Q o env m L' kept K) : StepS P n Q o env m L kept K := fun h' hs => h h' (hp m h' hs)
theorem wL {env : Env} {d t : Nat} {v : Value} (h : d ≠ t) : lk ((d, v) :: env) t = lk env t := by
 show (match Nat.beq d t with | true => some v | false => lk env t) = _;rw [qG h]
theorem lk_eq {env : Env} {d : Nat} {v : Value} : lk ((d, v) :: env) d = some v := by
 show (match Nat.beq d d with | true => some v | false => lk env d) = _;rw [show Nat.beq d d = true by simp]
theorem xo {b bF bX d : Nat} {env : Env} {v : Value} (h : Sub (fBase b bF bX) env) (hd : d = 18 ∨ d = 21 ∨ d = 24 ∨ d = 27 ∨ d = 30 ∨ d = 33 ∨ d = 34 ∨ d = 35) : Sub (fBase b bF bX) ((d, v) :: env) := by
 obtain ⟨h1, h2, h3, h4, h5, h6, h7, h8, h9, h10, h11, h12, -⟩ := h;rcases hd with rfl | rfl | rfl | rfl | rfl | rfl | rfl | rfl <;> exact ⟨h1, h2, h3, h4, h5, h6, h7, h8, h9, h10, h11, h12, trivial⟩
theorem evs1 {env : Env} {x : Operand} {v : Value} (h : ev env x = some v) : evs env [x] = some [v] := by simp [evs, h]
theorem evs2 {env : Env} {x y : Operand} {v w : Value} (h : ev env x = some v) (h2 : ev env y = some w) : evs env [x, y] = some [v, w] := by simp [evs, h, h2]
theorem qz {s : FSt} (h : s.ok = true) {i : Nat} (hb : s.bit i = true) : i < s.k ∧ s.mm = true := by
 have hl : ∀ a b : Nat, Nat.blt a b = true ↔ a < b := fun a b => by rw [Nat.blt_eq]
 unfold FSt.ok at h;simp only [Bool.and_eq_true, Bool.or_eq_true, Bool.not_eq_true', hl] at h;obtain ⟨⟨⟨⟨⟨⟨⟨-, h0⟩, h1⟩, h2⟩, h3⟩, h4⟩, -⟩, -⟩ := h
 match i with
 | 0 => have hb : s.b0 = true := hb; rw [hb] at h0; simpa [and_comm] using h0
 | 1 => have hb : s.b1 = true := hb; rw [hb] at h1; simpa [and_comm] using h1
 | 2 => have hb : s.b2 = true := hb; rw [hb] at h2; simpa [and_comm] using h2
 | 3 => have hb : s.b3 = true := hb; rw [hb] at h3; simpa [and_comm] using h3
 | 4 => have hb : s.b4 = true := hb; rw [hb] at h4; simpa [and_comm] using h4
 | _ + 5 => cases hb
theorem ok_k {s : FSt} (h : s.ok = true) : s.k ≤ 5 ∧ (s.mv = true → s.all = true) ∧ (s.fin = true → s.mv = true) := by
 unfold FSt.ok at h;simp only [Bool.and_eq_true, Bool.or_eq_true, Bool.not_eq_true'] at h;obtain ⟨⟨⟨⟨⟨⟨⟨h5, -⟩, -⟩, -⟩, -⟩, -⟩, hv⟩, hf⟩ := h;refine ⟨Nat.le_of_ble_eq_true h5, fun h => ?_, fun h => ?_⟩
 ·rw [h] at hv; simpa using hv
 ·rw [h] at hf; simpa using hf
theorem step_of {s : FSt} (hok : s.ok = true) : (Region.ready .any l21.toArray s.lst = [] ↔ s.fin = true) ∧ ∀ i ∈ Region.ready .any l21.toArray s.lst, s.nx i = true ∧ (s.nxt i).ok = true ∧ (s.nxt i).lst = s.lst.setIfInBounds i true ∧ (s.nxt i).mu + 1 = s.mu := by
 have h := chk_all s;unfold FSt.chk at h;rw [hok, Bool.not_true, Bool.false_or, Bool.and_eq_true, List.all_eq_true] at h;obtain ⟨h1, h2⟩ := h
 constructor
 ·rw [beq_iff_eq] at h2;rw [h2, List.isEmpty_iff]
 ·intro i hi;have h3 := h1 i hi;simp only [Bool.and_eq_true, beq_iff_eq] at h3;obtain ⟨g1, g2, g3, g4⟩ := h3;exact ⟨g1, g2, Array.ext' g3, by simpa using g4⟩
theorem mu0 {s : FSt} (hok : s.ok = true) (h : s.mu = 0) : s.fin = true := by
 unfold FSt.mu at h;cases hf : s.fin with
 | true => rfl
 | false => rw [hf] at h; simp [nB] at h
theorem Pick.packS {o : Ent} {bx : List Ent} : Pick [o, pack bx] [pack (bx ++ [o])] := fun m h hs => Pick.packSnoc m h ((Pick.cons .h1 .p0) m h hs)
end
section
open Wd Tp Kd
variable {m : Mp} {b c at_ d p : Nat} {A : Option Addr} {ws ts : List Wrd}
theorem uU {bX k j : Nat} {β : Nat → Nat} {js : List Nat} (h : j ∉ js) : fmtRu bX (fun i => if i = j then k else β i) js = fmtRu bX β js := by
 unfold fmtRu;refine List.map_congr_left fun i hi => ?_;have : i ≠ j := fun e => h (e ▸ hi)
 simp [this]
theorem qp {b4 k j : Nat} {β : Nat → Nat} {bx : List Ent} {t : TypeId} (h : ∀ ns, (pack bx).inv ns → ∀ i, i < j → Wc ns ⟨β i, 0, none⟩ (fptr b4 (i + 1))) : ∀ ns, (pack (bx ++ [cel k [fptr b4 (j + 1)] t])).inv ns → ∀ i, i < j + 1 → Wc ns ⟨(fun i => if i = j then k else β i) i, 0, none⟩ (fptr b4 (i + 1)) := fun ns hi i hij => by
 obtain ⟨h1, h2⟩ := hi;dsimp only;by_cases he : i = j
 ·subst he;rw [if_pos rfl];exact Wc.cel (e := t) (h1 _ (List.mem_append_right _ (.head _))) rfl
 ·rw [if_neg he];exact h ns ⟨fun e he => h1 e (List.mem_append_left _ he), (List.pairwise_append.1 h2).1⟩ i (by omega)
theorem jC {bX k j : Nat} {β : Nat → Nat} {env : Env} {v : Value} (h : ∀ i, i < j → lk env (21 + 3 * i) = some (clo (fmtFn i) [ptr bX, ptr (β i)])) (hv : v = clo (fmtFn j) [ptr bX, ptr k]) : ∀ i, i < j + 1 → lk ((21 + 3 * j, v) :: env) (21 + 3 * i) = some (clo (fmtFn i) [ptr bX, ptr ((fun i => if i = j then k else β i) i)]) := fun i hij => by
 dsimp only;by_cases he : i = j
 ·subst he;rw [if_pos rfl, lk_eq, hv]
 ·rw [if_neg he, wL (by omega)];exact h i (by omega)
theorem ur {s s' : FSt} {js : List Nat} {k : Nat} (h : ∀ j, j < 5 → (j ∈ js ↔ s.bit j = true)) (he : ∀ j, j < 5 → (s'.bit j = true ↔ s.bit j = true ∨ j = k)) : ∀ j, j < 5 → (j ∈ js ++ [k] ↔ s'.bit j = true) := fun j hj => by rw [he j hj, ← h j hj, List.mem_append, List.mem_singleton]
theorem fmtRegion {Q : Post} {bF bX n0 : Nat} {x0 : FmtT} {fm : Ent} (hbox : Wc m ⟨bX, 0, none⟩ (ptr b)) (hT : Tabs m) (hw : WsR m A ws) (hp : Pos ws at_ ts) (hn : ts.length < n0) (hfm : FmI bF [] x0 0 fm)
  (hQp : ∀ env L e a, ((must sLb ts).bind fun _ ts => pRules fmtKeys (fmtRead n0) (fun _ => 0) n0 [] x0 ts) = .bad e a → QS Q (.panic (pan (fltV e a))) env m L)
  (hQn : ∀ env L, Sub (fBase b bF bX) env → FFin b A c ws bF ((must sLb ts).bind fun _ ts => pRules fmtKeys (fmtRead n0) (fun _ => 0) n0 [] x0 ts) L → QS Q .normal env m L)
  {env : Env} (hs : Sub (fBase b bF bX) env) : VAS Tryz.prog 37 l21 13 (FSt.lst ⟨false, 0, false, false, false, false, false, false, false⟩) env m [rd b A c ws at_ 0 0, fm] Q := by
 have hsm := hp.small;have hlen := hp.len;generalize hF : ((must sLb ts).bind fun _ ts => pRules fmtKeys (fmtRead n0) (fun _ => 0) n0 [] x0 ts) = F at hQp hQn
 refine Yf FSt.lst FSt.mu (FIv b A c ws at_ bF bX fm F) ?_ 13 ⟨false, 0, false, false, false, false, false, false, false⟩ env _ rfl ⟨rfl, hs, .inr ⟨rfl, fun _ => 0, [], 0, [], .cons .here (.cons .here (Pick.nilE (.nil _))), (fun _ _ j hj => by cases hj), (fun j hj => by cases hj), (fun h => by cases h), (fun h => by cases h), (fun j hj => by cases hj), ?_, fun _ => rfl⟩⟩
 rotate_left
 ·
  have h0 : ∀ j : Fin 5, FSt.bit ⟨false, 0, false, false, false, false, false, false, false⟩ j.1 = false := by decide
  intro j hj;have := h0 ⟨j, hj⟩;dsimp only at this;rw [this]
  simp
 intro s env L hi;obtain ⟨hok, hsub, hi⟩ := hi;obtain ⟨g1, g2⟩ := step_of hok;refine ⟨fun hr => ?_, fun h0 => g1.2 (mu0 hok h0), fun i hin => ?_⟩
 ·have hfin := g1.1 hr;rcases hi with ⟨_, hi⟩ | ⟨hff, _⟩
  ·exact hQn env L hsub hi
  ·rw [hfin] at hff; cases hff
 obtain ⟨hnx, hok', hlst, hmu⟩ := g2 i hin
 have hff : s.fin = false := by
  cases hf : s.fin with
  | false => rfl
  | true => rw [g1.2 hf] at hin; cases hin
 rcases hi with ⟨hf, _⟩ | ⟨_, β, bx, mb, js, hpk, hwc, hlk, h18, h34, hjs, hbit, hmm⟩
 ·rw [hff] at hf; cases hf
 have hkv := ok_k hok;clear g1 g2 hin;have hsub' := hsub;obtain ⟨e4, e17, e19, e22, e25, e28, e31, e20, e23, e26, e29, e32, -⟩ := hsub'
 have hnb : ∀ j, s.k ≤ j → j < 5 → j ∉ js := fun j hj h5 hm => by
  have := (qz hok ((hbit j h5).1 hm)).1;omega
 rcases Xt hnx with ⟨rfl, hm0⟩ | ⟨hi, hk5⟩ | ⟨rfl, hm1, hk, hb⟩ | ⟨rfl, hm1, hk, hb⟩ | ⟨rfl, hm1, hk, hb⟩ | ⟨rfl, hm1, hk, hb⟩ | ⟨rfl, hm1, hk, hb⟩ | ⟨rfl, hall, hmv⟩ | ⟨rfl, hmv, _⟩
 ·-- the map
  refine ⟨_, true, s.nxt 1, rfl, rfl, hlst, hmu, yO hpk ?_⟩;rw [hm0, if_neg (by decide), List.nil_append];have hj0 := hmm hm0;subst hj0;refine xC rfl fun b' => ⟨hok', xo hsub (.inl rfl), .inr ⟨hff, β, bx, b', [], Pick.refl _, hwc, fun j hj => (wL (by omega)).trans (hlk j hj), fun _ => rfl, fun h => ?_, hjs, hbit, fun _ => rfl⟩⟩;have h2 := hkv.2.1 h;unfold FSt.all at h2
  simp only [Bool.and_eq_true] at h2;have h3 := (qz hok (i := 0) h2.1.1.1.1).2;rw [hm0] at h3;cases h3
 ·have hkk : s.k = 0 ∨ s.k = 1 ∨ s.k = 2 ∨ s.k = 3 ∨ s.k = 4 := by omega
  rcases hkk with hk | hk | hk | hk | hk
  ·-- a closure
   obtain rfl : i = 4 := by omega
   refine ⟨_, false, s.nxt 4, rfl, rfl, hlst, hmu, yO hpk ?_⟩;have hnj := hnb 0 (by omega) (by decide);refine wo (p := []) (q := [ptr bX]) (vs := [fptr bF 1]) cl87 e19 (evs1 e20) .nil (fun m' _ _ => mk66) rfl ?_;rintro _ _ ⟨k', rfl, rfl⟩
   refine ⟨hok', xo hsub (by decide), .inr ⟨hff, fun i => if i = 0 then k' else β i, bx ++ [cel k' [fptr bF 1] 142], mb, js, ?_, ?_, ?_, fun h => (wL (by decide)).trans (h18 h), fun h => (wL (by decide)).trans (h34 h), hjs, hbit, hmm⟩⟩
   ·rw [uU hnj];show Pick (cel k' [fptr bF 1] 142 :: ((if s.mm = true then [smap mb (ruM (fmtRu bX β js))] else []) ++ [rd b A c ws at_ 0 0, fm, pack bx])) ((if s.mm = true then [smap mb (ruM (fmtRu bX β js))] else []) ++ [rd b A c ws at_ 0 0, fm, pack (bx ++ [cel k' [fptr bF 1] 142])]);cases s.mm with
    | true => exact .cons .h1 (.cons .h1 (.cons .h1 Pick.packS))
    | false => exact .cons .h1 (.cons .h1 Pick.packS)
   ·show ∀ ns, _ → ∀ i, i < (s.nxt 4).k → _;rw [show (s.nxt 4).k = 0 + 1 by show s.k + 1 = _; omega];exact qp (fun ns h i hi => hwc ns h i (by omega))
   ·show ∀ i, i < (s.nxt 4).k → _;rw [show (s.nxt 4).k = 0 + 1 by show s.k + 1 = _; omega];exact jC (j := 0) (fun i hi => hlk i (by omega)) rfl
  ·-- a closure
   obtain rfl : i = 8 := by omega
   refine ⟨_, false, s.nxt 8, rfl, rfl, hlst, hmu, yO hpk ?_⟩;have hnj := hnb 1 (by omega) (by decide);refine wo (p := []) (q := [ptr bX]) (vs := [fptr bF 2]) cl87 e22 (evs1 e23) .nil (fun m' _ _ => mk66) rfl ?_;rintro _ _ ⟨k', rfl, rfl⟩
   refine ⟨hok', xo hsub (by decide), .inr ⟨hff, fun i => if i = 1 then k' else β i, bx ++ [cel k' [fptr bF 2] 142], mb, js, ?_, ?_, ?_, fun h => (wL (by decide)).trans (h18 h), fun h => (wL (by decide)).trans (h34 h), hjs, hbit, hmm⟩⟩
   ·rw [uU hnj];show Pick (cel k' [fptr bF 2] 142 :: ((if s.mm = true then [smap mb (ruM (fmtRu bX β js))] else []) ++ [rd b A c ws at_ 0 0, fm, pack bx])) ((if s.mm = true then [smap mb (ruM (fmtRu bX β js))] else []) ++ [rd b A c ws at_ 0 0, fm, pack (bx ++ [cel k' [fptr bF 2] 142])]);cases s.mm with
    | true => exact .cons .h1 (.cons .h1 (.cons .h1 Pick.packS))
    | false => exact .cons .h1 (.cons .h1 Pick.packS)
   ·show ∀ ns, _ → ∀ i, i < (s.nxt 8).k → _;rw [show (s.nxt 8).k = 1 + 1 by show s.k + 1 = _; omega];exact qp (fun ns h i hi => hwc ns h i (by omega))
   ·show ∀ i, i < (s.nxt 8).k → _;rw [show (s.nxt 8).k = 1 + 1 by show s.k + 1 = _; omega];exact jC (j := 1) (fun i hi => hlk i (by omega)) rfl
  ·-- a closure
   obtain rfl : i = 12 := by omega
   refine ⟨_, false, s.nxt 12, rfl, rfl, hlst, hmu, yO hpk ?_⟩;have hnj := hnb 2 (by omega) (by decide);refine wo (p := []) (q := [ptr bX]) (vs := [fptr bF 3]) cl87 e25 (evs1 e26) .nil (fun m' _ _ => mk66) rfl ?_;rintro _ _ ⟨k', rfl, rfl⟩
   refine ⟨hok', xo hsub (by decide), .inr ⟨hff, fun i => if i = 2 then k' else β i, bx ++ [cel k' [fptr bF 3] 142], mb, js, ?_, ?_, ?_, fun h => (wL (by decide)).trans (h18 h), fun h => (wL (by decide)).trans (h34 h), hjs, hbit, hmm⟩⟩
   ·rw [uU hnj];show Pick (cel k' [fptr bF 3] 142 :: ((if s.mm = true then [smap mb (ruM (fmtRu bX β js))] else []) ++ [rd b A c ws at_ 0 0, fm, pack bx])) ((if s.mm = true then [smap mb (ruM (fmtRu bX β js))] else []) ++ [rd b A c ws at_ 0 0, fm, pack (bx ++ [cel k' [fptr bF 3] 142])]);cases s.mm with
    | true => exact .cons .h1 (.cons .h1 (.cons .h1 Pick.packS))
    | false => exact .cons .h1 (.cons .h1 Pick.packS)
   ·show ∀ ns, _ → ∀ i, i < (s.nxt 12).k → _;rw [show (s.nxt 12).k = 2 + 1 by show s.k + 1 = _; omega];exact qp (fun ns h i hi => hwc ns h i (by omega))
   ·show ∀ i, i < (s.nxt 12).k → _;rw [show (s.nxt 12).k = 2 + 1 by show s.k + 1 = _; omega];exact jC (j := 2) (fun i hi => hlk i (by omega)) rfl
  ·-- a closure
   obtain rfl : i = 16 := by omega
   refine ⟨_, false, s.nxt 16, rfl, rfl, hlst, hmu, yO hpk ?_⟩;have hnj := hnb 3 (by omega) (by decide);refine wo (p := []) (q := [ptr bX]) (vs := [fptr bF 4]) cl89 e28 (evs1 e29) .nil (fun m' _ _ => mk68) rfl ?_;rintro _ _ ⟨k', rfl, rfl⟩
   refine ⟨hok', xo hsub (by decide), .inr ⟨hff, fun i => if i = 3 then k' else β i, bx ++ [cel k' [fptr bF 4] 144], mb, js, ?_, ?_, ?_, fun h => (wL (by decide)).trans (h18 h), fun h => (wL (by decide)).trans (h34 h), hjs, hbit, hmm⟩⟩
   ·rw [uU hnj];show Pick (cel k' [fptr bF 4] 144 :: ((if s.mm = true then [smap mb (ruM (fmtRu bX β js))] else []) ++ [rd b A c ws at_ 0 0, fm, pack bx])) ((if s.mm = true then [smap mb (ruM (fmtRu bX β js))] else []) ++ [rd b A c ws at_ 0 0, fm, pack (bx ++ [cel k' [fptr bF 4] 144])]);cases s.mm with
    | true => exact .cons .h1 (.cons .h1 (.cons .h1 Pick.packS))
    | false => exact .cons .h1 (.cons .h1 Pick.packS)
   ·show ∀ ns, _ → ∀ i, i < (s.nxt 16).k → _;rw [show (s.nxt 16).k = 3 + 1 by show s.k + 1 = _; omega];exact qp (fun ns h i hi => hwc ns h i (by omega))
   ·show ∀ i, i < (s.nxt 16).k → _;rw [show (s.nxt 16).k = 3 + 1 by show s.k + 1 = _; omega];exact jC (j := 3) (fun i hi => hlk i (by omega)) rfl
  ·-- a closure
   obtain rfl : i = 20 := by omega
   refine ⟨_, false, s.nxt 20, rfl, rfl, hlst, hmu, yO hpk ?_⟩;have hnj := hnb 4 (by omega) (by decide);refine wo (p := []) (q := [ptr bX]) (vs := [fptr bF 5]) cl89 e31 (evs1 e32) .nil (fun m' _ _ => mk68) rfl ?_;rintro _ _ ⟨k', rfl, rfl⟩
   refine ⟨hok', xo hsub (by decide), .inr ⟨hff, fun i => if i = 4 then k' else β i, bx ++ [cel k' [fptr bF 5] 144], mb, js, ?_, ?_, ?_, fun h => (wL (by decide)).trans (h18 h), fun h => (wL (by decide)).trans (h34 h), hjs, hbit, hmm⟩⟩
   ·rw [uU hnj];show Pick (cel k' [fptr bF 5] 144 :: ((if s.mm = true then [smap mb (ruM (fmtRu bX β js))] else []) ++ [rd b A c ws at_ 0 0, fm, pack bx])) ((if s.mm = true then [smap mb (ruM (fmtRu bX β js))] else []) ++ [rd b A c ws at_ 0 0, fm, pack (bx ++ [cel k' [fptr bF 5] 144])]);cases s.mm with
    | true => exact .cons .h1 (.cons .h1 (.cons .h1 Pick.packS))
    | false => exact .cons .h1 (.cons .h1 Pick.packS)
   ·show ∀ ns, _ → ∀ i, i < (s.nxt 20).k → _;rw [show (s.nxt 20).k = 4 + 1 by show s.k + 1 = _; omega];exact qp (fun ns h i hi => hwc ns h i (by omega))
   ·show ∀ i, i < (s.nxt 20).k → _;rw [show (s.nxt 20).k = 4 + 1 by show s.k + 1 = _; omega];exact jC (j := 4) (fun i hi => hlk i (by omega)) rfl
 ·-- a rule is laid
  refine ⟨_, false, s.nxt 5, rfl, rfl, hlst, hmu, yO hpk ?_⟩;rw [hm1, if_pos rfl];have hnj : 0 ∉ js := fun h => by have h2 : s.b0 = true := (hbit 0 (by decide)).1 h; rw [hb] at h2; cases h2
  refine yV (k := fmtKey 0) ms141 (h18 hm1) rfl (hlk 0 hk) .here ?_;rw [uX (by decide) hjs hnj];refine ⟨hok', hsub, .inr ⟨hff, β, bx, mb, js ++ [0], ?_, hwc, hlk, h18, h34, fun i hi => ?_, ur (s := s) hbit ?_, fun h => ?_⟩⟩
  ·show Pick _ ((if s.mm = true then [smap mb (ruM (fmtRu bX β (js ++ [0])))] else []) ++ [rd b A c ws at_ 0 0, fm, pack bx]);rw [hm1, if_pos rfl];exact Pick.refl _
  ·rcases List.mem_append.1 hi with h | h
   ·exact hjs i h
   ·rw [List.mem_singleton.1 h]; decide
  ·intro i hi5;have hi : i = 0 ∨ i = 1 ∨ i = 2 ∨ i = 3 ∨ i = 4 := by omega
   rcases hi with rfl | rfl | rfl | rfl | rfl <;> simp [FSt.bit, FSt.nxt]
  ·have h : s.mm = false := h;rw [hm1] at h;cases h
 ·-- a rule is laid
  refine ⟨_, false, s.nxt 9, rfl, rfl, hlst, hmu, yO hpk ?_⟩;rw [hm1, if_pos rfl];have hnj : 1 ∉ js := fun h => by have h2 : s.b1 = true := (hbit 1 (by decide)).1 h; rw [hb] at h2; cases h2
  refine yV (k := fmtKey 1) ms141 (h18 hm1) rfl (hlk 1 hk) .here ?_;rw [uX (by decide) hjs hnj];refine ⟨hok', hsub, .inr ⟨hff, β, bx, mb, js ++ [1], ?_, hwc, hlk, h18, h34, fun i hi => ?_, ur (s := s) hbit ?_, fun h => ?_⟩⟩
  ·show Pick _ ((if s.mm = true then [smap mb (ruM (fmtRu bX β (js ++ [1])))] else []) ++ [rd b A c ws at_ 0 0, fm, pack bx]);rw [hm1, if_pos rfl];exact Pick.refl _
  ·rcases List.mem_append.1 hi with h | h
   ·exact hjs i h
   ·rw [List.mem_singleton.1 h]; decide
  ·intro i hi5;have hi : i = 0 ∨ i = 1 ∨ i = 2 ∨ i = 3 ∨ i = 4 := by omega
   rcases hi with rfl | rfl | rfl | rfl | rfl <;> simp [FSt.bit, FSt.nxt]
  ·have h : s.mm = false := h;rw [hm1] at h;cases h
 ·-- a rule is laid
  refine ⟨_, false, s.nxt 13, rfl, rfl, hlst, hmu, yO hpk ?_⟩;rw [hm1, if_pos rfl];have hnj : 2 ∉ js := fun h => by have h2 : s.b2 = true := (hbit 2 (by decide)).1 h; rw [hb] at h2; cases h2
  refine yV (k := fmtKey 2) ms141 (h18 hm1) rfl (hlk 2 hk) .here ?_;rw [uX (by decide) hjs hnj];refine ⟨hok', hsub, .inr ⟨hff, β, bx, mb, js ++ [2], ?_, hwc, hlk, h18, h34, fun i hi => ?_, ur (s := s) hbit ?_, fun h => ?_⟩⟩
  ·show Pick _ ((if s.mm = true then [smap mb (ruM (fmtRu bX β (js ++ [2])))] else []) ++ [rd b A c ws at_ 0 0, fm, pack bx]);rw [hm1, if_pos rfl];exact Pick.refl _
  ·rcases List.mem_append.1 hi with h | h
   ·exact hjs i h
   ·rw [List.mem_singleton.1 h]; decide
  ·intro i hi5;have hi : i = 0 ∨ i = 1 ∨ i = 2 ∨ i = 3 ∨ i = 4 := by omega
   rcases hi with rfl | rfl | rfl | rfl | rfl <;> simp [FSt.bit, FSt.nxt]
  ·have h : s.mm = false := h;rw [hm1] at h;cases h
 ·-- a rule is laid
  refine ⟨_, false, s.nxt 17, rfl, rfl, hlst, hmu, yO hpk ?_⟩;rw [hm1, if_pos rfl];have hnj : 3 ∉ js := fun h => by have h2 : s.b3 = true := (hbit 3 (by decide)).1 h; rw [hb] at h2; cases h2
  refine yV (k := fmtKey 3) ms141 (h18 hm1) rfl (hlk 3 hk) .here ?_;rw [uX (by decide) hjs hnj];refine ⟨hok', hsub, .inr ⟨hff, β, bx, mb, js ++ [3], ?_, hwc, hlk, h18, h34, fun i hi => ?_, ur (s := s) hbit ?_, fun h => ?_⟩⟩
  ·show Pick _ ((if s.mm = true then [smap mb (ruM (fmtRu bX β (js ++ [3])))] else []) ++ [rd b A c ws at_ 0 0, fm, pack bx]);rw [hm1, if_pos rfl];exact Pick.refl _
  ·rcases List.mem_append.1 hi with h | h
   ·exact hjs i h
   ·rw [List.mem_singleton.1 h]; decide
  ·intro i hi5;have hi : i = 0 ∨ i = 1 ∨ i = 2 ∨ i = 3 ∨ i = 4 := by omega
   rcases hi with rfl | rfl | rfl | rfl | rfl <;> simp [FSt.bit, FSt.nxt]
  ·have h : s.mm = false := h;rw [hm1] at h;cases h
 ·-- a rule is laid
  refine ⟨_, false, s.nxt 21, rfl, rfl, hlst, hmu, yO hpk ?_⟩;rw [hm1, if_pos rfl];have hnj : 4 ∉ js := fun h => by have h2 : s.b4 = true := (hbit 4 (by decide)).1 h; rw [hb] at h2; cases h2
  refine yV (k := fmtKey 4) ms141 (h18 hm1) rfl (hlk 4 hk) .here ?_;rw [uX (by decide) hjs hnj];refine ⟨hok', hsub, .inr ⟨hff, β, bx, mb, js ++ [4], ?_, hwc, hlk, h18, h34, fun i hi => ?_, ur (s := s) hbit ?_, fun h => ?_⟩⟩
  ·show Pick _ ((if s.mm = true then [smap mb (ruM (fmtRu bX β (js ++ [4])))] else []) ++ [rd b A c ws at_ 0 0, fm, pack bx]);rw [hm1, if_pos rfl];exact Pick.refl _
  ·rcases List.mem_append.1 hi with h | h
   ·exact hjs i h
   ·rw [List.mem_singleton.1 h]; decide
  ·intro i hi5;have hi : i = 0 ∨ i = 1 ∨ i = 2 ∨ i = 3 ∨ i = 4 := by omega
   rcases hi with rfl | rfl | rfl | rfl | rfl <;> simp [FSt.bit, FSt.nxt]
  ·have h : s.mm = false := h;rw [hm1] at h;cases h
 ·-- the map is handed on
  refine ⟨_, true, s.nxt 22, rfl, rfl, hlst, hmu, yO hpk ?_⟩
  have hmm1 : s.mm = true := by
   unfold FSt.all at hall;simp only [Bool.and_eq_true] at hall;exact (qz hok (i := 0) hall.1.1.1.1).2
  refine jT (fun h _ => (zV (show ev env (.tmp 18) = _ from h18 hmm1)).read) rfl rfl ⟨hok', xo hsub (by decide), .inr ⟨hff, β, bx, mb, js, Pick.refl _, hwc, fun j hj => (wL (by have : s.k ≤ 5 := hkv.1; have : j < s.k := hj; omega)).trans (hlk j hj), fun h => (wL (by decide)).trans (h18 h), fun _ => lk_eq, hjs, hbit, hmm⟩⟩
 ·-- the rules are read
  have hall := hkv.2.1 hmv
  have hall5 : ∀ j, j ∈ js ↔ j < 5 := fun j => by
   refine ⟨hjs j, fun h => (hbit j h).2 ?_⟩;unfold FSt.all at hall;simp only [Bool.and_eq_true] at hall;obtain ⟨⟨⟨⟨h0, h1⟩, h2⟩, h3⟩, h4⟩ := hall
   match j, h with
   | 0, _ => exact h0
   | 1, _ => exact h1
   | 2, _ => exact h2
   | 3, _ => exact h3
   | 4, _ => exact h4
  have hmm1 : s.mm = true := (qz hok ((hbit 0 (by decide)).1 ((hall5 0).2 (by decide)))).2
  have hk5 : s.k = 5 := by
   have := (qz hok ((hbit 4 (by decide)).1 ((hall5 4).2 (by decide)))).1;have := hkv.1;omega
  refine ⟨_, false, s.nxt 23, rfl, rfl, hlst, hmu, yO hpk ?_⟩;rw [hmm1, if_pos rfl];have hKE : ∀ ts', pRules ((fmtRu bX β js).map (·.1)) (fmtRead n0) (fun _ => 0) n0 [] x0 ts' = pRules fmtKeys (fmtRead n0) (fun _ => 0) n0 [] x0 ts' := fun ts' => qu (ZU hall5) n0 [] x0 ts'
  have hFE : ((must sLb ts).bind fun _ ts => pRules ((fmtRu bX β js).map (·.1)) (fmtRead n0) (fun _ => 0) n0 [] x0 ts) = F := by
   rw [← hF]
   congr 1
   funext _ ts'
   exact hKE ts'
  refine yZ cl80 (evs2 e17 (h34 hmv)) (.cons .h1 .k1) (fun m' hm he => rules59 (n := n0) (parts := fun _ => 0) (read := fmtRead n0) (I := FmI bF) (keys := fmtRu bX β js) (MapAt.of (he _ (.head _))) fmtCl (fmtRs hjs (hbox.mono hm) (fun j hj => hwc m' (he _ (.tail _ (.head _))) j (by have := hjs j hj; omega)) (hT.mono hm) (hw.mono hm)) FmI.pw hfm (hw.mono hm) hp (by omega) hn) rfl ?_ ?_
  ·rintro _ _ ⟨e', a', h1, rfl⟩;exact hQp _ _ _ _ (hFE.symm.trans h1)
  ·rintro _ _ ⟨x', ts', at', p', e', seen, h1, hp', h200, hx', rfl, rfl⟩;exact ⟨hok', xo hsub (by decide), .inl ⟨rfl, x', ts', at', p', e', seen, hFE.symm.trans h1, hp', h200, hx', .cons .here .p0⟩⟩
end
section
open Wd Tp Kd
variable {m : Mp} {b c at_ d p : Nat} {A : Option Addr} {ws ts : List Wrd}
theorem VAS_lst {P : Program} {n : Nat} {l : List Oper} {k : Nat} {lst lst' : Array Bool} {env : Env} {L : List Ent} {Q : Post} (h : lst = lst') (hv : VAS P n l k lst' env m L Q) : VAS P n l k lst env m L Q := h ▸ hv
theorem format21 {n : Nat} {at0 : Int} (hT : Tabs m) (hw : WsR m A ws) (hp : Pos ws at_ ts) (hn : ts.length < n) : CSP Tryz.prog 53 [ptr b, .int .i64 at0] m [rd b A c ws at_ 0 p]
  (fun v L' => ∃ x ts' at' p' q e, pFmt n at0 ts = .ok x ts' ∧ Pos ws at' ts' ∧ p' ≤ 200 ∧ v = .agg (FmtC.v q x).toArray ∧ L' = [rd b A c ws at' 0 p', e] ∧ FmtOk x ∧ ∀ ns, e.inv ns → RdN ns q.A q.ca x.banned ∧ RdN ns q.B q.cb x.single)
  (fun v _ => ∃ e a, pFmt n at0 ts = .bad e a ∧ v = fltV e a) := by
 generalize hF : pFmt n at0 ts = F;unfold pFmt at hF;have hsm := hp.small;have hlen := hp.len;refine z6 [.cell 4 40] Tryz.func53 rfl rfl rfl ?_;refine tr 2 ?_;refine Bx 0 rfl fun b1 => ?_;refine Al 5 zl40 fun b2 => ?_;refine Lb 0 sg97 .h1 ?_;refine Cp cl76 rfl .k2 (fun m' hm he => name55 (hT.mono hm) (hw.mono hm) hp) ?_ ?_
 ·rintro _ _ ⟨e', a', h1, rfl⟩;rw [h1] at hF;exact pn ⟨e', a', hF.symm, rfl⟩
 rintro _ _ ⟨s, ts1, at1, _, h1, hp1, ⟨rfl, rfl⟩, rfl⟩;rw [h1] at hF;dsimp only [R.bind] at hF;have hl1 : 1 + ts1.length ≤ ts.length := (yg (ts := ts)).2 _ _ h1;have hs5 := wb hp h1;clear h1;refine vr 1 ?_;refine Sr 1 co3 .h1 .h6 ?_;refine Sr 16 co9 .h1 .here ?_;refine Lb 2 sg97 .h2 ?_;refine Sr 3 co3 .here .h3 ?_;refine zw .h2 (fun ns hi _ hd => ?_)
 have hbx : Wc (uni m ns) ⟨b1, 0, none⟩ (ptr b) := (Wc.cel (e := 97) hi rfl).mono (yU hd);have hl2 : Le m (uni m ns) := yL _ _;clear hi hd;refine xB [rd b A c ws at1 0 0, pack [cel b2 (FmtC.v ⟨none, 0, none, 0⟩ ⟨s, 0, 0, 0, [], [], at0⟩) 40, pack []]] (.cons .here (Pick.pack2 (.cons .here (Pick.nilE (.nil _))))) ?_;refine We mixed ?_
 refine WX (i := 0) rfl (by kernel_rfl) (fun _ _ _ _ hq => hq) (fun h hs => z7 sg97 rfl hbx h hs) rfl rfl rfl ?_;refine xG (i := 2) rfl (by kernel_rfl) (fun _ _ _ _ hq => hq) (zV rfl) rfl rfl rfl ?_;refine xG (i := 3) rfl (by kernel_rfl) (fun _ _ _ _ hq => hq) (zJ fo40_1 rfl) rfl rfl rfl ?_
 refine xG (i := 6) rfl (by kernel_rfl) (fun _ _ _ _ hq => hq) (zV rfl) rfl rfl rfl ?_;refine xG (i := 7) rfl (by kernel_rfl) (fun _ _ _ _ hq => hq) (zJ fo40_2 rfl) rfl rfl rfl ?_;refine xG (i := 10) rfl (by kernel_rfl) (fun _ _ _ _ hq => hq) (zV rfl) rfl rfl rfl ?_
 refine xG (i := 11) rfl (by kernel_rfl) (fun _ _ _ _ hq => hq) (zJ fo40_3 rfl) rfl rfl rfl ?_;refine xG (i := 14) rfl (by kernel_rfl) (fun _ _ _ _ hq => hq) (zV rfl) rfl rfl rfl ?_;refine xG (i := 15) rfl (by kernel_rfl) (fun _ _ _ _ hq => hq) (zJ fo40_4 rfl) rfl rfl rfl ?_
 refine xG (i := 18) rfl (by kernel_rfl) (fun _ _ _ _ hq => hq) (zV rfl) rfl rfl rfl ?_;refine xG (i := 19) rfl (by kernel_rfl) (fun _ _ _ _ hq => hq) (zJ fo40_5 rfl) rfl rfl rfl ?_;refine VAS_lst (lst' := FSt.lst ⟨false, 0, false, false, false, false, false, false, false⟩) (by kernel_rfl) ?_
 refine fmtRegion (x0 := ⟨s, 0, 0, 0, [], [], at0⟩) (n0 := n) hbx (hT.mono hl2) (hw.mono hl2) hp1 (by omega) ⟨⟨none, 0, none, 0⟩, pack [], rfl, fun ns _ => ⟨RdN.z _, RdN.z _⟩, rfl, ⟨hs5, Nat.zero_le _, fun _ h => (by cases h), Nat.zero_le _, fun _ h => (by cases h)⟩⟩ ?_ ?_ ⟨rfl, rfl, rfl, rfl, rfl, rfl, rfl, rfl, rfl, rfl, rfl, rfl, trivial⟩
 ·intro env L e' a' h1;exact pW hl2 ⟨e', a', hF.symm.trans h1, rfl⟩
 ·rintro env L hsub ⟨x, ts9, at9, p9, e9, seen, h1, hp9, h200, ⟨q, o, rfl, hes, rfl, hok⟩, hpk⟩;refine qt 1 ?_;refine TS_keep [(4, ptr b2)] ⟨hsub.1, trivial⟩ ?_;refine xB _ hpk ?_;refine xB _ Pick.unpack2 ?_;refine tr 2 ?_;refine Lc 0 ag40 .h1 ?_;refine Sg 3 ag40 .h1 ?_
  exact jU hl2 [_] ⟨⟨b2, _, _, _, rfl, .h1, .inr ⟨rfl, rfl⟩⟩, trivial⟩ _ (.cons .here .p1) ⟨x, ts9, at9, _, q, o, hF.symm.trans h1, hp9, h200, rfl, rfl, hok, hes⟩
end
namespace Wd
open Go Go.Eng
def elan : List UInt8 := [195, 137, 108, 97, 110, 39]
def w1 : List Wrd := [⟨1, [99, 97, 114, 100], 0, 0⟩, ⟨1, elan, 0, 5⟩, ⟨2, [], 3, 12⟩, ⟨0, [], 0, 17⟩]
end Wd
namespace Wd
open Go Go.Eng
inductive Walk (s : List UInt8) : Nat → List Wrd → Prop
 | stop {p : Nat} (h : ¬ p < s.length) : Walk s p [⟨0, [], 0, s.length⟩]
 | step {p q : Nat} {us ws : List Wrd} (hp : p < s.length) (h : stepR s p = .next q us) (t : Walk s q ws) : Walk s p (us ++ ws)
theorem X7 {s : List UInt8} : ∀ {p : Nat} {acc ws : List Wrd}, goR s p acc = .ok ws → ∃ r, ws = acc ++ r ∧ Walk s p r := by
 intro p acc
 fun_induction goR s p acc with
 | case1 => intro ws h; cases h
 | case2 p acc hp q us h hq ih =>
   intro ws hw;obtain ⟨r, h1, h2⟩ := ih hw;exact ⟨us ++ r, by rw [h1, List.append_assoc], .step hp h h2⟩
 | case3 p acc hp q us h hq => exact absurd (y3 hp h).1 hq
 | case4 => intro ws h; cases h; exact ⟨_, rfl, .stop ‹_›⟩
inductive OneW (s : List UInt8) (p q : Nat) : List Wrd → Prop
 | none : OneW s p q []
 | name (h : letterP ((rn s p).getD (0, 0)).1 = true) (hq : (nameGo s p 0).1 = q) : OneW s p q [⟨1, seg s p q, 0, p⟩]
 | num (n : Nat) (h : digitP (by_ s p) = true) (hd : digGo s p 0 = (q, n)) (hz : ¬ (by_ s p = 48 ∧ p + 1 < q)) (hn : n ≤ 999) : OneW s p q [⟨2, [], n, p⟩]
 | mark (m : List UInt8) (h : markP (s.drop p) = some m) (hq : q = p + m.length) : OneW s p q [⟨3, m, 0, p⟩]
theorem jg {s : List UInt8} {p q : Nat} {us : List Wrd} (h : stepR s p = .next q us) : OneW s p q us := by
 unfold stepR at h
 split at h
 ·cases h
 ·rename_i x k hr
  split at h
  ·cases h; exact .none
  ·split at h
   ·split at h
    ·cases h
    ·cases h; exact .none
   ·split at h
    ·rename_i hl
     unfold stepN at h
     split at h
     ·cases h
     ·cases h; exact .name (by rw [hr]; exact hl) rfl
    ·split at h
     ·rename_i hd
      have hx := up hd;have hpos := yf hr;have hxe : x = by_ s p := by omega
      unfold stepD at h
      split at h
      ·cases h
      ·rename_i hz
       split at h
       ·cases h
       ·cases h; exact .num _ (hxe ▸ hd) rfl hz (by omega)
     ·unfold stepM at h
      split at h
      ·cases h
      ·rename_i m hm
       cases h; exact .mark m hm rfl
theorem Walk.len {s : List UInt8} {p : Nat} {ws : List Wrd} (h : Walk s p ws) : ws.length ≤ s.length - p + 1 := by
 induction h with
 | stop => simp
 | step hp h t ih =>
   have h1 := (y3 hp h).1;cases jg h <;> simp <;> omega
theorem qA {s : List UInt8} {ws : List Wrd} (h : cutP s = .ok ws) : s.length ≤ 65536 ∧ Walk s 0 ws := by
 unfold cutP at h
 split at h
 ·cases h
 ·obtain ⟨r, h1, h2⟩ := X7 h;exact ⟨by omega, by rw [h1]; exact h2⟩
theorem WI {s : List UInt8} {ws : List Wrd} (h : cutP s = .ok ws) : ws.length ≤ 65537 := by
 obtain ⟨h1, h2⟩ := qA h;have := h2.len;omega
end Wd
section
open Wd Tp Kd
theorem Yx : ∀ t ∈ marks, t.length ≤ 65536 := by decide
theorem Yv {s : List UInt8} {p q : Nat} (h : letterP ((rn s p).getD (0, 0)).1 = true) : seg s p q ≠ sOpen := fun he => by
 have h1 : by_ s p = 40 := by
  have h2 : (seg s p q).head? = some 40 := by rw [he]; rfl
  unfold seg at h2;rw [List.head?_take] at h2
  split at h2
  ·cases h2
  ·rw [List.head?_drop] at h2;unfold by_;rw [List.getD_eq_getElem?_getD, h2]
   rfl
 rw [wj (by omega), h1] at h;exact absurd h (by decide)
theorem jc {s : List UInt8} (hl : s.length ≤ 65536) : ∀ {p : Nat} {ws : List Wrd}, Walk s p ws → GoodT ws
 | _, _, .stop _ => .last rfl
 | _, _, .step hp h t => by
   have ih := jc hl t;cases jg h with
   | none => exact ih
   | name h1 h2 => exact .cons (show (1 : Int) ≠ 0 by decide) ⟨(by intro h; cases h), fun _ => Yv h1⟩ (by show (seg s _ _).length ≤ _; unfold seg; rw [List.length_take, List.length_drop]; omega) ih
   | num n h1 h2 h3 h4 => exact .cons (show (2 : Int) ≠ 0 by decide) ⟨(by intro h; cases h), (by intro h; cases h)⟩ (Nat.zero_le _) ih
   | mark mk h1 h2 => exact .cons (show (3 : Int) ≠ 0 by decide) ⟨fun _ => List.mem_of_find?_eq_some h1, (by intro h; cases h)⟩ (Yx _ (List.mem_of_find?_eq_some h1)) ih
theorem cut_pos {s : List UInt8} {ws : List Wrd} (h : cutP s = .ok ws) : Pos ws 0 ws := ⟨rfl, jc (qA h).1 (qA h).2, WI h⟩
theorem Xg {s : List UInt8} {p a : Nat} {e : Int} (h : stepR s p = .err e a) : e ≠ 0 := by
 unfold stepR at h
 split at h
 ·cases h; decide
 ·split at h
  ·cases h
  ·split at h
   ·split at h
    ·cases h; decide
    ·cases h
   ·split at h
    ·unfold stepN at h
     split at h
     ·cases h; decide
     ·cases h
    ·split at h
     ·unfold stepD at h
      split at h
      ·cases h; decide
      ·split at h
       ·cases h; decide
       ·cases h
     ·unfold stepM at h
      split at h
      ·cases h; decide
      ·cases h
theorem go_err {s : List UInt8} {a : Nat} {e : Int} : ∀ {p : Nat} {acc : List Wrd}, goR s p acc = .error (e, a) → e ≠ 0 := by
 intro p acc
 fun_induction goR s p acc with
 | case1 p acc hp e' a' h => intro hw; cases hw; exact Xg h
 | case2 p acc hp q us h hq ih => exact ih
 | case3 p acc hp q us h hq => exact absurd (y3 hp h).1 hq
 | case4 => intro h; cases h
theorem cut_err {s : List UInt8} {a : Nat} {e : Int} (h : cutP s = .error (e, a)) : e ≠ 0 := by
 unfold cutP at h
 split at h
 ·cases h; decide
 ·exact go_err h
def readP (s : List UInt8) : R BkT := match cutP s with
 | .error (e, a) => .bad e (a : Int)
 | .ok ws => pBook cardWt ws.length (ws.length + 1) [] [] ws
theorem Yn {m : Mp} {L : List Ent} {b2 b3 : Nat} {x : Fx} {h : Heap} {d : Nat} (hs : HS m L h) :
  CallsD Tryz.prog 49 [ptr b2, ptr b3].toArray .returning (W x h d) fun e u2 w' => e = .returned (.tuple #[]) ∧ u2 = .returning ∧ ∃ h' d' L', w' = W x h' d' ∧ (L' = L) ∧ HS m L' h' := by
 refine CD_of (post := fun _ L' => L' = L) Tryz.func49 rfl rfl rfl rfl .ret ?_ hs;refine vr 5 ?_;refine pe 7 (Wi (by kernel_rfl) rfl) ?_;exact ko [] trivial L (Pick.refl _) rfl
theorem D17_pan {m : Mp} {b2 b3 : Nat} {v1 v2 v3 v4 v : Value} {x : Fx} {h : Heap} {d : Nat} {e a : Int} (hv : v = fltV e a) (hs : HS m [cel b3 [v3, v4] 31, cel b2 [v1, v2] 25] h) :
  CallsD Tryz.prog 49 [ptr b2, ptr b3].toArray (.panicking (pan v)) (W x h d) fun e' u2 w' => e' = .returned (.tuple #[]) ∧ u2 = .panicking [{ v := v, recovered := true }] ∧ ∃ h' d' L', w' = W x h' d' ∧ (L' = [cel b3 [.int .i64 e, .int .i64 a] 31, cel b2 [.slice none 0 0, .slice none 0 0] 25]) ∧ HS m L' h' := by
 subst hv;refine CD_of (post := fun _ L' => L' = [cel b3 [.int .i64 e, .int .i64 a] 31, cel b2 [.slice none 0 0, .slice none 0 0] 25]) Tryz.func49 rfl rfl rfl rfl (.pan _ _) ?_ hs;unfold fltV;refine vr 5 ?_;refine pe 5 (P_ieqNo (by kernel_rfl) rfl) ?_;refine pe 7 (wR ni31 us31 rfl) ?_;refine Al 0 zl31 fun b1 => ?_;refine Sg 2 ag31 .here ?_
 refine zc (sT [0] (.fork (sT [201, 302, 303] .done) (sT [302, 101, 303] .done))) mixed (by kernel_rfl) (fun _ _ _ _ hq => hq) ?_;refine Vt 0 rfl (zT zl25 pl25 rfl rfl) ?_;refine xY ?_ ?_;refine xA rfl (yI ag31 rfl .here rfl) rfl rfl rfl ?_;refine zS rfl rfl (zQ ag25 rfl rfl rfl .h2 rfl rfl ?_) rfl
 refine zS rfl rfl (zQ ag31 rfl rfl rfl .h1 rfl rfl ?_) rfl;refine Vm 1 ?_
 ·exact ko [] trivial _ (.cons .h1 .p1) rfl
 ·refine zS rfl rfl (zQ ag25 rfl rfl rfl .h2 rfl rfl ?_) rfl;refine Vu 0 rfl (yI ag31 rfl .here rfl) ?_;refine zS rfl rfl (zQ ag31 rfl rfl rfl .h1 rfl rfl ?_) rfl;refine Vm 1 ?_;exact ko [] trivial _ (.cons .h1 .p1) rfl
end
section
open Wd Tp Kd
def CdsC (m : Mp) (xs : List Value) (l : List CardT) : Prop := xs.length = l.length * 12 ∧ ∀ (i : Nat) (hi : i < l.length), CardQ m ((xs.drop (i * 12)).take 12) l[i]
theorem CdsC.mono {m m' : Mp} {xs : List Value} {l : List CardT} (h : CdsC m xs l) (hl : Le m m') : CdsC m' xs l := ⟨h.1, fun i hi => (h.2 i hi).mono hl⟩
theorem CdsC.snoc {m : Mp} {xs ys : List Value} {l : List CardT} {x : CardT} (h : CdsC m xs l) (hx : CardQ m ys x) (hy : ys.length = 12) : CdsC m (xs ++ ys) (l ++ [x]) := by
 obtain ⟨h1, h2⟩ := h;refine ⟨by rw [List.length_append, List.length_append, h1, hy]; show l.length * 12 + 12 = (l.length + 1) * 12; omega, fun i hi => ?_⟩;have hi2 : i < l.length + 1 := by simpa using hi
 by_cases hlt : i < l.length
 ·rw [List.getElem_append_left hlt, List.drop_append_of_le_length (by omega), List.take_append_of_le_length (by rw [List.length_drop]; omega)];exact h2 i hlt
 ·have : i = l.length := by omega
  subst this;rw [← h1, List.drop_left, ← hy, List.take_length];simp only [List.getElem_concat_length];exact hx
def CardsQ (m : Mp) (A : Option Addr) (l : List CardT) : Prop := ∃ xs, Rd m A xs ∧ CdsC m xs l
theorem CardsQ.mono {m m' : Mp} {A : Option Addr} {l : List CardT} (h : CardsQ m A l) (hl : Le m m') : CardsQ m' A l := by
 obtain ⟨xs, h1, h2⟩ := h;exact ⟨xs, h1.mono hl, h2.mono hl⟩
def FmsC (m : Mp) (xs : List Value) (l : List FmtT) : Prop := xs.length = l.length * 7 ∧ ∀ (i : Nat) (hi : i < l.length), FmtQ m ((xs.drop (i * 7)).take 7) l[i]
theorem FmsC.mono {m m' : Mp} {xs : List Value} {l : List FmtT} (h : FmsC m xs l) (hl : Le m m') : FmsC m' xs l := ⟨h.1, fun i hi => (h.2 i hi).mono hl⟩
theorem FmsC.snoc {m : Mp} {xs ys : List Value} {l : List FmtT} {x : FmtT} (h : FmsC m xs l) (hx : FmtQ m ys x) (hy : ys.length = 7) : FmsC m (xs ++ ys) (l ++ [x]) := by
 obtain ⟨h1, h2⟩ := h;refine ⟨by rw [List.length_append, List.length_append, h1, hy]; show l.length * 7 + 7 = (l.length + 1) * 7; omega, fun i hi => ?_⟩;have hi2 : i < l.length + 1 := by simpa using hi
 by_cases hlt : i < l.length
 ·rw [List.getElem_append_left hlt, List.drop_append_of_le_length (by omega), List.take_append_of_le_length (by rw [List.length_drop]; omega)];exact h2 i hlt
 ·have : i = l.length := by omega
  subst this;rw [← h1, List.drop_left, ← hy, List.take_length];simp only [List.getElem_concat_length];exact hx
def FmtsQ (m : Mp) (A : Option Addr) (l : List FmtT) : Prop := ∃ xs, Rd m A xs ∧ FmsC m xs l
theorem FmtsQ.mono {m m' : Mp} {A : Option Addr} {l : List FmtT} (h : FmtsQ m A l) (hl : Le m m') : FmtsQ m' A l := by
 obtain ⟨xs, h1, h2⟩ := h;exact ⟨xs, h1.mono hl, h2.mono hl⟩
abbrev bkV (K : Option Addr) (k kc : Nat) (F : Option Addr) (f fc : Nat) : Value := .agg [.slice K k kc, .slice F f fc].toArray
def ReadPost (r : R BkT) (v : Value) (L' : List Ent) : Prop :=
 (∃ bk ts K kc F fc e, r = .ok bk ts ∧ v = .tuple [bkV K bk.cards.length kc F bk.fmts.length fc, faultV 0 0].toArray ∧ L' = [e] ∧ bk.cards.length ≤ 240 ∧ bk.fmts.length ≤ 240 ∧ ∀ ns, e.inv ns → CardsQ ns K bk.cards ∧ FmtsQ ns F bk.fmts) ∨
 (∃ e a, r = .bad e a ∧ v = .tuple [bkV none 0 0 none 0 0, faultV e a].toArray ∧ L' = [])
structure BkS where
 n : Nat
 at_ : Nat
 p : Nat
 ts : List Wrd
 cs : List CardT
 fs : List FmtT
 K : Option Addr
 kc : Nat
 xs : List Value
 F : Option Addr
 fc : Nat
 ys : List Value
 e : Ent
abbrev rB (b2 b3 : Nat) : Env := [(2, ptr b2), (3, ptr b3)]
def rGood (b2 b3 : Nat) (s : List UInt8) (env : Env) (L : List Ent) : Prop := Sub (rB b2 b3) env ∧ ∃ bk ts K kc F fc e, readP s = .ok bk ts ∧ L = [cel b3 [.int .i64 0, .int .i64 0] 31, cel b2 [.slice K bk.cards.length kc, .slice F bk.fmts.length fc] 25, e] ∧ bk.cards.length ≤ 240 ∧ bk.fmts.length ≤ 240 ∧ ∀ ns, e.inv ns → CardsQ ns K bk.cards ∧ FmtsQ ns F bk.fmts
def rBad (b2 b3 : Nat) (s : List UInt8) (env : Env) (v : Value) (L : List Ent) : Prop := Sub (rB b2 b3) env ∧ ∃ e a v1 v2 v3 v4, readP s = .bad e a ∧ v = fltV e a ∧ L = [cel b3 [v3, v4] 31, cel b2 [v1, v2] 25]
theorem Read_ok {m : Mp} (hT : Tabs m) {s : List UInt8} (hs : s.length ≤ 9223372036854775807) : CS Tryz.prog 20 [.string (bs s)] m [] (ReadPost (readP s)) := by
 intro h hs0 x0 d0;refine calls_of_wp_defers Tryz.func20 rfl ?_;refine at_W (x := ⟨x0.tape, x0.os, x0.out, []⟩) (h := h) (d := d0) rfl (fun a hag => ?_) (agD0 (by show 1 ≤ 102; decide))
 refine qo (m := m) (L := []) (K := fun env' L' => ∃ b2 b3, L' = [cel b3 [.int .i64 0, .int .i64 0] 31, cel b2 [.slice none 0 0, .slice none 0 0] 25] ∧ Sub [(0, .string (bs s)), (2, ptr b2), (3, ptr b3)] env') ?_ hs0 hag ?_
 ·refine tr 1 ?_;refine Al 0 zl25 fun b1 => ?_;refine Al 1 zl31 fun b2 => ?_;exact YK _ (Pick.refl _) ⟨b1, b2, rfl, rfl, rfl, rfl, trivial⟩
 rintro env1 _ h1 d1' a1' ⟨b2, b3, rfl, hsub⟩ hs1 hag1;have hag1 := hag1.sub hsub;cases hcut : cutP s with
 | error er =>
   obtain ⟨e, a⟩ := er;have he0 := cut_err hcut;have hrp : readP s = .bad e (a : Int) := by rw [readP, hcut]
   refine wp_TQ (x := ⟨x0.tape, x0.os, x0.out, []⟩) (Qr := endQ m (fun env L' => Sub (rB b2 b3) env ∧ L' = [cel b3 [.int .i64 e, .int .i64 (a : Nat)] 31, cel b2 [.slice none 0 0, .slice none 0 0] 25]) (fun _ _ _ => False)) ?_ hs1 hag1 ?_
   ·refine tr 3 ?_;refine zE ((zW cl48 rfl (fun m' hm he => Wm (hT.mono hm) hs) rfl ?_)) rfl;rintro _ _ hc;rw [hcut] at hc;obtain ⟨rfl, rfl⟩ := hc;unfold faultV;refine vr 4 ?_;refine Sg 6 ag31 .here ?_;refine Lb 0 sg29 .here ?_;refine cta 4 ?_;refine zc (sT [0] (.fork (sT [201, 302, 303] .done) (sT [302, 101, 303] .done))) mixed (by kernel_rfl) (fun _ _ _ _ hq => hq) ?_
    refine Vt 0 rfl (zT zl25 pl25 rfl rfl) ?_;refine xY ?_ ?_;refine xA rfl (yI ag31 rfl .here rfl) rfl rfl rfl ?_;refine zS rfl rfl (zQ ag25 rfl rfl rfl .h1 rfl rfl ?_) rfl;refine zS rfl rfl (zQ ag31 rfl rfl rfl .here rfl rfl ?_) rfl;refine Vm 3 ?_
    ·exact YL (Le.refl _) [_, _] (Pick.refl _) ⟨⟨rfl, rfl, trivial⟩, rfl⟩
    ·refine zS rfl rfl (zQ ag25 rfl rfl rfl .h1 rfl rfl ?_) rfl;refine Vu 0 rfl (yI ag31 rfl .here rfl) ?_;refine zS rfl rfl (zQ ag31 rfl rfl rfl .here rfl rfl ?_) rfl;refine Vm 3 ?_;exact YL (Le.refl _) [_, _] (Pick.refl _) ⟨⟨rfl, rfl, trivial⟩, rfl⟩
   ·rintro e1 env' h' d' a' hq hag';have hdf : a'.defers = [] := hag'.defers
    have good : ∀ L', (Sub (rB b2 b3) env' ∧ L' = [cel b3 [.int .i64 e, .int .i64 (a : Nat)] 31, cel b2 [.slice none 0 0, .slice none 0 0] 25]) → HS m L' h' → Leaves Tryz.prog Tryz.f20 a'.tmps (fun e w' => ∃ v h' d', e = Ending.returned v ∧ w' = W x0 h' d' ∧ postS m (ReadPost (readP s)) v h') [] .returning (W ⟨x0.tape, x0.os, x0.out, []⟩ h' d') := by
     rintro L' ⟨hsub, rfl⟩ hh;exact ⟨_, RvsOk.results (rs := [.cell 2 25, .cell 3 31]) rfl hag'.toAg (RvsS.ok hh (vs := [_, _]) ⟨⟨_, _, _, _, hsub.1, .h1, .inr ⟨ag25, rfl⟩⟩, ⟨_, _, _, _, hsub.2.1, .here, .inr ⟨ag31, rfl⟩⟩, trivial⟩), _, h', d', rfl, rfl, _, .inr ⟨e, a, hrp, rfl, rfl⟩, hh.tail.tail⟩
    cases e1 with
    | normal =>
      obtain ⟨L', hp, hh⟩ := hq;show Leaves _ _ _ _ a'.defers _ _;rw [hdf];exact good _ hp hh
    | ret =>
      obtain ⟨L', hp, hh⟩ := hq;show Leaves _ _ _ _ a'.defers _ _;rw [hdf];exact good _ hp hh
    | panic c => obtain ⟨v, L', _, hf, _⟩ := hq; exact hf.elim
    | exit i => exact hq.elim
    | goto i => exact hq.elim
    | outgrown => exact hq.elim
 | ok ws =>
   have hrp : readP s = pBook cardWt ws.length (ws.length + 1) [] [] ws := by rw [readP, hcut]
   have hpos := cut_pos hcut;refine qo (m := m) (K := fun env' L' => ∃ A c, L' = [cel b3 [.int .i64 0, .int .i64 0] 31, cel b2 [.slice none 0 0, .slice none 0 0] 25, own 101 4 A ws.length c (wsV ws)] ∧ Sub [(2, ptr b2), (3, ptr b3), (4, .slice A ws.length c)] env') ?_ hs1 hag1 ?_
   ·refine tr 2 ?_;refine zE ((zW cl48 rfl (fun m' hm he => Wm (hT.mono hm) hs) rfl ?_)) rfl;rintro _ _ hc;rw [hcut] at hc;obtain ⟨A, c, rfl, rfl⟩ := hc;unfold faultV;refine vr 4 ?_;refine Sg 1 ag31 .h1 ?_;exact YK _ (.cons .h1 (.cons .h1 .p0)) ⟨A, c, rfl, rfl, rfl, rfl, trivial⟩
   rintro env2 _ h2 d2' a2' ⟨A, c, rfl, hsub2⟩ hs2 hag2;have hag2 := hag2.sub hsub2;refine qo (m := m) (K := fun env' L' => L' = [cel b3 [.int .i64 0, .int .i64 0] 31, cel b2 [.slice none 0 0, .slice none 0 0] 25, own 101 4 A ws.length c (wsV ws)] ∧ Sub [(2, ptr b2), (3, ptr b3), (4, .slice A ws.length c)] env') ?_ hs2 hag2 ?_
   ·refine tr 3 ?_;refine Lb 0 sg29 .here ?_;refine cfo 4 ?_;exact YK _ (Pick.refl _) ⟨rfl, rfl, rfl, rfl, trivial⟩
   rintro env3 _ h3 d3' a3' ⟨rfl, hsub3⟩ hs3 hag3;have hag3 := hag3.sub hsub3;refine wp_seq ?_;refine XY rfl rfl hag3 fun a5' hag5 => ?_;refine wp_TQ (x := ⟨x0.tape, x0.os, x0.out, [dfr (.func 49) [ptr b2, ptr b3]]⟩) (Qr := endQ m (rGood b2 b3 s) (rBad b2 b3 s)) ?_ hs3 hag5 ?_
   ·refine zw .h2 (fun ns hi _ hd => ?_);have hw : WsR (uni m ns) A ws := (Eng.Own.rd hi).mono (yU hd);have hcap : ws.length ≤ c := Eng.Own.le hi;have hl2 : Le m (uni m ns) := yL _ _;have hT := hT.mono hl2;clear hi hd
    have hQk : ∀ {d : Nat} {c : _} {env : Env} {h : Heap}, Nat.blt 3 d = true → endQ m (rGood b2 b3 s) (rBad b2 b3 s) (.panic c) env h → endQ m (rGood b2 b3 s) (rBad b2 b3 s) (.panic c) (dropE d env) h := fun {d c env h} hd ⟨v, L', e, ⟨hsub, r⟩, hh⟩ => by
     rw [Nat.blt_eq] at hd;exact ⟨v, L', e, ⟨⟨(uc (by omega)).trans hsub.1, (uc (by omega)).trans hsub.2.1, trivial⟩, r⟩, hh⟩
    refine tr 3 ?_;refine pe 0 (zT zl99 pl99 rfl rfl) ?_;refine Bx 5 rfl fun b1 => ?_;refine wk 48 12 ?_;refine wk 40 7 ?_
    refine zZ (α := BkS) (fun y => [(2, ptr b2), (3, ptr b3), (5, ptr b1)]) (fun y => [rd b1 A c ws y.at_ 0 y.p, cel b2 [.slice y.K y.cs.length y.kc, .slice y.F y.fs.length y.fc] 25, cel b3 [.int .i64 0, .int .i64 0] 31, own 48 12 y.K y.cs.length y.kc y.xs, own 40 7 y.F y.fs.length y.fc y.ys, y.e])
     (fun y => pBook cardWt ws.length y.n y.cs y.fs y.ts = readP s ∧ Pos ws y.at_ y.ts ∧ y.ts.length < y.n ∧ y.cs.length ≤ 240 ∧ y.fs.length ≤ 240 ∧ ∀ ns, y.e.inv ns → CdsC ns y.xs y.cs ∧ FmsC ns y.ys y.fs) (fun y => y.n)
     ⟨ws.length + 1, 0, 0, ws, [], [], none, 0, [], none, 0, [], pack []⟩ ⟨rfl, rfl, rfl, trivial⟩ (.cons .h2 (.cons .h3 (.cons .h2 (.cons .h1 (.cons .here (Pick.nilE (.nil _))))))) ⟨hrp.symm, hpos, Nat.lt_succ_self _, Nat.zero_le _, Nat.zero_le _, fun ns _ => ⟨⟨rfl, fun i h => by cases h⟩, ⟨rfl, fun i h => by cases h⟩⟩⟩ ?_
    rintro ⟨j, at_, p, ts, cs, fs, K, kc, xs, F, fc, ys, e⟩ ⟨hF, hp, hj, hcs, hfs, he⟩;dsimp only at hF hp hj hcs hfs he;dsimp only;obtain ⟨j, rfl⟩ : ∃ j', j = j' + 1 := ⟨j - 1, by omega⟩;unfold pBook at hF;have hat := hp.word hw;have hA := hp.isSome hw;have hlt := hp.lt;have hsm := hp.small;have hlen := hp.len;by_cases h0 : (hd ts).kind = 0
    ·rw [if_pos h0] at hF;refine tr 2 ?_;refine wm (.step 0 .pure (.step 1 .pure (.step 2 .pure (.step 4 .pure (.step 5 .pure (.step 6 .pure (.step 3 .read (.step 7 .read (.step 8 .pure (.step 9 .pure (.step 10 .read (.step 11 .pure (.done))))))))))))) mixed (by kernel_rfl) 3 (by kernel_rfl) (fun _ _ _ _ hd hq => hQk hd hq) ?_;refine vt 6 ?_;refine Vl 0 rfl sg94 .here ?_
     refine Vl 0 rfl sg3 .here ?_;refine Vt 1 rfl (zC ez94 rfl rfl hA (by omega)) ?_;refine Vu 0 rfl (zR sg82 rfl (hat.at_ rfl)) ?_;refine Vt 0 rfl (df (Zu rfl rfl) (by omega)) ?_;refine Vm 4 ?_;refine zG ?_;refine zF ?_;refine qt 3 ?_;refine Lc 0 ag25 .h1 ?_;refine pe 0 (zT zl31 pl31 rfl rfl) ?_;refine Sg 0 ag25 .h1 ?_;refine Sg 3 ag31 .h2 ?_
     exact YL hl2 [_, _, _] (.cons .h2 (.cons .h1 (Pick.pack3 (.cons .h1 (.cons .h1 .p1))))) ⟨⟨rfl, rfl, trivial⟩, ⟨cs, fs⟩, ts, K, kc, F, fc, pack [own 48 12 K cs.length kc xs, own 40 7 F fs.length fc ys, e], hF.symm, rfl, hcs, hfs, fun ns h => ⟨⟨xs, Eng.Own.rd (h.1 _ (.head _)), (he ns (h.1 _ (.tail _ (.tail _ (.head _))))).1⟩, ⟨ys, Eng.Own.rd (h.1 _ (.tail _ (.head _))), (he ns (h.1 _ (.tail _ (.tail _ (.head _))))).2⟩⟩⟩
    rw [if_neg h0] at hF;refine tr 2 ?_;refine wm (.step 0 .pure (.step 1 .pure (.step 2 .pure (.step 4 .pure (.step 5 .pure (.step 6 .pure (.step 3 .read (.step 7 .read (.step 8 .pure (.step 9 .pure (.step 10 .read (.step 11 .pure (.done))))))))))))) mixed (by kernel_rfl) 3 (by kernel_rfl) (fun _ _ _ _ hd hq => hQk hd hq) ?_;refine vt 6 ?_;refine Vl 0 rfl sg94 .here ?_
    refine Vl 0 rfl sg3 .here ?_;refine Vt 1 rfl (zC ez94 rfl rfl hA (by omega)) ?_;refine Vu 0 rfl (zR sg82 rfl (hat.at_ rfl)) ?_;refine Vt 0 rfl (dt (Zu rfl rfl) (by assumption)) ?_;refine Vm 6 ?_
    refine wm (.step 0 .pure (.step 1 .pure (.step 2 .pure (.step 4 .pure (.step 5 .pure (.step 6 .pure (.step 3 .read (.step 7 .read (.step 8 .pure (.step 9 .pure (.step 10 .read (.step 11 .pure (.done))))))))))))) mixed (by kernel_rfl) 3 (by kernel_rfl) (fun _ _ _ _ hd hq => hQk hd hq) ?_;refine vt 6 ?_;refine Vl 0 rfl sg94 .here ?_;refine Vl 0 rfl sg3 .here ?_
    refine Vt 1 rfl (zC ez94 rfl rfl hA (by omega)) ?_;refine Vu 1 rfl (zR sg3 rfl (hat.at_ rfl)) ?_;refine Vm 5 ?_;refine C1 cl50 rfl .here (fun m' hm he => is18 (s := sCard) (hw.mono hm) hp (asc _ rfl) (by decide)) ?_;rintro _ _ ⟨rfl, rfl⟩;cases hkc : isW sCard ts with
    | true =>
      by_cases hf0 : fs.length = 0
      ·rw [if_pos ⟨hkc, hf0⟩] at hF;have hnx := hp.isW hkc
       have htl : ts.tail.length + 1 = ts.length := by
        have := hnx.len;omega
       by_cases h240 : cs.length = 240
       ·rw [if_pos h240] at hF;refine vr 2 ?_;refine Lb 1 sg23 .h1 ?_;refine cto 9 ?_;refine Lb 1 sg22 .h1 ?_;refine cto 5 ?_;refine Cp cl51 rfl .k0 (fun m' hm he => bad19 3 (hw.mono hm) hp) ?_ ?_
        ·rintro _ _ rfl;refine zp ?_;refine ze ?_;refine zp ?_;exact xa hl2 [_, _] (Pick.app (.cons .h1 .p0)) ⟨⟨rfl, rfl, trivial⟩, 3, _, _, _, _, _, hF.symm, rfl, rfl⟩
        ·rintro _ _ h;exact h.elim
       rw [if_neg h240] at hF;skip;refine vr 2 ?_;refine Lb 1 sg23 .h1 ?_;refine cto 9 ?_;refine Lb 1 sg22 .h1 ?_;refine cfo 10 ?_;refine Lb 0 sg3 .here ?_;refine Pa 2 ?_;refine Sr 2 co3 .here .h1 ?_
       refine wm (.step 0 .pure (.step 2 .pure (.step 3 .pure (.fork (.step 1 .kept (.step 4 .wild (.step 5 .kept (.step 6 .wild (.step 7 .pure (.step 8 .wild (.done))))))) (.step 4 .wild (.step 1 .read (.step 5 .kept (.step 6 .wild (.step 7 .pure (.step 8 .wild (.done))))))))))) mixed (by kernel_rfl) 3 (by kernel_rfl) (fun _ _ _ _ hd hq => hQk hd hq) ?_;refine vt 3 ?_;refine xY ?_ ?_
       refine xA rfl (uv sg22 rfl .h1 rfl) rfl rfl rfl ?_
       ·refine zS rfl rfl (yZ cl52 rfl .k0 (fun m' hm he => card20 (n := ws.length) (hT.mono hm) (hw.mono hm) hcap hnx (by omega)) rfl ?_ ?_) rfl
        ·rintro _ _ ⟨e', a', h1, rfl⟩;rw [h1] at hF;refine zp ?_;refine ze ?_;refine zp ?_;exact xa hl2 [_, _] (Pick.app (.cons .h1 .p0)) ⟨⟨rfl, rfl, trivial⟩, e', a', _, _, _, _, hF.symm, rfl, rfl⟩
        rintro _ _ ⟨x, ts2, at2, p2, q, ek, h1, hp2, h200, rfl, rfl, hnm, hwt, hk⟩;rw [h1] at hF;dsimp only [R.bind] at hF;have hlx := (jt (parts := cardWt) (n := ws.length) (at_ := (hd ts).at_) (ts := ts.tail) (by omega)).2 _ _ h1;clear h1;have e1 : cs.length + 1 = (cs ++ [x]).length := by simp
        refine zn rfl (yq sl22 rfl rfl rfl rfl (fun b4 => ?_)) rfl;refine zS rfl rfl (zx sl22 rfl rfl rfl rfl .here (fun _ _ => .h5) rfl rfl (by first | omega | (simp only [maxLen]; omega)) (by omega) rfl (fun A1 c1 => ?_)) rfl;refine vt 1 ?_;refine zS rfl rfl (yd co22 rfl rfl rfl .h3 .here ?_) rfl;refine Vm 2 ?_;rw [e1]
        exact QR (⟨j, at2, p2, ts2, cs ++ [x], fs, A1, c1, xs ++ q.v x, F, fc, ys, pack [ek, e]⟩ : BkS) (.cons .h1 (.cons .h2 (.cons .h2 (.cons .h2 (.cons .h2 (Pick.pack2 (.cons .h1 .p1)))))))
         ⟨hF, hp2, by show ts2.length < j; omega, by show (cs ++ [x]).length ≤ 240; rw [← e1]; omega, hfs, fun ns h => ⟨(he ns (h.1 _ (.tail _ (.head _)))).1.snoc ⟨q, rfl, hnm, hk ns (h.1 _ (.head _))⟩ rfl, (he ns (h.1 _ (.tail _ (.head _)))).2⟩⟩ (Nat.lt_succ_self _)
       ·skip;refine zS rfl rfl (yZ cl52 rfl .k0 (fun m' hm he => card20 (n := ws.length) (hT.mono hm) (hw.mono hm) hcap hnx (by omega)) rfl ?_ ?_) rfl
        ·rintro _ _ ⟨e', a', h1, rfl⟩;rw [h1] at hF;refine zp ?_;refine ze ?_;refine zp ?_;exact xa hl2 [_, _] (Pick.app (.cons .h1 .p0)) ⟨⟨rfl, rfl, trivial⟩, e', a', _, _, _, _, hF.symm, rfl, rfl⟩
        rintro _ _ ⟨x, ts2, at2, p2, q, ek, h1, hp2, h200, rfl, rfl, hnm, hwt, hk⟩;rw [h1] at hF;dsimp only [R.bind] at hF;have hlx := (jt (parts := cardWt) (n := ws.length) (at_ := (hd ts).at_) (ts := ts.tail) (by omega)).2 _ _ h1;clear h1;have e1 : cs.length + 1 = (cs ++ [x]).length := by simp
        refine Vl 0 rfl sg22 .h2 ?_;refine zn rfl (yq sl22 rfl rfl rfl rfl (fun b4 => ?_)) rfl;refine zS rfl rfl (zx sl22 rfl rfl rfl rfl .here (fun _ _ => .h5) rfl rfl (by first | omega | (simp only [maxLen]; omega)) (by omega) rfl (fun A1 c1 => ?_)) rfl;refine vt 1 ?_;refine zS rfl rfl (yd co22 rfl rfl rfl .h3 .here ?_) rfl;refine Vm 2 ?_;rw [e1]
        exact QR (⟨j, at2, p2, ts2, cs ++ [x], fs, A1, c1, xs ++ q.v x, F, fc, ys, pack [ek, e]⟩ : BkS) (.cons .h1 (.cons .h2 (.cons .h2 (.cons .h2 (.cons .h2 (Pick.pack2 (.cons .h1 .p1)))))))
         ⟨hF, hp2, by show ts2.length < j; omega, by show (cs ++ [x]).length ≤ 240; rw [← e1]; omega, hfs, fun ns h => ⟨(he ns (h.1 _ (.tail _ (.head _)))).1.snoc ⟨q, rfl, hnm, hk ns (h.1 _ (.head _))⟩ rfl, (he ns (h.1 _ (.tail _ (.head _)))).2⟩⟩ (Nat.lt_succ_self _)
      rw [if_neg (fun h => hf0 h.2)] at hF;refine vr 2 ?_;refine Lb 1 sg23 .h1 ?_;refine cfo 8 ?_;refine C1 cl50 rfl .here (fun m' hm he => is18 (s := sFormat) (hw.mono hm) hp (asc _ rfl) (by decide)) ?_;rintro _ _ ⟨rfl, rfl⟩;cases hkf : isW sFormat ts with
      | true =>
        rw [if_pos hkf] at hF;have hnx := hp.isW hkf
        have htl : ts.tail.length + 1 = ts.length := by
         have := hnx.len;omega
        by_cases h240 : fs.length = 240
        ·rw [if_pos h240] at hF;refine vr 8 ?_;refine Lb 1 sg23 .h1 ?_;refine cto 5 ?_;refine Cp cl51 rfl .k0 (fun m' hm he => bad19 3 (hw.mono hm) hp) ?_ ?_
         ·rintro _ _ rfl;refine zp ?_;refine ze ?_;refine zp ?_;exact xa hl2 [_, _] (Pick.app (.cons .h1 .p0)) ⟨⟨rfl, rfl, trivial⟩, 3, _, _, _, _, _, hF.symm, rfl, rfl⟩
         ·rintro _ _ h;exact h.elim
        rw [if_neg h240] at hF;skip;refine vr 8 ?_;refine Lb 1 sg23 .h1 ?_;refine cfo 10 ?_;refine Lb 0 sg3 .here ?_;refine Pa 2 ?_;refine Sr 2 co3 .here .h1 ?_
        refine wm (.step 0 .pure (.step 2 .pure (.step 3 .pure (.fork (.step 1 .kept (.step 4 .wild (.step 5 .kept (.step 6 .wild (.step 7 .pure (.step 8 .wild (.done))))))) (.step 4 .wild (.step 1 .read (.step 5 .kept (.step 6 .wild (.step 7 .pure (.step 8 .wild (.done))))))))))) mixed (by kernel_rfl) 3 (by kernel_rfl) (fun _ _ _ _ hd hq => hQk hd hq) ?_;refine vt 3 ?_;refine xY ?_ ?_
        refine xA rfl (uv sg23 rfl .h1 rfl) rfl rfl rfl ?_
        ·refine zS rfl rfl (yZ cl53 rfl .k0 (fun m' hm he => format21 (n := ws.length) (hT.mono hm) (hw.mono hm) hnx (by omega)) rfl ?_ ?_) rfl
         ·rintro _ _ ⟨e', a', h1, rfl⟩;rw [h1] at hF;refine zp ?_;refine ze ?_;refine zp ?_;exact xa hl2 [_, _] (Pick.app (.cons .h1 .p0)) ⟨⟨rfl, rfl, trivial⟩, e', a', _, _, _, _, hF.symm, rfl, rfl⟩
         rintro _ _ ⟨x, ts2, at2, p2, q, ek, h1, hp2, h200, rfl, rfl, hok, hk⟩;rw [h1] at hF;dsimp only [R.bind] at hF;have hlx := (um (n := ws.length) (at_ := (hd ts).at_) (ts := ts.tail) (by omega)).2 _ _ h1;clear h1;have e1 : fs.length + 1 = (fs ++ [x]).length := by simp
         refine zn rfl (yq sl23 rfl rfl rfl rfl (fun b4 => ?_)) rfl;refine zS rfl rfl (zx sl23 rfl rfl rfl rfl .here (fun _ _ => .h6) rfl rfl (by first | omega | (simp only [maxLen]; omega)) (by omega) rfl (fun A1 c1 => ?_)) rfl;refine vt 1 ?_;refine zS rfl rfl (yd co23 rfl rfl rfl .h3 .h1 ?_) rfl;refine Vm 2 ?_;rw [e1]
         exact QR (⟨j, at2, p2, ts2, cs, fs ++ [x], K, kc, xs, A1, c1, ys ++ q.v x, pack [ek, e]⟩ : BkS) (.cons .h1 (.cons .h2 (.cons .h2 (.cons .h2 (.cons .h2 (Pick.pack2 (.cons .h1 .p1)))))))
          ⟨hF, hp2, by show ts2.length < j; omega, hcs, by show (fs ++ [x]).length ≤ 240; rw [← e1]; omega, fun ns h => ⟨(he ns (h.1 _ (.tail _ (.head _)))).1, (he ns (h.1 _ (.tail _ (.head _)))).2.snoc ⟨q, rfl, hok, hk ns (h.1 _ (.head _))⟩ rfl⟩⟩ (Nat.lt_succ_self _)
        ·skip;refine zS rfl rfl (yZ cl53 rfl .k0 (fun m' hm he => format21 (n := ws.length) (hT.mono hm) (hw.mono hm) hnx (by omega)) rfl ?_ ?_) rfl
         ·rintro _ _ ⟨e', a', h1, rfl⟩;rw [h1] at hF;refine zp ?_;refine ze ?_;refine zp ?_;exact xa hl2 [_, _] (Pick.app (.cons .h1 .p0)) ⟨⟨rfl, rfl, trivial⟩, e', a', _, _, _, _, hF.symm, rfl, rfl⟩
         rintro _ _ ⟨x, ts2, at2, p2, q, ek, h1, hp2, h200, rfl, rfl, hok, hk⟩;rw [h1] at hF;dsimp only [R.bind] at hF;have hlx := (um (n := ws.length) (at_ := (hd ts).at_) (ts := ts.tail) (by omega)).2 _ _ h1;clear h1;have e1 : fs.length + 1 = (fs ++ [x]).length := by simp
         refine Vl 0 rfl sg23 .h2 ?_;refine zn rfl (yq sl23 rfl rfl rfl rfl (fun b4 => ?_)) rfl;refine zS rfl rfl (zx sl23 rfl rfl rfl rfl .here (fun _ _ => .h6) rfl rfl (by first | omega | (simp only [maxLen]; omega)) (by omega) rfl (fun A1 c1 => ?_)) rfl;refine vt 1 ?_;refine zS rfl rfl (yd co23 rfl rfl rfl .h3 .h1 ?_) rfl;refine Vm 2 ?_;rw [e1]
         exact QR (⟨j, at2, p2, ts2, cs, fs ++ [x], K, kc, xs, A1, c1, ys ++ q.v x, pack [ek, e]⟩ : BkS) (.cons .h1 (.cons .h2 (.cons .h2 (.cons .h2 (.cons .h2 (Pick.pack2 (.cons .h1 .p1)))))))
          ⟨hF, hp2, by show ts2.length < j; omega, hcs, by show (fs ++ [x]).length ≤ 240; rw [← e1]; omega, fun ns h => ⟨(he ns (h.1 _ (.tail _ (.head _)))).1, (he ns (h.1 _ (.tail _ (.head _)))).2.snoc ⟨q, rfl, hok, hk ns (h.1 _ (.head _))⟩ rfl⟩⟩ (Nat.lt_succ_self _)
      | false =>
        rw [if_neg (by rw [hkf]; decide)] at hF;refine vr 6 ?_;refine Cp cl51 rfl .k0 (fun m' hm he => bad19 120 (hw.mono hm) hp) ?_ ?_
        ·rintro _ _ rfl;refine zp ?_;refine ze ?_;refine zp ?_;exact xa hl2 [_, _] (Pick.app (.cons .h1 .p0)) ⟨⟨rfl, rfl, trivial⟩, 120, _, _, _, _, _, hF.symm, rfl, rfl⟩
        ·rintro _ _ h;exact h.elim
    | false =>
      rw [if_neg (fun h => by rw [hkc] at h; cases h.1)] at hF;refine vr 13 ?_;refine C1 cl50 rfl .here (fun m' hm he => is18 (s := sFormat) (hw.mono hm) hp (asc _ rfl) (by decide)) ?_;rintro _ _ ⟨rfl, rfl⟩;cases hkf : isW sFormat ts with
      | true =>
        rw [if_pos hkf] at hF;have hnx := hp.isW hkf
        have htl : ts.tail.length + 1 = ts.length := by
         have := hnx.len;omega
        by_cases h240 : fs.length = 240
        ·rw [if_pos h240] at hF;refine vr 8 ?_;refine Lb 1 sg23 .h1 ?_;refine cto 5 ?_;refine Cp cl51 rfl .k0 (fun m' hm he => bad19 3 (hw.mono hm) hp) ?_ ?_
         ·rintro _ _ rfl;refine zp ?_;refine ze ?_;refine zp ?_;exact xa hl2 [_, _] (Pick.app (.cons .h1 .p0)) ⟨⟨rfl, rfl, trivial⟩, 3, _, _, _, _, _, hF.symm, rfl, rfl⟩
         ·rintro _ _ h;exact h.elim
        rw [if_neg h240] at hF;skip;refine vr 8 ?_;refine Lb 1 sg23 .h1 ?_;refine cfo 10 ?_;refine Lb 0 sg3 .here ?_;refine Pa 2 ?_;refine Sr 2 co3 .here .h1 ?_
        refine wm (.step 0 .pure (.step 2 .pure (.step 3 .pure (.fork (.step 1 .kept (.step 4 .wild (.step 5 .kept (.step 6 .wild (.step 7 .pure (.step 8 .wild (.done))))))) (.step 4 .wild (.step 1 .read (.step 5 .kept (.step 6 .wild (.step 7 .pure (.step 8 .wild (.done))))))))))) mixed (by kernel_rfl) 3 (by kernel_rfl) (fun _ _ _ _ hd hq => hQk hd hq) ?_;refine vt 3 ?_;refine xY ?_ ?_
        refine xA rfl (uv sg23 rfl .h1 rfl) rfl rfl rfl ?_
        ·refine zS rfl rfl (yZ cl53 rfl .k0 (fun m' hm he => format21 (n := ws.length) (hT.mono hm) (hw.mono hm) hnx (by omega)) rfl ?_ ?_) rfl
         ·rintro _ _ ⟨e', a', h1, rfl⟩;rw [h1] at hF;refine zp ?_;refine ze ?_;refine zp ?_;exact xa hl2 [_, _] (Pick.app (.cons .h1 .p0)) ⟨⟨rfl, rfl, trivial⟩, e', a', _, _, _, _, hF.symm, rfl, rfl⟩
         rintro _ _ ⟨x, ts2, at2, p2, q, ek, h1, hp2, h200, rfl, rfl, hok, hk⟩;rw [h1] at hF;dsimp only [R.bind] at hF;have hlx := (um (n := ws.length) (at_ := (hd ts).at_) (ts := ts.tail) (by omega)).2 _ _ h1;clear h1;have e1 : fs.length + 1 = (fs ++ [x]).length := by simp
         refine zn rfl (yq sl23 rfl rfl rfl rfl (fun b4 => ?_)) rfl;refine zS rfl rfl (zx sl23 rfl rfl rfl rfl .here (fun _ _ => .h6) rfl rfl (by first | omega | (simp only [maxLen]; omega)) (by omega) rfl (fun A1 c1 => ?_)) rfl;refine vt 1 ?_;refine zS rfl rfl (yd co23 rfl rfl rfl .h3 .h1 ?_) rfl;refine Vm 2 ?_;rw [e1]
         exact QR (⟨j, at2, p2, ts2, cs, fs ++ [x], K, kc, xs, A1, c1, ys ++ q.v x, pack [ek, e]⟩ : BkS) (.cons .h1 (.cons .h2 (.cons .h2 (.cons .h2 (.cons .h2 (Pick.pack2 (.cons .h1 .p1)))))))
          ⟨hF, hp2, by show ts2.length < j; omega, hcs, by show (fs ++ [x]).length ≤ 240; rw [← e1]; omega, fun ns h => ⟨(he ns (h.1 _ (.tail _ (.head _)))).1, (he ns (h.1 _ (.tail _ (.head _)))).2.snoc ⟨q, rfl, hok, hk ns (h.1 _ (.head _))⟩ rfl⟩⟩ (Nat.lt_succ_self _)
        ·skip;refine zS rfl rfl (yZ cl53 rfl .k0 (fun m' hm he => format21 (n := ws.length) (hT.mono hm) (hw.mono hm) hnx (by omega)) rfl ?_ ?_) rfl
         ·rintro _ _ ⟨e', a', h1, rfl⟩;rw [h1] at hF;refine zp ?_;refine ze ?_;refine zp ?_;exact xa hl2 [_, _] (Pick.app (.cons .h1 .p0)) ⟨⟨rfl, rfl, trivial⟩, e', a', _, _, _, _, hF.symm, rfl, rfl⟩
         rintro _ _ ⟨x, ts2, at2, p2, q, ek, h1, hp2, h200, rfl, rfl, hok, hk⟩;rw [h1] at hF;dsimp only [R.bind] at hF;have hlx := (um (n := ws.length) (at_ := (hd ts).at_) (ts := ts.tail) (by omega)).2 _ _ h1;clear h1;have e1 : fs.length + 1 = (fs ++ [x]).length := by simp
         refine Vl 0 rfl sg23 .h2 ?_;refine zn rfl (yq sl23 rfl rfl rfl rfl (fun b4 => ?_)) rfl;refine zS rfl rfl (zx sl23 rfl rfl rfl rfl .here (fun _ _ => .h6) rfl rfl (by first | omega | (simp only [maxLen]; omega)) (by omega) rfl (fun A1 c1 => ?_)) rfl;refine vt 1 ?_;refine zS rfl rfl (yd co23 rfl rfl rfl .h3 .h1 ?_) rfl;refine Vm 2 ?_;rw [e1]
         exact QR (⟨j, at2, p2, ts2, cs, fs ++ [x], K, kc, xs, A1, c1, ys ++ q.v x, pack [ek, e]⟩ : BkS) (.cons .h1 (.cons .h2 (.cons .h2 (.cons .h2 (.cons .h2 (Pick.pack2 (.cons .h1 .p1)))))))
          ⟨hF, hp2, by show ts2.length < j; omega, hcs, by show (fs ++ [x]).length ≤ 240; rw [← e1]; omega, fun ns h => ⟨(he ns (h.1 _ (.tail _ (.head _)))).1, (he ns (h.1 _ (.tail _ (.head _)))).2.snoc ⟨q, rfl, hok, hk ns (h.1 _ (.head _))⟩ rfl⟩⟩ (Nat.lt_succ_self _)
      | false =>
        rw [if_neg (by rw [hkf]; decide)] at hF;refine vr 6 ?_;refine Cp cl51 rfl .k0 (fun m' hm he => bad19 120 (hw.mono hm) hp) ?_ ?_
        ·rintro _ _ rfl;refine zp ?_;refine ze ?_;refine zp ?_;exact xa hl2 [_, _] (Pick.app (.cons .h1 .p0)) ⟨⟨rfl, rfl, trivial⟩, 120, _, _, _, _, _, hF.symm, rfl, rfl⟩
        ·rintro _ _ h;exact h.elim
   ·rintro e1 env' h' d' a' hq hag';have hdf : a'.defers = [dfr (.func 49) [ptr b2, ptr b3]] := hag'.defers
    have good : ∀ L', rGood b2 b3 s env' L' → ∀ h2 d2, HS m L' h2 → ∃ vs, RvsOk Tryz.prog env' h2 [.cell 2 25, .cell 3 31] vs ∧ ∃ v h' d', Ending.returned (tup vs) = .returned v ∧ W x0 h2 d2 = W x0 h' d' ∧ postS m (ReadPost (readP s)) v h' := by
     rintro L' ⟨hsub, bk, ts, K, kc, F, fc, e, hx, rfl, hcs, hfs, he⟩ h2 d2 hh;exact ⟨[_, _], RvsS.ok hh ⟨⟨_, _, _, _, hsub.1, .h1, .inr ⟨ag25, rfl⟩⟩, ⟨_, _, _, _, hsub.2.1, .here, .inr ⟨ag31, rfl⟩⟩, trivial⟩, _, h2, d2, rfl, rfl, _, .inl ⟨bk, ts, K, kc, F, fc, e, hx, rfl, rfl, hcs, hfs, he⟩, hh.tail.tail⟩
    have bad : ∀ e a : Int, Sub (rB b2 b3) env' → readP s = .bad e a → ∀ h2 d2, HS m [cel b3 [.int .i64 e, .int .i64 a] 31, cel b2 [.slice none 0 0, .slice none 0 0] 25] h2 → ∃ vs, RvsOk Tryz.prog env' h2 [.cell 2 25, .cell 3 31] vs ∧ ∃ v h' d', Ending.returned (tup vs) = .returned v ∧ W x0 h2 d2 = W x0 h' d' ∧ postS m (ReadPost (readP s)) v h' := by
     rintro e a hsub hx h2 d2 hh;exact ⟨[_, _], RvsS.ok hh ⟨⟨_, _, _, _, hsub.1, .h1, .inr ⟨ag25, rfl⟩⟩, ⟨_, _, _, _, hsub.2.1, .here, .inr ⟨ag31, rfl⟩⟩, trivial⟩, _, h2, d2, rfl, rfl, _, .inr ⟨e, a, hx, rfl, rfl⟩, hh.tail.tail⟩
    cases e1 with
    | normal =>
      obtain ⟨L', hp, hh⟩ := hq;show Leaves _ _ _ _ a'.defers _ _;rw [hdf];exact uG (post := fun _ L2 => L2 = L') (rs := [.cell 2 25, .cell 3 31]) rfl (by kernel_rfl) (by simp) rfl (Yn hh) hag'.toAg (fun h2 d2 L2 e hs2 => by subst e; exact good _ hp h2 d2 hs2)
    | ret =>
      obtain ⟨L', hp, hh⟩ := hq;show Leaves _ _ _ _ a'.defers _ _;rw [hdf];exact uG (post := fun _ L2 => L2 = L') (rs := [.cell 2 25, .cell 3 31]) rfl (by kernel_rfl) (by simp) rfl (Yn hh) hag'.toAg (fun h2 d2 L2 e hs2 => by subst e; exact good _ hp h2 d2 hs2)
    | panic c =>
      obtain ⟨v', L', rfl, ⟨hsub, e, a, v1, v2, v3, v4, hx, hv, rfl⟩, hh⟩ := hq;show Leaves _ _ _ _ a'.defers _ _;rw [hdf]
      exact uG (post := fun _ L2 => L2 = [cel b3 [.int .i64 e, .int .i64 a] 31, cel b2 [.slice none 0 0, .slice none 0 0] 25]) (rs := [.cell 2 25, .cell 3 31]) rfl (by kernel_rfl) (by simp) rfl (D17_pan hv hh) hag'.toAg (fun h2 d2 L2 e' hs2 => by subst e'; exact bad e a hsub hx h2 d2 hs2)
    | exit i => exact hq.elim
    | goto i => exact hq.elim
    | outgrown => exact hq.elim
end
section
open Wd Tp Kd
variable {m : Mp}
def CardX (m : Mp) (vs : List Value) (c : CardT) : Prop := ∃ q : CardC, vs = q.v c ∧ EffsR m q.A c.played.length c.played ∧ EffsR m q.B c.dead.length c.dead ∧ EffsR m q.D c.dawn.length c.dawn
def FmtX (m : Mp) (vs : List Value) (f : FmtT) : Prop := ∃ q : FmtC, vs = q.v f ∧ RdN m q.A q.ca f.banned ∧ RdN m q.B q.cb f.single
theorem CardX.mono {m m' : Mp} {vs : List Value} {c : CardT} (h : CardX m vs c) (hl : Le m m') : CardX m' vs c := by
 obtain ⟨q, h1, h2, h3, h4⟩ := h;exact ⟨q, h1, h2.mono hl, h3.mono hl, h4.mono hl⟩
theorem FmtX.mono {m m' : Mp} {vs : List Value} {f : FmtT} (h : FmtX m vs f) (hl : Le m m') : FmtX m' vs f := by
 obtain ⟨q, h1, h2, h3⟩ := h;exact ⟨q, h1, h2.mono hl, h3.mono hl⟩
def CardsX (m : Mp) (A : Option Addr) (l : List CardT) : Prop := ∃ vs, Rd m A vs ∧ vs.length = l.length * 12 ∧ ∀ (i : Nat) (hi : i < l.length), CardX m ((vs.drop (i * 12)).take 12) l[i]
def FmtsX (m : Mp) (A : Option Addr) (l : List FmtT) : Prop := ∃ vs, Rd m A vs ∧ vs.length = l.length * 7 ∧ ∀ (i : Nat) (hi : i < l.length), FmtX m ((vs.drop (i * 7)).take 7) l[i]
theorem CardsX.mono {m m' : Mp} {A : Option Addr} {l : List CardT} (h : CardsX m A l) (hl : Le m m') : CardsX m' A l := by
 obtain ⟨vs, h1, h2, h3⟩ := h;exact ⟨vs, h1.mono hl, h2, fun i hi => (h3 i hi).mono hl⟩
theorem FmtsX.mono {m m' : Mp} {A : Option Addr} {l : List FmtT} (h : FmtsX m A l) (hl : Le m m') : FmtsX m' A l := by
 obtain ⟨vs, h1, h2, h3⟩ := h;exact ⟨vs, h1.mono hl, h2, fun i hi => (h3 i hi).mono hl⟩
theorem CardQ.x {m : Mp} {vs : List Value} {c : CardT} (h : CardQ m vs c) : CardX m vs c := by
 obtain ⟨q, h1, -, h2, h3, h4⟩ := h;exact ⟨q, h1, h2, h3, h4⟩
theorem FmtQ.x {m : Mp} {vs : List Value} {f : FmtT} (h : FmtQ m vs f) : FmtX m vs f := by
 obtain ⟨q, h1, -, h2, h3⟩ := h;exact ⟨q, h1, h2, h3⟩
theorem CardsQ.x {m : Mp} {A : Option Addr} {l : List CardT} (h : CardsQ m A l) : CardsX m A l := by
 obtain ⟨vs, h1, h2, h3⟩ := h;exact ⟨vs, h1, h2, fun i hi => CardQ.x (h3 i hi)⟩
theorem FmtsQ.x {m : Mp} {A : Option Addr} {l : List FmtT} (h : FmtsQ m A l) : FmtsX m A l := by
 obtain ⟨vs, h1, h2, h3⟩ := h;exact ⟨vs, h1, h2, fun i hi => FmtQ.x (h3 i hi)⟩
def sameC (x y : CardT) : Prop := x.name = y.name ∧ x.unit = y.unit ∧ x.cost = y.cost ∧ x.power = y.power ∧ x.health = y.health ∧ x.shield = y.shield ∧ x.apow = y.apow ∧ x.aheal = y.aheal ∧ x.played = y.played ∧ x.dead = y.dead ∧ x.dawn = y.dawn
def sameF (x y : FmtT) : Prop := x.name = y.name ∧ x.least = y.least ∧ x.most = y.most ∧ x.copies = y.copies ∧ x.banned = y.banned ∧ x.single = y.single
structure sameB (a b : BkT) : Prop where
 lc : a.cards.length = b.cards.length
 lf : a.fmts.length = b.fmts.length
 c : ∀ (i : Nat) (h : i < a.cards.length) (h' : i < b.cards.length), sameC a.cards[i] b.cards[i]
 f : ∀ (i : Nat) (h : i < a.fmts.length) (h' : i < b.fmts.length), sameF a.fmts[i] b.fmts[i]
theorem sameB.rfl (a : BkT) : sameB a a := ⟨_root_.rfl, _root_.rfl, fun _ _ _ => ⟨_root_.rfl, _root_.rfl, _root_.rfl, _root_.rfl, _root_.rfl, _root_.rfl, _root_.rfl, _root_.rfl, _root_.rfl, _root_.rfl, _root_.rfl⟩, fun _ _ _ => ⟨_root_.rfl, _root_.rfl, _root_.rfl, _root_.rfl, _root_.rfl, _root_.rfl⟩⟩
def FmL (b : BkT) : Prop := b.cards.length ≤ 140737488355328 ∧ b.fmts.length ≤ 140737488355328 ∧ ∀ f ∈ b.fmts, f.banned.length ≤ 140737488355328 ∧ f.single.length ≤ 140737488355328
abbrev bk2 (K : Option Addr) (n kc : Nat) (F : Option Addr) (f fc : Nat) : List Value := [.slice K n kc, .slice F f fc]
theorem j1 {α : Type} {Q : Post} {S : α → Env} {LL : α → List Ent} {F : α → Prop} {μ : α → Nat} {k : Nat} {env : Env} {L : List Ent} {m m2 : Mp} (hl : Le m m2) (y : α) (hs : Sub (S y) env) (hp : Pick L (LL y)) (hF : F y) (hk : μ y < k) : QS (roundS m S LL F μ k Q) .normal env m2 L :=
 fun h hh => ⟨y, hs, ⟨hF, (hp m2 h hh).weaken hl⟩, hk⟩
end
section
open Wd Tp Kd
variable {m : Mp}
theorem equal45 {A A' : Option Addr} {c c' : Nat} {l l' : List (List UInt8)} (hA : Rd m A (l.map strV)) (hA' : Rd m A' (l'.map strV)) (hl : l.length ≤ 140737488355328) (hl' : l'.length ≤ 140737488355328) : CS Tryz.prog 45 [.slice A l.length c, .slice A' l'.length c'] m [] (SameV (l = l')) := by
 skip;have hl2 := Le.refl m;refine zl [.tmp 4] Tryz.func45 rfl rfl rfl ?_;by_cases g0 : l.length = l'.length
 rotate_left
 ·refine tr 12 ?_;refine cto 10 ?_;exact rt2 hl2 ⟨rfl, trivial⟩ ⟨.inr ⟨rfl, fun h => g0 (by rw [h])⟩, rfl⟩
 refine tr 12 ?_;refine cfo 14 ?_
 refine zZ (α := Nat) (fun i => [(0, .slice A l.length c), (1, .slice A' l'.length c'), (11, .slice A l.length c), (12, .int .i64 (l.length : Nat)), (13, .int .i64 (i : Nat))]) (fun _ => []) (fun i => i ≤ l.length ∧ ∀ (j : Nat) (h : j < l.length) (h' : j < l'.length), j < i → l[j] = l'[j]) (fun i => l.length - i) 0 ⟨rfl, rfl, rfl, rfl, rfl, trivial⟩ (Pick.nil _) ⟨Nat.zero_le _, fun _ _ _ h => by cases h⟩ ?_
 rintro i ⟨hi, hall⟩;by_cases hlt : i < l.length
 ·have hlt2 : i < l'.length := by omega
  have hX : A.isSome = true := hA.isSome (by rw [List.length_map]; omega);have hX2 : A'.isSome = true := hA'.isSome (by rw [List.length_map]; omega);have hcx := hA.at_ (show (l.map strV)[i]? = some (.string (bs l[i])) by simp [hlt, strV]);have hcy := hA'.at_ (show (l'.map strV)[i]? = some (.string (bs l'[i])) by simp [hlt2, strV])
  have hnx : l[i] = l'[i] → ∀ (j : Nat) (h : j < l.length) (h' : j < l'.length), j < i + 1 → l[j] = l'[j] := fun hq j h h' hj => by
   by_cases hji : j < i
   ·exact hall j h h' hji
   ·obtain rfl : j = i := by omega
    exact hq
  have hno : l[i] ≠ l'[i] → l ≠ l' := fun hq h => hq (by subst h; rfl);generalize l[i] = s at hcx hnx hno;generalize l'[i] = t at hcy hnx hno;by_cases hst : s = t
  ·refine tr 2 ?_;refine cto 15 ?_;refine Db (sq [0, 1, 2, 3, 4, 5, 6, 7, 8] .done) ?_;refine vB 2 ?_;refine Vb 0 rfl (zm ez38 rfl rfl hX (by omega)) ?_;refine Vr 2 rfl (zR sg9 rfl hcx) ?_;refine Vb 0 rfl (zm ez38 rfl rfl hX2 (by omega)) ?_;refine Vr 0 rfl (zR sg9 rfl hcy) ?_;refine Vb 0 rfl (df (jW rfl rfl) (fun hx => hx (by assumption))) ?_;refine Vn 6 ?_
   refine Pa 2 ?_;exact j1 hl2 (i + 1) ⟨rfl, rfl, rfl, rfl, rfl, trivial⟩ (Pick.nil _) ⟨hlt, hnx hst⟩ (by omega)
  ·refine tr 2 ?_;refine cto 15 ?_;refine Db (sq [0, 1, 2, 3, 4, 5, 6, 7, 8] .done) ?_;refine vB 2 ?_;refine Vb 0 rfl (zm ez38 rfl rfl hX (by omega)) ?_;refine Vr 2 rfl (zR sg9 rfl hcx) ?_;refine Vb 0 rfl (zm ez38 rfl rfl hX2 (by omega)) ?_;refine Vr 0 rfl (zR sg9 rfl hcy) ?_;refine Vb 0 rfl (dt (jW rfl rfl) (by assumption)) ?_;refine Vn 10 ?_
   refine zI ?_;refine zH ?_;refine zL ?_;exact rt2 hl2 ⟨rfl, trivial⟩ ⟨.inr ⟨rfl, hno hst⟩, rfl⟩
 ·have hi2 : i = l.length := by omega
  subst hi2;have hkk2 : l = l' := List.ext_getElem g0 fun j h h' => hall j h h' h;refine tr 2 ?_;refine cfo 6 ?_;refine zG ?_;refine zF ?_;refine qt 7 ?_;exact rt2 hl2 ⟨rfl, trivial⟩ ⟨.inl ⟨rfl, hkk2⟩, rfl⟩
theorem effs42 {b : Nat} {A A' : Option Addr} {c c' : Nat} {l l' : List EffT} (hb : At m ⟨b, 0, none⟩ []) (h : EffsR m A l.length l) (h' : EffsR m A' l'.length l') : CS Tryz.prog 42 [.slice A l.length c, .slice A' l'.length c', ptr b] m [] (SameV (l = l')) := by
 refine zl [.tmp 5] Tryz.func42 rfl rfl rfl ?_;refine tr 9 ?_;refine La 1 ag50 hb ?_;refine zE ((zW cl43 rfl (fun m' hm he => bE l m' A c l' A' c' (h.mono hm) (h'.mono hm)) rfl ?_)) rfl;rintro _ _ ⟨⟨rfl, hq⟩ | ⟨rfl, hq⟩, rfl⟩
 ·refine vr 4 ?_;exact rt1 ⟨rfl, trivial⟩ ⟨.inl ⟨rfl, hq⟩, rfl⟩
 ·refine vr 4 ?_;exact rt1 ⟨rfl, trivial⟩ ⟨.inr ⟨rfl, hq⟩, rfl⟩
theorem vD {P : Program} {n : Nat} {env : Env} {dst : Option Nat} {t yt ty : TypeId} {x y : Operand} {pos : String} {aft : Array Edge} {gd : Option (Nat × Bool)} {p : Bool} (ht : isBoolT P t = true) (hx : ev env x = some (.bool p)) (hy : ev env y = some (.bool p)) : PureV P n ⟨dst, .binOp .eql t x y yt, ty, pos, aft, gd⟩ env (.bool true) := by
 have h := yk (P := P) (n := n) (dst := dst) (yt := yt) (ty := ty) (pos := pos) (aft := aft) (gd := gd) ht hx hy;rwa [beq_self_eq_true] at h
theorem P_beqlN {P : Program} {n : Nat} {env : Env} {dst : Option Nat} {t yt ty : TypeId} {x y : Operand} {pos : String} {aft : Array Edge} {gd : Option (Nat × Bool)} {p q : Bool} (ht : isBoolT P t = true) (hx : ev env x = some (.bool p)) (hy : ev env y = some (.bool q)) (hne : ¬ p = q) : PureV P n ⟨dst, .binOp .eql t x y yt, ty, pos, aft, gd⟩ env (.bool false) := by
 have h := yk (P := P) (n := n) (dst := dst) (yt := yt) (ty := ty) (pos := pos) (aft := aft) (gd := gd) ht hx hy;rwa [show (p == q) = false from beq_eq_false_iff_ne.2 hne] at h
theorem card16 {xs ys : List Value} {x y : CardT} (hx : CardX m xs x) (hy : CardX m ys y) : CS Tryz.prog 16 [cmpV, .agg xs.toArray, .agg ys.toArray] m [] (SameV (sameC x y)) := by
 obtain ⟨q, rfl, hp, hd, hw⟩ := hx;obtain ⟨r, rfl, hp', hd', hw'⟩ := hy;refine zl [.tmp 6] Tryz.func16 rfl rfl rfl ?_;refine tr 2 ?_;refine Bx 0 rfl fun b1 => ?_;refine Bx 0 rfl fun b2 => ?_;refine Bx 4 rfl fun b3 => ?_;refine zw .here (fun ns hi _ hd1 => ?_);refine zw .here (fun ns2 hi2 _ hd2 => ?_)
 have hR2 : Rd (uni (uni m ns) ns2) (some ⟨b3, 0, none⟩) (r.v y) := ((Rd.blk hi).mono (yU hd1)).mono (yL _ _);have hR1 : Rd (uni (uni m ns) ns2) (some ⟨b2, 0, none⟩) (q.v x) := (Rd.blk hi2).mono (yU hd2);have hl2 : Le m (uni (uni m ns) ns2) := (yL _ _).trans (yL _ _);clear hi hd1 hi2 hd2;generalize uni (uni m ns) ns2 = m9 at hR1 hR2 hl2
 have ha0 : mc m9 ⟨b2, 0, none⟩ = some (.string (bs x.name)) := hR1.at_ (i := 0) rfl;have ha1 : mc m9 ⟨b2, 1, none⟩ = some (.bool x.unit) := hR1.at_ (i := 1) rfl;have ha2 : mc m9 ⟨b2, 2, none⟩ = some (.int .i64 x.cost) := hR1.at_ (i := 2) rfl;have ha3 : mc m9 ⟨b2, 3, none⟩ = some (.int .i64 x.power) := hR1.at_ (i := 3) rfl
 have ha4 : mc m9 ⟨b2, 4, none⟩ = some (.int .i64 x.health) := hR1.at_ (i := 4) rfl;have ha5 : mc m9 ⟨b2, 5, none⟩ = some (.int .i64 x.shield) := hR1.at_ (i := 5) rfl;have ha6 : mc m9 ⟨b2, 6, none⟩ = some (.int .i64 x.apow) := hR1.at_ (i := 6) rfl;have ha7 : mc m9 ⟨b2, 7, none⟩ = some (.int .i64 x.aheal) := hR1.at_ (i := 7) rfl
 have ha8 : mc m9 ⟨b2, 8, none⟩ = some (.slice q.A x.played.length q.ca) := hR1.at_ (i := 8) rfl;have ha9 : mc m9 ⟨b2, 9, none⟩ = some (.slice q.B x.dead.length q.cb) := hR1.at_ (i := 9) rfl;have ha10 : mc m9 ⟨b2, 10, none⟩ = some (.slice q.D x.dawn.length q.cd) := hR1.at_ (i := 10) rfl;have hb0 : mc m9 ⟨b3, 0, none⟩ = some (.string (bs y.name)) := hR2.at_ (i := 0) rfl
 have hb1 : mc m9 ⟨b3, 1, none⟩ = some (.bool y.unit) := hR2.at_ (i := 1) rfl;have hb2 : mc m9 ⟨b3, 2, none⟩ = some (.int .i64 y.cost) := hR2.at_ (i := 2) rfl;have hb3 : mc m9 ⟨b3, 3, none⟩ = some (.int .i64 y.power) := hR2.at_ (i := 3) rfl;have hb4 : mc m9 ⟨b3, 4, none⟩ = some (.int .i64 y.health) := hR2.at_ (i := 4) rfl
 have hb5 : mc m9 ⟨b3, 5, none⟩ = some (.int .i64 y.shield) := hR2.at_ (i := 5) rfl;have hb6 : mc m9 ⟨b3, 6, none⟩ = some (.int .i64 y.apow) := hR2.at_ (i := 6) rfl;have hb7 : mc m9 ⟨b3, 7, none⟩ = some (.int .i64 y.aheal) := hR2.at_ (i := 7) rfl;have hb8 : mc m9 ⟨b3, 8, none⟩ = some (.slice r.A y.played.length r.ca) := hR2.at_ (i := 8) rfl
 have hb9 : mc m9 ⟨b3, 9, none⟩ = some (.slice r.B y.dead.length r.cb) := hR2.at_ (i := 9) rfl;have hb10 : mc m9 ⟨b3, 10, none⟩ = some (.slice r.D y.dawn.length r.cd) := hR2.at_ (i := 10) rfl;clear hR1 hR2;have hp := hp.mono hl2;have hd := hd.mono hl2;have hw := hw.mono hl2;have hp' := hp'.mono hl2;have hd' := hd'.mono hl2;have hw' := hw'.mono hl2;by_cases g0 : x.name = y.name
 rotate_left
 ·refine tr 8 ?_;refine Lo 1 sg9 rfl ha0 ?_;refine Lo 0 sg9 rfl hb0 ?_;refine cfa 77 ?_;exact rt2 hl2 ⟨rfl, trivial⟩ ⟨.inr ⟨rfl, fun h => g0 h.1⟩, rfl⟩
 by_cases g1 : x.unit = y.unit
 rotate_left
 ·refine tr 8 ?_;refine Lo 1 sg9 rfl ha0 ?_;refine Lo 0 sg9 rfl hb0 ?_;refine cta 2 ?_;refine Lo 1 sg4 rfl ha1 ?_;refine Lo 0 sg4 rfl hb1 ?_;refine pe 71 ((P_beqlN bo4 rfl rfl g1)) ?_;exact rt2 hl2 ⟨rfl, trivial⟩ ⟨.inr ⟨rfl, fun h => g1 h.2.1⟩, rfl⟩
 rw [g1] at ha1;by_cases g2 : x.cost = y.cost
 rotate_left
 ·refine tr 8 ?_;refine Lo 1 sg9 rfl ha0 ?_;refine Lo 0 sg9 rfl hb0 ?_;refine cta 2 ?_;refine Lo 1 sg4 rfl ha1 ?_;refine Lo 0 sg4 rfl hb1 ?_;refine pe 3 ((vD bo4 rfl rfl)) ?_;refine Lo 1 sg3 rfl ha2 ?_;refine Lo 0 sg3 rfl hb2 ?_;refine cfa 64 ?_;exact rt2 hl2 ⟨rfl, trivial⟩ ⟨.inr ⟨rfl, fun h => g2 h.2.2.1⟩, rfl⟩
 by_cases g3 : x.power = y.power
 rotate_left
 ·refine tr 8 ?_;refine Lo 1 sg9 rfl ha0 ?_;refine Lo 0 sg9 rfl hb0 ?_;refine cta 2 ?_;refine Lo 1 sg4 rfl ha1 ?_;refine Lo 0 sg4 rfl hb1 ?_;refine pe 3 ((vD bo4 rfl rfl)) ?_;refine Lo 1 sg3 rfl ha2 ?_;refine Lo 0 sg3 rfl hb2 ?_;refine cta 3 ?_;refine Lo 1 sg3 rfl ha3 ?_;refine Lo 0 sg3 rfl hb3 ?_;refine cfa 57 ?_;exact rt2 hl2 ⟨rfl, trivial⟩ ⟨.inr ⟨rfl, fun h => g3 h.2.2.2.1⟩, rfl⟩
 by_cases g4 : x.health = y.health
 rotate_left
 ·refine tr 8 ?_;refine Lo 1 sg9 rfl ha0 ?_;refine Lo 0 sg9 rfl hb0 ?_;refine cta 2 ?_;refine Lo 1 sg4 rfl ha1 ?_;refine Lo 0 sg4 rfl hb1 ?_;refine pe 3 ((vD bo4 rfl rfl)) ?_;refine Lo 1 sg3 rfl ha2 ?_;refine Lo 0 sg3 rfl hb2 ?_;refine cta 3 ?_;refine Lo 1 sg3 rfl ha3 ?_;refine Lo 0 sg3 rfl hb3 ?_;refine cta 3 ?_;refine Lo 1 sg3 rfl ha4 ?_;refine Lo 0 sg3 rfl hb4 ?_;refine cfa 50 ?_
  exact rt2 hl2 ⟨rfl, trivial⟩ ⟨.inr ⟨rfl, fun h => g4 h.2.2.2.2.1⟩, rfl⟩
 by_cases g5 : x.shield = y.shield
 rotate_left
 ·refine tr 8 ?_;refine Lo 1 sg9 rfl ha0 ?_;refine Lo 0 sg9 rfl hb0 ?_;refine cta 2 ?_;refine Lo 1 sg4 rfl ha1 ?_;refine Lo 0 sg4 rfl hb1 ?_;refine pe 3 ((vD bo4 rfl rfl)) ?_;refine Lo 1 sg3 rfl ha2 ?_;refine Lo 0 sg3 rfl hb2 ?_;refine cta 3 ?_;refine Lo 1 sg3 rfl ha3 ?_;refine Lo 0 sg3 rfl hb3 ?_;refine cta 3 ?_;refine Lo 1 sg3 rfl ha4 ?_;refine Lo 0 sg3 rfl hb4 ?_;refine cta 3 ?_
  refine Lo 1 sg3 rfl ha5 ?_;refine Lo 0 sg3 rfl hb5 ?_;refine cfa 43 ?_;exact rt2 hl2 ⟨rfl, trivial⟩ ⟨.inr ⟨rfl, fun h => g5 h.2.2.2.2.2.1⟩, rfl⟩
 by_cases g6 : x.apow = y.apow
 rotate_left
 ·refine tr 8 ?_;refine Lo 1 sg9 rfl ha0 ?_;refine Lo 0 sg9 rfl hb0 ?_;refine cta 2 ?_;refine Lo 1 sg4 rfl ha1 ?_;refine Lo 0 sg4 rfl hb1 ?_;refine pe 3 ((vD bo4 rfl rfl)) ?_;refine Lo 1 sg3 rfl ha2 ?_;refine Lo 0 sg3 rfl hb2 ?_;refine cta 3 ?_;refine Lo 1 sg3 rfl ha3 ?_;refine Lo 0 sg3 rfl hb3 ?_;refine cta 3 ?_;refine Lo 1 sg3 rfl ha4 ?_;refine Lo 0 sg3 rfl hb4 ?_;refine cta 3 ?_
  refine Lo 1 sg3 rfl ha5 ?_;refine Lo 0 sg3 rfl hb5 ?_;refine cta 3 ?_;refine Lo 1 sg3 rfl ha6 ?_;refine Lo 0 sg3 rfl hb6 ?_;refine cfa 36 ?_;exact rt2 hl2 ⟨rfl, trivial⟩ ⟨.inr ⟨rfl, fun h => g6 h.2.2.2.2.2.2.1⟩, rfl⟩
 by_cases g7 : x.aheal = y.aheal
 rotate_left
 ·refine tr 8 ?_;refine Lo 1 sg9 rfl ha0 ?_;refine Lo 0 sg9 rfl hb0 ?_;refine cta 2 ?_;refine Lo 1 sg4 rfl ha1 ?_;refine Lo 0 sg4 rfl hb1 ?_;refine pe 3 ((vD bo4 rfl rfl)) ?_;refine Lo 1 sg3 rfl ha2 ?_;refine Lo 0 sg3 rfl hb2 ?_;refine cta 3 ?_;refine Lo 1 sg3 rfl ha3 ?_;refine Lo 0 sg3 rfl hb3 ?_;refine cta 3 ?_;refine Lo 1 sg3 rfl ha4 ?_;refine Lo 0 sg3 rfl hb4 ?_;refine cta 3 ?_
  refine Lo 1 sg3 rfl ha5 ?_;refine Lo 0 sg3 rfl hb5 ?_;refine cta 3 ?_;refine Lo 1 sg3 rfl ha6 ?_;refine Lo 0 sg3 rfl hb6 ?_;refine cta 3 ?_;refine Lo 1 sg3 rfl ha7 ?_;refine Lo 0 sg3 rfl hb7 ?_;refine cfa 29 ?_;exact rt2 hl2 ⟨rfl, trivial⟩ ⟨.inr ⟨rfl, fun h => g7 h.2.2.2.2.2.2.2.1⟩, rfl⟩
 refine tr 8 ?_;refine Lo 1 sg9 rfl ha0 ?_;refine Lo 0 sg9 rfl hb0 ?_;refine cta 2 ?_;refine Lo 1 sg4 rfl ha1 ?_;refine Lo 0 sg4 rfl hb1 ?_;refine pe 3 ((vD bo4 rfl rfl)) ?_;refine Lo 1 sg3 rfl ha2 ?_;refine Lo 0 sg3 rfl hb2 ?_;refine cta 3 ?_;refine Lo 1 sg3 rfl ha3 ?_;refine Lo 0 sg3 rfl hb3 ?_;refine cta 3 ?_;refine Lo 1 sg3 rfl ha4 ?_;refine Lo 0 sg3 rfl hb4 ?_;refine cta 3 ?_
 refine Lo 1 sg3 rfl ha5 ?_;refine Lo 0 sg3 rfl hb5 ?_;refine cta 3 ?_;refine Lo 1 sg3 rfl ha6 ?_;refine Lo 0 sg3 rfl hb6 ?_;refine cta 3 ?_;refine Lo 1 sg3 rfl ha7 ?_;refine Lo 0 sg3 rfl hb7 ?_;refine cta 4 ?_;refine Lo 1 sg46 rfl ha8 ?_;refine Lo 0 sg46 rfl hb8 ?_
 refine zE ((yp (p := []) (q := [ptr b1]) cl42 rfl rfl (fun m' hm he => effs42 (fun i u h => by cases h) (hp.mono hm) (hp'.mono hm)) rfl ?_)) rfl;rintro _ _ ⟨⟨rfl, q0⟩ | ⟨rfl, hq⟩, rfl⟩
 rotate_left
 ·refine vr 21 ?_;exact rt2 hl2 ⟨rfl, trivial⟩ ⟨.inr ⟨rfl, fun h => hq h.2.2.2.2.2.2.2.2.1⟩, rfl⟩
 refine vr 4 ?_;refine Lo 1 sg46 rfl ha9 ?_;refine Lo 0 sg46 rfl hb9 ?_;refine zE ((yp (p := []) (q := [ptr b1]) cl42 rfl rfl (fun m' hm he => effs42 (fun i u h => by cases h) (hd.mono hm) (hd'.mono hm)) rfl ?_)) rfl;rintro _ _ ⟨⟨rfl, q1⟩ | ⟨rfl, hq⟩, rfl⟩
 rotate_left
 ·refine vr 13 ?_;exact rt2 hl2 ⟨rfl, trivial⟩ ⟨.inr ⟨rfl, fun h => hq h.2.2.2.2.2.2.2.2.2.1⟩, rfl⟩
 refine vr 4 ?_;refine Lo 1 sg46 rfl ha10 ?_;refine Lo 0 sg46 rfl hb10 ?_;refine zE ((yp (p := []) (q := [ptr b1]) cl42 rfl rfl (fun m' hm he => effs42 (fun i u h => by cases h) (hw.mono hm) (hw'.mono hm)) rfl ?_)) rfl;rintro _ _ ⟨⟨rfl, q2⟩ | ⟨rfl, hq⟩, rfl⟩
 rotate_left
 ·refine vr 5 ?_;exact rt2 hl2 ⟨rfl, trivial⟩ ⟨.inr ⟨rfl, fun h => hq h.2.2.2.2.2.2.2.2.2.2⟩, rfl⟩
 refine vr 5 ?_;exact rt2 hl2 ⟨rfl, trivial⟩ ⟨.inl ⟨rfl, g0, g1, g2, g3, g4, g5, g6, g7, q0, q1, q2⟩, rfl⟩
theorem format18 {xs ys : List Value} {x y : FmtT} (hx : FmtX m xs x) (hy : FmtX m ys y) (hbx : x.banned.length ≤ 140737488355328 ∧ x.single.length ≤ 140737488355328) (hby : y.banned.length ≤ 140737488355328 ∧ y.single.length ≤ 140737488355328) : CS Tryz.prog 18 [cmpV, .agg xs.toArray, .agg ys.toArray] m [] (SameV (sameF x y)) := by
 obtain ⟨q, rfl, hp, hd⟩ := hx;obtain ⟨r, rfl, hp', hd'⟩ := hy;refine zl [.tmp 6] Tryz.func18 rfl rfl rfl ?_;by_cases g0 : x.name = y.name
 rotate_left
 ·refine tr 2 ?_;refine Bx 0 rfl fun b1 => ?_;refine Bx 0 rfl fun b2 => ?_;refine Bx 6 rfl fun b3 => ?_;refine Lb 1 sg9 .h1 ?_;refine Lb 0 sg9 .here ?_;refine cfa 39 ?_;exact rt1 ⟨rfl, trivial⟩ ⟨.inr ⟨rfl, fun h => g0 h.1⟩, rfl⟩
 by_cases g1 : x.least = y.least
 rotate_left
 ·refine tr 2 ?_;refine Bx 0 rfl fun b1 => ?_;refine Bx 0 rfl fun b2 => ?_;refine Bx 6 rfl fun b3 => ?_;refine Lb 1 sg9 .h1 ?_;refine Lb 0 sg9 .here ?_;refine cta 2 ?_;refine Lb 1 sg3 .h1 ?_;refine Lb 0 sg3 .here ?_;refine cfa 33 ?_;exact rt1 ⟨rfl, trivial⟩ ⟨.inr ⟨rfl, fun h => g1 h.2.1⟩, rfl⟩
 by_cases g2 : x.most = y.most
 rotate_left
 ·refine tr 2 ?_;refine Bx 0 rfl fun b1 => ?_;refine Bx 0 rfl fun b2 => ?_;refine Bx 6 rfl fun b3 => ?_;refine Lb 1 sg9 .h1 ?_;refine Lb 0 sg9 .here ?_;refine cta 2 ?_;refine Lb 1 sg3 .h1 ?_;refine Lb 0 sg3 .here ?_;refine cta 3 ?_;refine Lb 1 sg3 .h1 ?_;refine Lb 0 sg3 .here ?_;refine cfa 26 ?_;exact rt1 ⟨rfl, trivial⟩ ⟨.inr ⟨rfl, fun h => g2 h.2.2.1⟩, rfl⟩
 by_cases g3 : x.copies = y.copies
 rotate_left
 ·refine tr 2 ?_;refine Bx 0 rfl fun b1 => ?_;refine Bx 0 rfl fun b2 => ?_;refine Bx 6 rfl fun b3 => ?_;refine Lb 1 sg9 .h1 ?_;refine Lb 0 sg9 .here ?_;refine cta 2 ?_;refine Lb 1 sg3 .h1 ?_;refine Lb 0 sg3 .here ?_;refine cta 3 ?_;refine Lb 1 sg3 .h1 ?_;refine Lb 0 sg3 .here ?_;refine cta 3 ?_;refine Lb 1 sg3 .h1 ?_;refine Lb 0 sg3 .here ?_;refine cfa 19 ?_
  exact rt1 ⟨rfl, trivial⟩ ⟨.inr ⟨rfl, fun h => g3 h.2.2.2.1⟩, rfl⟩
 refine tr 2 ?_;refine Bx 0 rfl fun b1 => ?_;refine Bx 0 rfl fun b2 => ?_;refine Bx 6 rfl fun b3 => ?_;refine Lb 1 sg9 .h1 ?_;refine Lb 0 sg9 .here ?_;refine cta 2 ?_;refine Lb 1 sg3 .h1 ?_;refine Lb 0 sg3 .here ?_;refine cta 3 ?_;refine Lb 1 sg3 .h1 ?_;refine Lb 0 sg3 .here ?_;refine cta 3 ?_;refine Lb 1 sg3 .h1 ?_;refine Lb 0 sg3 .here ?_;refine cta 3 ?_;refine Lb 1 sg38 .h1 ?_
 refine Lb 0 sg38 .here ?_;refine zE ((zW cl45 rfl (fun m' hm he => equal45 (hp.1.mono hm) (hp'.1.mono hm) hbx.1 hby.1) rfl ?_)) rfl;rintro _ _ ⟨⟨rfl, q0⟩ | ⟨rfl, hq⟩, rfl⟩
 rotate_left
 ·refine vr 12 ?_;exact rt1 ⟨rfl, trivial⟩ ⟨.inr ⟨rfl, fun h => hq h.2.2.2.2.1⟩, rfl⟩
 refine vr 3 ?_;refine Lb 1 sg38 .h1 ?_;refine Lb 0 sg38 .here ?_;refine zE ((zW cl45 rfl (fun m' hm he => equal45 (hd.1.mono hm) (hd'.1.mono hm) hbx.2 hby.2) rfl ?_)) rfl;rintro _ _ ⟨⟨rfl, q1⟩ | ⟨rfl, hq⟩, rfl⟩
 rotate_left
 ·refine vr 5 ?_;exact rt1 ⟨rfl, trivial⟩ ⟨.inr ⟨rfl, fun h => hq h.2.2.2.2.2⟩, rfl⟩
 refine vr 5 ?_;exact rt1 ⟨rfl, trivial⟩ ⟨.inl ⟨rfl, g0, g1, g2, g3, q0, q1⟩, rfl⟩
end
section
open Wd Tp Kd
variable {m : Mp}
theorem same103 {xs : List Value} {x : NumT} (hx : NumR m xs x) : ∀ {ys : List Value} {y : NumT}, NumR m ys y → ∀ m0, Le m m0 → CS Tryz.prog 110 [.agg xs.toArray, .agg ys.toArray] m0 [] (SameV (x = y)) := by
 induction hx with
 | @mk op n who kids A len c vs ho hln hmx hr hv hkk ih =>
 subst hln;intro ys y hy;cases hy with
 | @mk op' n' who' kids' A' len' c' us ho' hln' hmx' hr' hv' hkk' =>
 subst hln';intro m0 hm0;have hmx : kids.length ≤ 9223372036854775807 := hmx;have hmx' : kids'.length ≤ 9223372036854775807 := hmx';skip;refine zl [.tmp 4] Tryz.func110 rfl rfl rfl ?_;refine tr 2 ?_;refine Bx 0 rfl fun b1 => ?_;refine Bx 5 rfl fun b2 => ?_;refine zw .here (fun ns hi _ hd1 => ?_);refine zw .here (fun ns2 hi2 _ hd2 => ?_)
 have hR2 : Rd (uni (uni m0 ns) ns2) (some ⟨b2, 0, none⟩) (n4 op' n' who' A' kids'.length c') := ((Rd.blk hi).mono (yU hd1)).mono (yL _ _);have hR1 : Rd (uni (uni m0 ns) ns2) (some ⟨b1, 0, none⟩) (n4 op n who A kids.length c) := (Rd.blk hi2).mono (yU hd2);have hl2 : Le m0 (uni (uni m0 ns) ns2) := (yL _ _).trans (yL _ _);clear hi hd1 hi2 hd2
 generalize uni (uni m0 ns) ns2 = m9 at hR1 hR2 hl2;have hl9 := hm0.trans hl2;have ha0 : mc m9 ⟨b1, 0, none⟩ = some (.int .i8 op) := hR1.at_ (i := 0) rfl;have ha1 : mc m9 ⟨b1, 1, none⟩ = some (.int .i64 n) := hR1.at_ (i := 1) rfl;have ha2 : mc m9 ⟨b1, 2, none⟩ = some (.int .i8 who) := hR1.at_ (i := 2) rfl;have ha3 : mc m9 ⟨b1, 3, none⟩ = some (.slice A kids.length c) := hR1.at_ (i := 3) rfl
 have hb0 : mc m9 ⟨b2, 0, none⟩ = some (.int .i8 op') := hR2.at_ (i := 0) rfl;have hb1 : mc m9 ⟨b2, 1, none⟩ = some (.int .i64 n') := hR2.at_ (i := 1) rfl;have hb2 : mc m9 ⟨b2, 2, none⟩ = some (.int .i8 who') := hR2.at_ (i := 2) rfl;have hb3 : mc m9 ⟨b2, 3, none⟩ = some (Value.slice A' kids'.length c') := hR2.at_ (i := 3) rfl;by_cases g0 : op = op'
 rotate_left
 ·refine tr 2 ?_;refine Lo 1 sg82 rfl ha0 ?_;refine Lo 0 sg82 rfl hb0 ?_;refine cta 33 ?_;exact rt2 hl2 ⟨rfl, trivial⟩ ⟨.inr ⟨rfl, fun h => g0 (by cases h; rfl)⟩, rfl⟩
 by_cases g1 : n = n'
 rotate_left
 ·refine tr 2 ?_;refine Lo 1 sg82 rfl ha0 ?_;refine Lo 0 sg82 rfl hb0 ?_;refine cfo 2 ?_;refine Lo 1 sg3 rfl ha1 ?_;refine Lo 0 sg3 rfl hb1 ?_;refine cta 27 ?_;exact rt2 hl2 ⟨rfl, trivial⟩ ⟨.inr ⟨rfl, fun h => g1 (by cases h; rfl)⟩, rfl⟩
 by_cases g2 : who = who'
 rotate_left
 ·refine tr 2 ?_;refine Lo 1 sg82 rfl ha0 ?_;refine Lo 0 sg82 rfl hb0 ?_;refine cfo 2 ?_;refine Lo 1 sg3 rfl ha1 ?_;refine Lo 0 sg3 rfl hb1 ?_;refine cfo 3 ?_;refine Lo 1 sg82 rfl ha2 ?_;refine Lo 0 sg82 rfl hb2 ?_;refine cta 20 ?_;exact rt2 hl2 ⟨rfl, trivial⟩ ⟨.inr ⟨rfl, fun h => g2 (by cases h; rfl)⟩, rfl⟩
 by_cases g3 : kids.length = kids'.length
 rotate_left
 ·refine tr 2 ?_;refine Lo 1 sg82 rfl ha0 ?_;refine Lo 0 sg82 rfl hb0 ?_;refine cfo 2 ?_;refine Lo 1 sg3 rfl ha1 ?_;refine Lo 0 sg3 rfl hb1 ?_;refine cfo 3 ?_;refine Lo 1 sg82 rfl ha2 ?_;refine Lo 0 sg82 rfl hb2 ?_;refine cfo 3 ?_;refine Lo 2 sg83 rfl ha3 ?_;refine Lo 1 sg83 rfl hb3 ?_;refine cto 11 ?_;exact rt2 hl2 ⟨rfl, trivial⟩ ⟨.inr ⟨rfl, fun h => g3 (by cases h; rfl)⟩, rfl⟩
 refine tr 2 ?_;refine Lo 1 sg82 rfl ha0 ?_;refine Lo 0 sg82 rfl hb0 ?_;refine cfo 2 ?_;refine Lo 1 sg3 rfl ha1 ?_;refine Lo 0 sg3 rfl hb1 ?_;refine cfo 3 ?_;refine Lo 1 sg82 rfl ha2 ?_;refine Lo 0 sg82 rfl hb2 ?_;refine cfo 3 ?_;refine Lo 2 sg83 rfl ha3 ?_;refine Lo 1 sg83 rfl hb3 ?_;refine cfo 13 ?_
 refine zZ (α := Nat) (fun i => [(2, ptr b1), (3, ptr b2), (5, .int .i64 (i : Nat))]) (fun _ => []) (fun i => i ≤ kids.length ∧ ∀ (j : Nat) (h : j < kids.length) (h' : j < kids'.length), j < i → kids[j] = kids'[j]) (fun i => kids.length - i) 0 ⟨rfl, rfl, rfl, trivial⟩ (Pick.nil _) ⟨Nat.zero_le _, fun _ _ _ h => by cases h⟩ ?_;rintro i ⟨hi, hall⟩;by_cases hlt : i < kids.length
 ·have hlt2 : i < kids'.length := by omega
  have hA : A.isSome = true := hr.isSome (by omega);have hA2 : A'.isSome = true := hr'.isSome (by omega);have hat := (hr.elem (i * 4) 4).mono hl9;have hat2 := (hr'.elem (i * 4) 4).mono hl9;have hcall := fun m1 (hm1 : Le m9 m1) => ih i hlt (hkk' i hlt2) m1 (hl9.trans hm1);have hl41 : ((vs.drop (i * 4)).take 4).length = 4 := (hkk i hlt).len
  have hl42 : ((us.drop (i * 4)).take 4).length = 4 := (hkk' i hlt2).len;generalize (vs.drop (i * 4)).take 4 = xs1 at hat hl41 hcall;generalize (us.drop (i * 4)).take 4 = ys1 at hat2 hl42 hcall;refine tr 5 ?_;refine Lo 1 sg83 rfl ha3 ?_;refine cto 8 ?_;refine Db (sq [0, 1, 2, 3, 4, 5, 6, 7, 8, 9, 110, 11] .done) ?_;refine vB 1 ?_;refine Vr 1 rfl (zR sg83 rfl ha3) ?_
  refine Vb 0 rfl (zC ez83 rfl rfl hA (by omega)) ?_;refine Vr 1 rfl ((zg ag85 rfl hl41 hat)) ?_;refine Vr 1 rfl (zR sg83 rfl hb3) ?_;refine Vb 0 rfl (zC ez83 rfl rfl hA2 (by omega)) ?_;refine Vr 0 rfl ((zg ag85 rfl hl42 hat2)) ?_;skip;refine zk rfl ((zW cl110 rfl (fun m' hm he => hcall m' hm) rfl ?_)) rfl;rintro _ _ ⟨⟨rfl, hq⟩ | ⟨rfl, hq⟩, rfl⟩
  ·refine vB 1 ?_;refine Vn 7 ?_;refine Pa 2 ?_
   exact QR (i + 1) (Pick.nil _) ⟨hlt, fun j h h' hj => by
    by_cases hji : j < i
    ·exact hall j h h' hji
    ·obtain rfl : j = i := by omega
     exact hq⟩ (by omega)
  ·refine vB 1 ?_;refine Vn 10 ?_;refine zI ?_;refine zH ?_;refine zL ?_;exact rt2 hl2 ⟨rfl, trivial⟩ ⟨.inr ⟨rfl, fun h => hq (by cases h; rfl)⟩, rfl⟩
 ·have hi2 : i = kids.length := by omega
  subst hi2;have hkk2 : kids = kids' := List.ext_getElem g3 fun j h h' => hall j h h' h;refine tr 5 ?_;refine Lo 1 sg83 rfl ha3 ?_;refine cfo 5 ?_;refine zG ?_;refine zF ?_;refine qt 7 ?_;exact rt2 hl2 ⟨rfl, trivial⟩ ⟨.inl ⟨rfl, by rw [g0, g1, g2, hkk2]⟩, rfl⟩
end
section
open Wd Tp Kd
variable {m : Mp}
theorem same104 {xs : List Value} {x : CondT} (hx : CondR m xs x) : ∀ {ys : List Value} {y : CondT}, CondR m ys y → ∀ m0, Le m m0 → CS Tryz.prog 111 [.agg xs.toArray, .agg ys.toArray] m0 [] (SameV (x = y)) := by
 induction hx with
 | @mk op who name nums kids A B la ca lb cb vs ws ho hw hn hla hma hra hva hka hlb hmb hrb hvb hkb ih =>
 subst hla hlb;intro ys y hy;cases hy with
 | @mk op' who' name' nums' kids' A' B' la' ca' lb' cb' vs' ws' ho' hw' hn' hla' hma' hra' hva' hka' hlb' hmb' hrb' hvb' hkb' =>
 subst hla' hlb';intro m0 hm0;have hma : nums.length ≤ 9223372036854775807 := hma;have hma' : nums'.length ≤ 9223372036854775807 := hma';have hmb : kids.length ≤ 9223372036854775807 := hmb;have hmb' : kids'.length ≤ 9223372036854775807 := hmb';skip;refine zl [.tmp 4] Tryz.func111 rfl rfl rfl ?_;refine tr 2 ?_;refine Bx 0 rfl fun b1 => ?_;refine Bx 5 rfl fun b2 => ?_
 refine zw .here (fun ns hi _ hd1 => ?_);refine zw .here (fun ns2 hi2 _ hd2 => ?_);have hR2 : Rd (uni (uni m0 ns) ns2) (some ⟨b2, 0, none⟩) (c5 op' who' name' A' nums'.length ca' B' kids'.length cb') := ((Rd.blk hi).mono (yU hd1)).mono (yL _ _)
 have hR1 : Rd (uni (uni m0 ns) ns2) (some ⟨b1, 0, none⟩) (c5 op who name A nums.length ca B kids.length cb) := (Rd.blk hi2).mono (yU hd2);have hl2 : Le m0 (uni (uni m0 ns) ns2) := (yL _ _).trans (yL _ _);clear hi hd1 hi2 hd2;generalize uni (uni m0 ns) ns2 = m9 at hR1 hR2 hl2;have hl9 := hm0.trans hl2;have ha0 : mc m9 ⟨b1, 0, none⟩ = some (.int .i8 op) := hR1.at_ (i := 0) rfl
 have ha1 : mc m9 ⟨b1, 1, none⟩ = some (.int .i8 who) := hR1.at_ (i := 1) rfl;have ha2 : mc m9 ⟨b1, 2, none⟩ = some (.string (bs name)) := hR1.at_ (i := 2) rfl;have ha3 : mc m9 ⟨b1, 3, none⟩ = some (.slice A nums.length ca) := hR1.at_ (i := 3) rfl;have ha4 : mc m9 ⟨b1, 4, none⟩ = some (.slice B kids.length cb) := hR1.at_ (i := 4) rfl
 have hb0 : mc m9 ⟨b2, 0, none⟩ = some (.int .i8 op') := hR2.at_ (i := 0) rfl;have hb1 : mc m9 ⟨b2, 1, none⟩ = some (.int .i8 who') := hR2.at_ (i := 1) rfl;have hb2 : mc m9 ⟨b2, 2, none⟩ = some (.string (bs name')) := hR2.at_ (i := 2) rfl;have hb3 : mc m9 ⟨b2, 3, none⟩ = some (Value.slice A' nums'.length ca') := hR2.at_ (i := 3) rfl
 have hb4 : mc m9 ⟨b2, 4, none⟩ = some (Value.slice B' kids'.length cb') := hR2.at_ (i := 4) rfl;by_cases g0 : op = op'
 rotate_left
 ·refine tr 2 ?_;refine Lo 1 sg82 rfl ha0 ?_;refine Lo 0 sg82 rfl hb0 ?_;refine cta 42 ?_;exact rt2 hl2 ⟨rfl, trivial⟩ ⟨.inr ⟨rfl, fun h => g0 (by cases h; rfl)⟩, rfl⟩
 by_cases g1 : who = who'
 rotate_left
 ·refine tr 2 ?_;refine Lo 1 sg82 rfl ha0 ?_;refine Lo 0 sg82 rfl hb0 ?_;refine cfo 2 ?_;refine Lo 1 sg82 rfl ha1 ?_;refine Lo 0 sg82 rfl hb1 ?_;refine cta 36 ?_;exact rt2 hl2 ⟨rfl, trivial⟩ ⟨.inr ⟨rfl, fun h => g1 (by cases h; rfl)⟩, rfl⟩
 by_cases g2 : name = name'
 rotate_left
 ·refine tr 2 ?_;refine Lo 1 sg82 rfl ha0 ?_;refine Lo 0 sg82 rfl hb0 ?_;refine cfo 2 ?_;refine Lo 1 sg82 rfl ha1 ?_;refine Lo 0 sg82 rfl hb1 ?_;refine cfo 3 ?_;refine Lo 1 sg9 rfl ha2 ?_;refine Lo 0 sg9 rfl hb2 ?_;refine cta 29 ?_;exact rt2 hl2 ⟨rfl, trivial⟩ ⟨.inr ⟨rfl, fun h => g2 (by cases h; rfl)⟩, rfl⟩
 by_cases g3 : nums.length = nums'.length
 rotate_left
 ·refine tr 2 ?_;refine Lo 1 sg82 rfl ha0 ?_;refine Lo 0 sg82 rfl hb0 ?_;refine cfo 2 ?_;refine Lo 1 sg82 rfl ha1 ?_;refine Lo 0 sg82 rfl hb1 ?_;refine cfo 3 ?_;refine Lo 1 sg9 rfl ha2 ?_;refine Lo 0 sg9 rfl hb2 ?_;refine cf 3 rfl (fun hx => hx (by assumption)) ?_;refine Lo 2 sg83 rfl ha3 ?_;refine Lo 1 sg83 rfl hb3 ?_;refine cto 20 ?_
  exact rt2 hl2 ⟨rfl, trivial⟩ ⟨.inr ⟨rfl, fun h => g3 (by cases h; rfl)⟩, rfl⟩
 by_cases g4 : kids.length = kids'.length
 rotate_left
 ·refine tr 2 ?_;refine Lo 1 sg82 rfl ha0 ?_;refine Lo 0 sg82 rfl hb0 ?_;refine cfo 2 ?_;refine Lo 1 sg82 rfl ha1 ?_;refine Lo 0 sg82 rfl hb1 ?_;refine cfo 3 ?_;refine Lo 1 sg9 rfl ha2 ?_;refine Lo 0 sg9 rfl hb2 ?_;refine cf 3 rfl (fun hx => hx (by assumption)) ?_;refine Lo 2 sg83 rfl ha3 ?_;refine Lo 1 sg83 rfl hb3 ?_;refine cfo 3 ?_;refine Lo 2 sg86 rfl ha4 ?_;refine Lo 1 sg86 rfl hb4 ?_
  refine cto 11 ?_;exact rt2 hl2 ⟨rfl, trivial⟩ ⟨.inr ⟨rfl, fun h => g4 (by cases h; rfl)⟩, rfl⟩
 refine tr 2 ?_;refine Lo 1 sg82 rfl ha0 ?_;refine Lo 0 sg82 rfl hb0 ?_;refine cfo 2 ?_;refine Lo 1 sg82 rfl ha1 ?_;refine Lo 0 sg82 rfl hb1 ?_;refine cfo 3 ?_;refine Lo 1 sg9 rfl ha2 ?_;refine Lo 0 sg9 rfl hb2 ?_;refine cf 3 rfl (fun hx => hx (by assumption)) ?_;refine Lo 2 sg83 rfl ha3 ?_;refine Lo 1 sg83 rfl hb3 ?_;refine cfo 3 ?_;refine Lo 2 sg86 rfl ha4 ?_;refine Lo 1 sg86 rfl hb4 ?_
 refine cfo 13 ?_;refine zZ (α := Nat) (fun i => [(2, ptr b1), (3, ptr b2), (5, .int .i64 (i : Nat))]) (fun _ => []) (fun i => i ≤ nums.length ∧ ∀ (j : Nat) (h : j < nums.length) (h' : j < nums'.length), j < i → nums[j] = nums'[j]) (fun i => nums.length - i) 0 ⟨rfl, rfl, rfl, trivial⟩ (Pick.nil _) ⟨Nat.zero_le _, fun _ _ _ h => by cases h⟩ ?_;rintro i ⟨hi, hall⟩;by_cases hlt : i < nums.length
 ·have hlt2 : i < nums'.length := by omega
  have hA : A.isSome = true := hra.isSome (by omega);have hA2 : A'.isSome = true := hra'.isSome (by omega);have hat := (hra.elem (i * 4) 4).mono hl9;have hat2 := (hra'.elem (i * 4) 4).mono hl9;have hcall := fun m1 (hm1 : Le m9 m1) => same103 (hka i hlt) (hka' i hlt2) m1 (hl9.trans hm1);have hl41 : ((vs.drop (i * 4)).take 4).length = 4 := (hka i hlt).len
  have hl42 : ((vs'.drop (i * 4)).take 4).length = 4 := (hka' i hlt2).len;generalize (vs.drop (i * 4)).take 4 = xs1 at hat hl41 hcall;generalize (vs'.drop (i * 4)).take 4 = ys1 at hat2 hl42 hcall;refine tr 5 ?_;refine Lo 1 sg83 rfl ha3 ?_;refine cto 8 ?_;refine Db (sq [0, 1, 2, 3, 4, 5, 6, 7, 8, 9, 110, 11] .done) ?_;refine vB 1 ?_;refine Vr 1 rfl (zR sg83 rfl ha3) ?_
  refine Vb 0 rfl (zC ez83 rfl rfl hA (by omega)) ?_;refine Vr 1 rfl ((zg ag85 rfl hl41 hat)) ?_;refine Vr 1 rfl (zR sg83 rfl hb3) ?_;refine Vb 0 rfl (zC ez83 rfl rfl hA2 (by omega)) ?_;refine Vr 0 rfl ((zg ag85 rfl hl42 hat2)) ?_;skip;refine zk rfl ((zW cl110 rfl (fun m' hm he => hcall m' hm) rfl ?_)) rfl;rintro _ _ ⟨⟨rfl, hq⟩ | ⟨rfl, hq⟩, rfl⟩
  ·refine vB 1 ?_;refine Vn 7 ?_;refine Pa 2 ?_
   exact QR (i + 1) (Pick.nil _) ⟨hlt, fun j h h' hj => by
    by_cases hji : j < i
    ·exact hall j h h' hji
    ·obtain rfl : j = i := by omega
     exact hq⟩ (by omega)
  ·refine vB 1 ?_;refine Vn 10 ?_;refine zI ?_;refine zH ?_;refine zL ?_;exact rt2 hl2 ⟨rfl, trivial⟩ ⟨.inr ⟨rfl, fun h => hq (by cases h; rfl)⟩, rfl⟩
 ·have hi2 : i = nums.length := by omega
  subst hi2;have hkk2 : nums = nums' := List.ext_getElem g3 fun j h h' => hall j h h' h;clear hall hi hlt;refine tr 5 ?_;refine Lo 1 sg83 rfl ha3 ?_;refine cfo 5 ?_;refine zG ?_;refine zF ?_;refine qt 8 ?_
  refine zZ (α := Nat) (fun i => [(2, ptr b1), (3, ptr b2), (6, .int .i64 (i : Nat))]) (fun _ => []) (fun i => i ≤ kids.length ∧ ∀ (j : Nat) (h : j < kids.length) (h' : j < kids'.length), j < i → kids[j] = kids'[j]) (fun i => kids.length - i) 0 ⟨rfl, rfl, rfl, trivial⟩ (Pick.nil _) ⟨Nat.zero_le _, fun _ _ _ h => by cases h⟩ ?_;rintro i ⟨hi, hall⟩;by_cases hlt : i < kids.length
  ·have hlt2 : i < kids'.length := by omega
   have hA : B.isSome = true := hrb.isSome (by omega);have hA2 : B'.isSome = true := hrb'.isSome (by omega);have hat := (hrb.elem (i * 5) 5).mono hl9;have hat2 := (hrb'.elem (i * 5) 5).mono hl9;have hcall := fun m1 (hm1 : Le m9 m1) => ih i hlt (hkb' i hlt2) m1 (hl9.trans hm1);have hl41 : ((ws.drop (i * 5)).take 5).length = 5 := (hkb i hlt).len
   have hl42 : ((ws'.drop (i * 5)).take 5).length = 5 := (hkb' i hlt2).len;generalize (ws.drop (i * 5)).take 5 = xs1 at hat hl41 hcall;generalize (ws'.drop (i * 5)).take 5 = ys1 at hat2 hl42 hcall;refine tr 5 ?_;refine Lo 1 sg86 rfl ha4 ?_;refine cto 8 ?_;refine Db (sq [0, 1, 2, 3, 4, 5, 6, 7, 8, 9, 110, 11] .done) ?_;refine vB 1 ?_;refine Vr 1 rfl (zR sg86 rfl ha4) ?_
   refine Vb 0 rfl (zC ez86 rfl rfl hA (by omega)) ?_;refine Vr 1 rfl ((zg ag88 rfl hl41 hat)) ?_;refine Vr 1 rfl (zR sg86 rfl hb4) ?_;refine Vb 0 rfl (zC ez86 rfl rfl hA2 (by omega)) ?_;refine Vr 0 rfl ((zg ag88 rfl hl42 hat2)) ?_;skip;refine zk rfl ((zW cl111 rfl (fun m' hm he => hcall m' hm) rfl ?_)) rfl;rintro _ _ ⟨⟨rfl, hq⟩ | ⟨rfl, hq⟩, rfl⟩
   ·refine vB 1 ?_;refine Vn 7 ?_;refine Pa 2 ?_
    exact QR (i + 1) (Pick.nil _) ⟨hlt, fun j h h' hj => by
     by_cases hji : j < i
     ·exact hall j h h' hji
     ·obtain rfl : j = i := by omega
      exact hq⟩ (by omega)
   ·refine vB 1 ?_;refine Vn 10 ?_;refine zI ?_;refine zH ?_;refine zL ?_;exact rt2 hl2 ⟨rfl, trivial⟩ ⟨.inr ⟨rfl, fun h => hq (by cases h; rfl)⟩, rfl⟩
  ·have hi2 : i = kids.length := by omega
   subst hi2;have hkk3 : kids = kids' := List.ext_getElem g4 fun j h h' => hall j h h' h;refine tr 5 ?_;refine Lo 1 sg86 rfl ha4 ?_;refine cfo 5 ?_;refine zG ?_;refine zF ?_;refine qt 7 ?_;exact rt2 hl2 ⟨rfl, trivial⟩ ⟨.inl ⟨rfl, by rw [g0, g1, g2, hkk2, hkk3]⟩, rfl⟩
theorem same29 {A A' : Option Addr} {c c' : Nat} {l l' : List (List UInt8)} (hA : Rd m A (l.map strV)) (hA' : Rd m A' (l'.map strV)) (hl : l.length ≤ 140737488355328) (hl' : l'.length ≤ 140737488355328) : CS Tryz.prog 47 [.slice A l.length c, .slice A' l'.length c'] m [] (SameV (l = l')) := by
 skip;have hl2 := Le.refl m;refine zl [.tmp 4] Tryz.func47 rfl rfl rfl ?_;by_cases g0 : l.length = l'.length
 rotate_left
 ·refine tr 12 ?_;refine cto 10 ?_;exact rt2 hl2 ⟨rfl, trivial⟩ ⟨.inr ⟨rfl, fun h => g0 (by rw [h])⟩, rfl⟩
 refine tr 12 ?_;refine cfo 12 ?_;refine zZ (α := Nat) (fun i => [(0, .slice A l.length c), (1, .slice A' l'.length c'), (5, .int .i64 (i : Nat))]) (fun _ => []) (fun i => i ≤ l.length ∧ ∀ (j : Nat) (h : j < l.length) (h' : j < l'.length), j < i → l[j] = l'[j]) (fun i => l.length - i) 0 ⟨rfl, rfl, rfl, trivial⟩ (Pick.nil _) ⟨Nat.zero_le _, fun _ _ _ h => by cases h⟩ ?_;rintro i ⟨hi, hall⟩
 by_cases hlt : i < l.length
 ·have hlt2 : i < l'.length := by omega
  have hX : A.isSome = true := hA.isSome (by rw [List.length_map]; omega);have hX2 : A'.isSome = true := hA'.isSome (by rw [List.length_map]; omega);have hcx := hA.at_ (show (l.map strV)[i]? = some (.string (bs l[i])) by simp [hlt, strV]);have hcy := hA'.at_ (show (l'.map strV)[i]? = some (.string (bs l'[i])) by simp [hlt2, strV])
  have hnx : l[i] = l'[i] → ∀ (j : Nat) (h : j < l.length) (h' : j < l'.length), j < i + 1 → l[j] = l'[j] := fun hq j h h' hj => by
   by_cases hji : j < i
   ·exact hall j h h' hji
   ·obtain rfl : j = i := by omega
    exact hq
  have hno : l[i] ≠ l'[i] → l ≠ l' := fun hq h => hq (by subst h; rfl);generalize l[i] = s at hcx hnx hno;generalize l'[i] = t at hcy hnx hno;by_cases hst : s = t
  ·refine tr 6 ?_;refine cto 8 ?_;refine Db (sq [0, 1, 2, 3, 4, 5, 6, 7, 8] .done) ?_;refine vB 2 ?_;refine Vb 0 rfl (zm ez38 rfl rfl hX (by omega)) ?_;refine Vr 2 rfl (zR sg9 rfl hcx) ?_;refine Vb 0 rfl (zm ez38 rfl rfl hX2 (by omega)) ?_;refine Vr 0 rfl (zR sg9 rfl hcy) ?_;refine Vb 0 rfl (df (jW rfl rfl) (fun hx => hx (by assumption))) ?_;refine Vn 7 ?_
   refine Pa 2 ?_;exact QR (i + 1) (Pick.nil _) ⟨hlt, hnx hst⟩ (by omega)
  ·refine tr 6 ?_;refine cto 8 ?_;refine Db (sq [0, 1, 2, 3, 4, 5, 6, 7, 8] .done) ?_;refine vB 2 ?_;refine Vb 0 rfl (zm ez38 rfl rfl hX (by omega)) ?_;refine Vr 2 rfl (zR sg9 rfl hcx) ?_;refine Vb 0 rfl (zm ez38 rfl rfl hX2 (by omega)) ?_;refine Vr 0 rfl (zR sg9 rfl hcy) ?_;refine Vb 0 rfl (dt (jW rfl rfl) (by assumption)) ?_;refine Vn 10 ?_;refine zI ?_
   refine zH ?_;refine zL ?_;exact rt2 hl2 ⟨rfl, trivial⟩ ⟨.inr ⟨rfl, hno hst⟩, rfl⟩
 ·have hi2 : i = l.length := by omega
  subst hi2;have hkk2 : l = l' := List.ext_getElem g0 fun j h h' => hall j h h' h;refine tr 6 ?_;refine cfo 5 ?_;refine zG ?_;refine zF ?_;refine qt 7 ?_;exact rt2 hl2 ⟨rfl, trivial⟩ ⟨.inl ⟨rfl, hkk2⟩, rfl⟩
end
section
open Wd Tp Kd
variable {m : Mp}
def ES (l : List EffT) : Prop := ∀ (m : Mp) (A : Option Addr) (c : Nat) (l2 : List EffT) (A2 : Option Addr) (c2 : Nat), EffsR m A l.length l → EffsR m A2 l2.length l2 → CS Tryz.prog 69 [.slice A l.length c, .slice A2 l2.length c2] m [] (SameV (l = l2))
theorem ZD {l : List EffT} (ih : ∀ (i : Nat) (h : i < l.length) (op who : Int) (n : NumT) (name : List UInt8) (c : CondT) (a e : List EffT), l[i] = .mk op who n name c a e → ES a ∧ ES e) : ES l := by
 rintro m A c l2 A2 c2 ⟨-, hml, vs, hrd, hvl, hel⟩ ⟨-, hml2, us, hrd2, hul, hel2⟩;have hml : l.length ≤ 9223372036854775807 := hml;have hml2 : l2.length ≤ 9223372036854775807 := hml2;have hl2 := Le.refl m;skip;refine zl [.tmp 4] Tryz.func69 rfl rfl rfl ?_;by_cases g0 : l.length = l2.length
 rotate_left
 ·refine tr 12 ?_;refine cto 10 ?_;exact rt2 hl2 ⟨rfl, trivial⟩ ⟨.inr ⟨rfl, fun h => g0 (by rw [h])⟩, rfl⟩
 refine tr 12 ?_;refine cfo 12 ?_;refine zZ (α := Nat) (fun i => [(0, .slice A l.length c), (1, .slice A2 l2.length c2), (5, .int .i64 (i : Nat))]) (fun _ => []) (fun i => i ≤ l.length ∧ ∀ (j : Nat) (h : j < l.length) (h' : j < l2.length), j < i → l[j] = l2[j]) (fun i => l.length - i) 0 ⟨rfl, rfl, rfl, trivial⟩ (Pick.nil _) ⟨Nat.zero_le _, fun _ _ _ h => by cases h⟩ ?_;rintro i ⟨hi, hall⟩
 by_cases hlt : i < l.length
 rotate_left
 ·have hi2 : i = l.length := by omega
  subst hi2;have hkk2 : l = l2 := List.ext_getElem g0 fun j h h' => hall j h h' h;refine tr 6 ?_;refine cfo 5 ?_;refine zG ?_;refine zF ?_;refine qt 7 ?_;exact rt2 hl2 ⟨rfl, trivial⟩ ⟨.inl ⟨rfl, hkk2⟩, rfl⟩
 have hlt2 : i < l2.length := by omega
 have hX : A.isSome = true := hrd.isSome (by omega);have hX2 : A2.isSome = true := hrd2.isSome (by omega);have hat := hrd.elem (i * 14) 14;have hat2 := hrd2.elem (i * 14) 14;have hx := hel i hlt;have hy := hel2 i hlt2;have hih := ih i hlt
 have hnx : l[i] = l2[i] → ∀ (j : Nat) (h : j < l.length) (h' : j < l2.length), j < i + 1 → l[j] = l2[j] := fun hq j h h' hj => by
  by_cases hji : j < i
  ·exact hall j h h' hji
  ·obtain rfl : j = i := by omega
   exact hq
 have hno : l[i] ≠ l2[i] → l ≠ l2 := fun hq h => hq (by subst h; rfl);clear ih hel hel2 hall;generalize l[i] = x at hx hnx hno hih;generalize l2[i] = y at hy hnx hno;generalize (vs.drop (i * 14)).take 14 = xs at hx hat;generalize (us.drop (i * 14)).take 14 = ys at hy hat2
 obtain ⟨op, who, nop, nn, nwho, nA, nlen, nc, name, cop, cwho, cname, cA, cla, cca, cB, clb, ccb, TA, la, ca, EB, lb, cb, n, cond, thn, els, rfl, rfl, -, hn, hc, hthn, hels⟩ := EffR.parts hx
 obtain ⟨op', who', nop', nn', nwho', nA', nlen', nc', name', cop', cwho', cname', cA', cla', cca', cB', clb', ccb', TA', la', ca', EB', lb', cb', n', cond', thn', els', rfl, rfl, -, hn', hc', hthn', hels'⟩ := EffR.parts hy;obtain ⟨ihT, ihE⟩ := hih _ _ _ _ _ _ _ rfl;have e1 := hthn.1;have e2 := hels.1;have e3 := hthn'.1;have e4 := hels'.1;subst e1 e2 e3 e4;clear hx hy hih;refine tr 6 ?_
 refine cto 8 ?_
 refine vS (α := Nat × Nat) (fun y => [(0, .slice A l.length c), (1, .slice A2 l2.length c2), (5, .int .i64 (i : Nat)), (6, ptr y.1), (7, ptr y.2)]) (fun y => [cel y.1 (e14 op who nop nn nwho nA nlen nc name cop cwho cname cA cla cca cB clb ccb TA thn.length ca EB els.length cb) 90, cel y.2 (e14 op' who' nop' nn' nwho' nA' nlen' nc' name' cop' cwho' cname' cA' cla' cca' cB' clb' ccb' TA' thn'.length ca' EB' els'.length cb') 90]) (fun _ => True) ?_ ?_
 ·refine Db (sq [0, 1, 2, 3, 4, 5, 6, 7] (.fork (sq [108, 109, 110, 111] .done) (sq [109, 108, 110, 111] .done))) ?_;refine vB 2 ?_;refine Vb 0 rfl (zC ez46 rfl rfl hX (by omega)) ?_;refine Vr 2 rfl (zg ag90 rfl rfl hat) ?_;refine Vb 0 rfl (zC ez46 rfl rfl hX2 (by omega)) ?_;refine Vr 0 rfl (zg ag90 rfl rfl hat2) ?_;refine Zp ?_ ?_
  refine zk rfl (z8 zl90 rfl (fun b1 => ?_)) rfl;refine zk rfl (z8 zl90 rfl (fun b2 => ?_)) rfl;refine zk rfl (zQ ag90 rfl rfl rfl .h1 rfl rfl ?_) rfl;refine zk rfl (zQ ag90 rfl rfl rfl .here rfl rfl ?_) rfl;refine Vn 0 ?_
  ·exact QR (b1, b2) (.cons .h1 .p0) trivial (by decide)
  ·refine zk rfl (z8 zl90 rfl (fun b1 => ?_)) rfl;refine zk rfl (z8 zl90 rfl (fun b2 => ?_)) rfl;refine zk rfl (zQ ag90 rfl rfl rfl .here rfl rfl ?_) rfl;refine zk rfl (zQ ag90 rfl rfl rfl .h1 rfl rfl ?_) rfl;refine Vn 0 ?_;exact QR (b2, b1) .pp trivial (by decide)
 rintro ⟨B1, B2⟩ -;dsimp only;refine zw .here (fun ns hi _ hd1 => ?_);refine zw .here (fun ns2 hi2 _ hd2 => ?_);have hR1 : Rd (uni (uni m ns) ns2) (some ⟨B1, 0, none⟩) (e14 op who nop nn nwho nA nlen nc name cop cwho cname cA cla cca cB clb ccb TA thn.length ca EB els.length cb) := ((Rd.blk hi).mono (yU hd1)).mono (yL _ _)
 have haN : At (uni (uni m ns) ns2) ⟨B1, 2, none⟩ (n4 nop nn nwho nA nlen nc) := ((At.blkO (o := 2) (k := 4) hi).mono (yU hd1)).mono (yL _ _);have haC : At (uni (uni m ns) ns2) ⟨B1, 7, none⟩ (c5 cop cwho cname cA cla cca cB clb ccb) := ((At.blkO (o := 7) (k := 5) hi).mono (yU hd1)).mono (yL _ _)
 have hR2 : Rd (uni (uni m ns) ns2) (some ⟨B2, 0, none⟩) (e14 op' who' nop' nn' nwho' nA' nlen' nc' name' cop' cwho' cname' cA' cla' cca' cB' clb' ccb' TA' thn'.length ca' EB' els'.length cb') := (Rd.blk hi2).mono (yU hd2);have hbN : At (uni (uni m ns) ns2) ⟨B2, 2, none⟩ (n4 nop' nn' nwho' nA' nlen' nc') := (At.blkO (o := 2) (k := 4) hi2).mono (yU hd2)
 have hbC : At (uni (uni m ns) ns2) ⟨B2, 7, none⟩ (c5 cop' cwho' cname' cA' cla' cca' cB' clb' ccb') := (At.blkO (o := 7) (k := 5) hi2).mono (yU hd2);have hl2 : Le m (uni (uni m ns) ns2) := (yL _ _).trans (yL _ _);clear hi hd1 hi2 hd2;generalize uni (uni m ns) ns2 = m9 at hR1 hR2 hl2 haN haC hbN hbC;have ha0 : mc m9 ⟨B1, 0, none⟩ = some (.int .i8 op) := hR1.at_ (i := 0) rfl
 have hb0 : mc m9 ⟨B2, 0, none⟩ = some (.int .i8 op') := hR2.at_ (i := 0) rfl;have ha1 : mc m9 ⟨B1, 1, none⟩ = some (.int .i8 who) := hR1.at_ (i := 1) rfl;have hb1 : mc m9 ⟨B2, 1, none⟩ = some (.int .i8 who') := hR2.at_ (i := 1) rfl;have ha6 : mc m9 ⟨B1, 6, none⟩ = some (.string (bs name)) := hR1.at_ (i := 6) rfl;have hb6 : mc m9 ⟨B2, 6, none⟩ = some (.string (bs name')) := hR2.at_ (i := 6) rfl
 have ha12 : mc m9 ⟨B1, 12, none⟩ = some (.slice TA thn.length ca) := hR1.at_ (i := 12) rfl;have hb12 : mc m9 ⟨B2, 12, none⟩ = some (Value.slice TA' thn'.length ca') := hR2.at_ (i := 12) rfl;have ha13 : mc m9 ⟨B1, 13, none⟩ = some (.slice EB els.length cb) := hR1.at_ (i := 13) rfl;have hb13 : mc m9 ⟨B2, 13, none⟩ = some (Value.slice EB' els'.length cb') := hR2.at_ (i := 13) rfl
 by_cases g1 : op = op'
 rotate_left
 ·refine tr 3 ?_;refine Lo 1 sg82 rfl ha0 ?_;refine Lo 0 sg82 rfl hb0 ?_;refine cta 57 ?_;exact rt2 hl2 ⟨rfl, trivial⟩ ⟨.inr ⟨rfl, hno (fun h => g1 (by cases h; rfl))⟩, rfl⟩
 by_cases g2 : who = who'
 rotate_left
 ·refine tr 3 ?_;refine Lo 1 sg82 rfl ha0 ?_;refine Lo 0 sg82 rfl hb0 ?_;refine cfo 2 ?_;refine Lo 1 sg82 rfl ha1 ?_;refine Lo 0 sg82 rfl hb1 ?_;refine cta 51 ?_;exact rt2 hl2 ⟨rfl, trivial⟩ ⟨.inr ⟨rfl, hno (fun h => g2 (by cases h; rfl))⟩, rfl⟩
 by_cases g3 : name = name'
 rotate_left
 ·refine tr 3 ?_;refine Lo 1 sg82 rfl ha0 ?_;refine Lo 0 sg82 rfl hb0 ?_;refine cfo 2 ?_;refine Lo 1 sg82 rfl ha1 ?_;refine Lo 0 sg82 rfl hb1 ?_;refine cfo 3 ?_;refine Lo 1 sg9 rfl ha6 ?_;refine Lo 0 sg9 rfl hb6 ?_;refine cta 44 ?_;exact rt2 hl2 ⟨rfl, trivial⟩ ⟨.inr ⟨rfl, hno (fun h => g3 (by cases h; rfl))⟩, rfl⟩
 refine tr 3 ?_;refine Lo 1 sg82 rfl ha0 ?_;refine Lo 0 sg82 rfl hb0 ?_;refine cfo 2 ?_;refine Lo 1 sg82 rfl ha1 ?_;refine Lo 0 sg82 rfl hb1 ?_;refine cfo 3 ?_;refine Lo 1 sg9 rfl ha6 ?_;refine Lo 0 sg9 rfl hb6 ?_;refine cf 3 rfl (fun hx => hx (by assumption)) ?_;refine La 1 ag85 haN ?_;refine La 0 ag85 hbN ?_
 refine zE ((zW cl110 rfl (fun m' hm he => same103 (hn.mono hl2) (hn'.mono hl2) m' hm) rfl ?_)) rfl;rintro _ _ ⟨⟨rfl, q1⟩ | ⟨rfl, hq⟩, rfl⟩
 rotate_left
 ·refine vr 37 ?_;exact rt2 hl2 ⟨rfl, trivial⟩ ⟨.inr ⟨rfl, hno (fun h => hq (by cases h; rfl))⟩, rfl⟩
 refine vr 4 ?_;refine La 1 ag88 haC ?_;refine La 0 ag88 hbC ?_;refine zE ((zW cl111 rfl (fun m' hm he => same104 (hc.mono hl2) (hc'.mono hl2) m' hm) rfl ?_)) rfl;rintro _ _ ⟨⟨rfl, q2⟩ | ⟨rfl, hq⟩, rfl⟩
 rotate_left
 ·refine vr 29 ?_;exact rt2 hl2 ⟨rfl, trivial⟩ ⟨.inr ⟨rfl, hno (fun h => hq (by cases h; rfl))⟩, rfl⟩
 refine vr 4 ?_;refine Lo 1 sg46 rfl ha12 ?_;refine Lo 0 sg46 rfl hb12 ?_;refine zE ((zW cl69 rfl (fun m' hm he => ihT m' TA ca thn' TA' ca' (hthn.mono (hl2.trans hm)) (hthn'.mono (hl2.trans hm))) rfl ?_)) rfl;rintro _ _ ⟨⟨rfl, q3⟩ | ⟨rfl, hq⟩, rfl⟩
 rotate_left
 ·refine vr 21 ?_;exact rt2 hl2 ⟨rfl, trivial⟩ ⟨.inr ⟨rfl, hno (fun h => hq (by cases h; rfl))⟩, rfl⟩
 refine vr 4 ?_;refine Lo 1 sg46 rfl ha13 ?_;refine Lo 0 sg46 rfl hb13 ?_;refine zE ((zW cl69 rfl (fun m' hm he => ihE m' EB cb els' EB' cb' (hels.mono (hl2.trans hm)) (hels'.mono (hl2.trans hm))) rfl ?_)) rfl;rintro _ _ ⟨⟨rfl, q4⟩ | ⟨rfl, hq⟩, rfl⟩
 rotate_left
 ·refine vr 13 ?_;exact rt2 hl2 ⟨rfl, trivial⟩ ⟨.inr ⟨rfl, hno (fun h => hq (by cases h; rfl))⟩, rfl⟩
 have hq : EffT.mk op who n name cond thn els = EffT.mk op' who' n' name' cond' thn' els' := by rw [g1, g2, g3, q1, q2, q3, q4]
 refine vr 10 ?_;refine Pa 2 ?_;exact j0 hl2 (QR (i + 1) (Pick.nil _) ⟨hlt, hnx hq⟩ (by omega))
theorem same84 (l : List EffT) : ES l := ZD fun i h op who n name c a e he => ⟨same84 a, same84 e⟩
termination_by SizeOf.sizeOf l
decreasing_by
 all_goals
  have h1 := List.sizeOf_lt_of_mem (List.getElem_mem h);rw [he] at h1;simp only [EffT.mk.sizeOf_spec] at h1;omega
end
section
open Wd Tp Kd
variable {m : Mp}
theorem same28 {xs ys : List Value} {x y : CardT} (hx : CardX m xs x) (hy : CardX m ys y) : CS Tryz.prog 46 [.agg xs.toArray, .agg ys.toArray] m [] (SameV (sameC x y)) := by
 obtain ⟨q, rfl, hp, hd, hw⟩ := hx;obtain ⟨r, rfl, hp', hd', hw'⟩ := hy;have hm0 := Le.refl m;skip;refine zl [.tmp 4] Tryz.func46 rfl rfl rfl ?_;refine tr 2 ?_;refine Bx 0 rfl fun b1 => ?_;refine Bx 4 rfl fun b2 => ?_;refine zw .here (fun ns hi _ hd1 => ?_);refine zw .here (fun ns2 hi2 _ hd2 => ?_)
 have hR2 : Rd (uni (uni m ns) ns2) (some ⟨b2, 0, none⟩) (r.v y) := ((Rd.blk hi).mono (yU hd1)).mono (yL _ _);have hR1 : Rd (uni (uni m ns) ns2) (some ⟨b1, 0, none⟩) (q.v x) := (Rd.blk hi2).mono (yU hd2);have hl2 : Le m (uni (uni m ns) ns2) := (yL _ _).trans (yL _ _);clear hi hd1 hi2 hd2;generalize uni (uni m ns) ns2 = m9 at hR1 hR2 hl2;have hl9 := hl2
 have ha0 : mc m9 ⟨b1, 0, none⟩ = some (.string (bs x.name)) := hR1.at_ (i := 0) rfl;have ha1 : mc m9 ⟨b1, 1, none⟩ = some (.bool x.unit) := hR1.at_ (i := 1) rfl;have ha2 : mc m9 ⟨b1, 2, none⟩ = some (.int .i64 x.cost) := hR1.at_ (i := 2) rfl;have ha3 : mc m9 ⟨b1, 3, none⟩ = some (.int .i64 x.power) := hR1.at_ (i := 3) rfl
 have ha4 : mc m9 ⟨b1, 4, none⟩ = some (.int .i64 x.health) := hR1.at_ (i := 4) rfl;have ha5 : mc m9 ⟨b1, 5, none⟩ = some (.int .i64 x.shield) := hR1.at_ (i := 5) rfl;have ha6 : mc m9 ⟨b1, 6, none⟩ = some (.int .i64 x.apow) := hR1.at_ (i := 6) rfl;have ha7 : mc m9 ⟨b1, 7, none⟩ = some (.int .i64 x.aheal) := hR1.at_ (i := 7) rfl
 have ha8 : mc m9 ⟨b1, 8, none⟩ = some (.slice q.A x.played.length q.ca) := hR1.at_ (i := 8) rfl;have ha9 : mc m9 ⟨b1, 9, none⟩ = some (.slice q.B x.dead.length q.cb) := hR1.at_ (i := 9) rfl;have ha10 : mc m9 ⟨b1, 10, none⟩ = some (.slice q.D x.dawn.length q.cd) := hR1.at_ (i := 10) rfl;have hb0 : mc m9 ⟨b2, 0, none⟩ = some (.string (bs y.name)) := hR2.at_ (i := 0) rfl
 have hb1 : mc m9 ⟨b2, 1, none⟩ = some (.bool y.unit) := hR2.at_ (i := 1) rfl;have hb2 : mc m9 ⟨b2, 2, none⟩ = some (.int .i64 y.cost) := hR2.at_ (i := 2) rfl;have hb3 : mc m9 ⟨b2, 3, none⟩ = some (.int .i64 y.power) := hR2.at_ (i := 3) rfl;have hb4 : mc m9 ⟨b2, 4, none⟩ = some (.int .i64 y.health) := hR2.at_ (i := 4) rfl
 have hb5 : mc m9 ⟨b2, 5, none⟩ = some (.int .i64 y.shield) := hR2.at_ (i := 5) rfl;have hb6 : mc m9 ⟨b2, 6, none⟩ = some (.int .i64 y.apow) := hR2.at_ (i := 6) rfl;have hb7 : mc m9 ⟨b2, 7, none⟩ = some (.int .i64 y.aheal) := hR2.at_ (i := 7) rfl;have hb8 : mc m9 ⟨b2, 8, none⟩ = some (.slice r.A y.played.length r.ca) := hR2.at_ (i := 8) rfl
 have hb9 : mc m9 ⟨b2, 9, none⟩ = some (.slice r.B y.dead.length r.cb) := hR2.at_ (i := 9) rfl;have hb10 : mc m9 ⟨b2, 10, none⟩ = some (.slice r.D y.dawn.length r.cd) := hR2.at_ (i := 10) rfl;by_cases g0 : x.name = y.name
 rotate_left
 ·skip;refine tr 2 ?_;refine Lo 1 sg9 rfl ha0 ?_;refine Lo 0 sg9 rfl hb0 ?_;refine cfa 74 ?_;exact rt2 hl2 ⟨rfl, trivial⟩ ⟨.inr ⟨rfl, fun h => g0 h.1⟩, rfl⟩
 by_cases g1 : x.unit = y.unit
 rotate_left
 ·have hcmp : (x.unit = true ∧ y.unit = false) ∨ (x.unit = false ∧ y.unit = true) := by
   cases hu : x.unit <;> cases hv : y.unit <;> simp_all
  rcases hcmp with ⟨hu, hv⟩ | ⟨hu, hv⟩
  ·rw [hu] at ha1;rw [hv] at hb1;refine tr 2 ?_;refine Lo 1 sg9 rfl ha0 ?_;refine Lo 0 sg9 rfl hb0 ?_;refine cta 2 ?_;refine Lo 1 sg4 rfl ha1 ?_;refine Lo 0 sg4 rfl hb1 ?_;refine pe 68 (yk bo4 rfl rfl) ?_;exact rt2 hl2 ⟨rfl, trivial⟩ ⟨.inr ⟨rfl, fun h => g1 h.2.1⟩, rfl⟩
  ·rw [hu] at ha1;rw [hv] at hb1;refine tr 2 ?_;refine Lo 1 sg9 rfl ha0 ?_;refine Lo 0 sg9 rfl hb0 ?_;refine cta 2 ?_;refine Lo 1 sg4 rfl ha1 ?_;refine Lo 0 sg4 rfl hb1 ?_;refine pe 68 (yk bo4 rfl rfl) ?_;exact rt2 hl2 ⟨rfl, trivial⟩ ⟨.inr ⟨rfl, fun h => g1 h.2.1⟩, rfl⟩
 by_cases g2 : x.cost = y.cost
 rotate_left
 ·cases hu : y.unit with
  | false =>
    rw [g1, hu] at ha1;rw [hu] at hb1;refine tr 2 ?_;refine Lo 1 sg9 rfl ha0 ?_;refine Lo 0 sg9 rfl hb0 ?_;refine cta 2 ?_;refine Lo 1 sg4 rfl ha1 ?_;refine Lo 0 sg4 rfl hb1 ?_;refine pe 3 (yk bo4 rfl rfl) ?_;refine Lo 1 sg3 rfl ha2 ?_;refine Lo 0 sg3 rfl hb2 ?_;refine cfa 61 ?_;exact rt2 hl2 ⟨rfl, trivial⟩ ⟨.inr ⟨rfl, fun h => g2 h.2.2.1⟩, rfl⟩
  | true =>
    rw [g1, hu] at ha1;rw [hu] at hb1;refine tr 2 ?_;refine Lo 1 sg9 rfl ha0 ?_;refine Lo 0 sg9 rfl hb0 ?_;refine cta 2 ?_;refine Lo 1 sg4 rfl ha1 ?_;refine Lo 0 sg4 rfl hb1 ?_;refine pe 3 (yk bo4 rfl rfl) ?_;refine Lo 1 sg3 rfl ha2 ?_;refine Lo 0 sg3 rfl hb2 ?_;refine cfa 61 ?_;exact rt2 hl2 ⟨rfl, trivial⟩ ⟨.inr ⟨rfl, fun h => g2 h.2.2.1⟩, rfl⟩
 by_cases g3 : x.power = y.power
 rotate_left
 ·cases hu : y.unit with
  | false =>
    rw [g1, hu] at ha1;rw [hu] at hb1;refine tr 2 ?_;refine Lo 1 sg9 rfl ha0 ?_;refine Lo 0 sg9 rfl hb0 ?_;refine cta 2 ?_;refine Lo 1 sg4 rfl ha1 ?_;refine Lo 0 sg4 rfl hb1 ?_;refine pe 3 (yk bo4 rfl rfl) ?_;refine Lo 1 sg3 rfl ha2 ?_;refine Lo 0 sg3 rfl hb2 ?_;refine cta 3 ?_;refine Lo 1 sg3 rfl ha3 ?_;refine Lo 0 sg3 rfl hb3 ?_;refine cfa 54 ?_
    exact rt2 hl2 ⟨rfl, trivial⟩ ⟨.inr ⟨rfl, fun h => g3 h.2.2.2.1⟩, rfl⟩
  | true =>
    rw [g1, hu] at ha1;rw [hu] at hb1;refine tr 2 ?_;refine Lo 1 sg9 rfl ha0 ?_;refine Lo 0 sg9 rfl hb0 ?_;refine cta 2 ?_;refine Lo 1 sg4 rfl ha1 ?_;refine Lo 0 sg4 rfl hb1 ?_;refine pe 3 (yk bo4 rfl rfl) ?_;refine Lo 1 sg3 rfl ha2 ?_;refine Lo 0 sg3 rfl hb2 ?_;refine cta 3 ?_;refine Lo 1 sg3 rfl ha3 ?_;refine Lo 0 sg3 rfl hb3 ?_;refine cfa 54 ?_
    exact rt2 hl2 ⟨rfl, trivial⟩ ⟨.inr ⟨rfl, fun h => g3 h.2.2.2.1⟩, rfl⟩
 by_cases g4 : x.health = y.health
 rotate_left
 ·cases hu : y.unit with
  | false =>
    rw [g1, hu] at ha1;rw [hu] at hb1;refine tr 2 ?_;refine Lo 1 sg9 rfl ha0 ?_;refine Lo 0 sg9 rfl hb0 ?_;refine cta 2 ?_;refine Lo 1 sg4 rfl ha1 ?_;refine Lo 0 sg4 rfl hb1 ?_;refine pe 3 (yk bo4 rfl rfl) ?_;refine Lo 1 sg3 rfl ha2 ?_;refine Lo 0 sg3 rfl hb2 ?_;refine cta 3 ?_;refine Lo 1 sg3 rfl ha3 ?_;refine Lo 0 sg3 rfl hb3 ?_;refine cta 3 ?_;refine Lo 1 sg3 rfl ha4 ?_
    refine Lo 0 sg3 rfl hb4 ?_;refine cfa 47 ?_;exact rt2 hl2 ⟨rfl, trivial⟩ ⟨.inr ⟨rfl, fun h => g4 h.2.2.2.2.1⟩, rfl⟩
  | true =>
    rw [g1, hu] at ha1;rw [hu] at hb1;refine tr 2 ?_;refine Lo 1 sg9 rfl ha0 ?_;refine Lo 0 sg9 rfl hb0 ?_;refine cta 2 ?_;refine Lo 1 sg4 rfl ha1 ?_;refine Lo 0 sg4 rfl hb1 ?_;refine pe 3 (yk bo4 rfl rfl) ?_;refine Lo 1 sg3 rfl ha2 ?_;refine Lo 0 sg3 rfl hb2 ?_;refine cta 3 ?_;refine Lo 1 sg3 rfl ha3 ?_;refine Lo 0 sg3 rfl hb3 ?_;refine cta 3 ?_;refine Lo 1 sg3 rfl ha4 ?_
    refine Lo 0 sg3 rfl hb4 ?_;refine cfa 47 ?_;exact rt2 hl2 ⟨rfl, trivial⟩ ⟨.inr ⟨rfl, fun h => g4 h.2.2.2.2.1⟩, rfl⟩
 by_cases g5 : x.shield = y.shield
 rotate_left
 ·cases hu : y.unit with
  | false =>
    rw [g1, hu] at ha1;rw [hu] at hb1;refine tr 2 ?_;refine Lo 1 sg9 rfl ha0 ?_;refine Lo 0 sg9 rfl hb0 ?_;refine cta 2 ?_;refine Lo 1 sg4 rfl ha1 ?_;refine Lo 0 sg4 rfl hb1 ?_;refine pe 3 (yk bo4 rfl rfl) ?_;refine Lo 1 sg3 rfl ha2 ?_;refine Lo 0 sg3 rfl hb2 ?_;refine cta 3 ?_;refine Lo 1 sg3 rfl ha3 ?_;refine Lo 0 sg3 rfl hb3 ?_;refine cta 3 ?_;refine Lo 1 sg3 rfl ha4 ?_
    refine Lo 0 sg3 rfl hb4 ?_;refine cta 3 ?_;refine Lo 1 sg3 rfl ha5 ?_;refine Lo 0 sg3 rfl hb5 ?_;refine cfa 40 ?_;exact rt2 hl2 ⟨rfl, trivial⟩ ⟨.inr ⟨rfl, fun h => g5 h.2.2.2.2.2.1⟩, rfl⟩
  | true =>
    rw [g1, hu] at ha1;rw [hu] at hb1;refine tr 2 ?_;refine Lo 1 sg9 rfl ha0 ?_;refine Lo 0 sg9 rfl hb0 ?_;refine cta 2 ?_;refine Lo 1 sg4 rfl ha1 ?_;refine Lo 0 sg4 rfl hb1 ?_;refine pe 3 (yk bo4 rfl rfl) ?_;refine Lo 1 sg3 rfl ha2 ?_;refine Lo 0 sg3 rfl hb2 ?_;refine cta 3 ?_;refine Lo 1 sg3 rfl ha3 ?_;refine Lo 0 sg3 rfl hb3 ?_;refine cta 3 ?_;refine Lo 1 sg3 rfl ha4 ?_
    refine Lo 0 sg3 rfl hb4 ?_;refine cta 3 ?_;refine Lo 1 sg3 rfl ha5 ?_;refine Lo 0 sg3 rfl hb5 ?_;refine cfa 40 ?_;exact rt2 hl2 ⟨rfl, trivial⟩ ⟨.inr ⟨rfl, fun h => g5 h.2.2.2.2.2.1⟩, rfl⟩
 by_cases g6 : x.apow = y.apow
 rotate_left
 ·cases hu : y.unit with
  | false =>
    rw [g1, hu] at ha1;rw [hu] at hb1;refine tr 2 ?_;refine Lo 1 sg9 rfl ha0 ?_;refine Lo 0 sg9 rfl hb0 ?_;refine cta 2 ?_;refine Lo 1 sg4 rfl ha1 ?_;refine Lo 0 sg4 rfl hb1 ?_;refine pe 3 (yk bo4 rfl rfl) ?_;refine Lo 1 sg3 rfl ha2 ?_;refine Lo 0 sg3 rfl hb2 ?_;refine cta 3 ?_;refine Lo 1 sg3 rfl ha3 ?_;refine Lo 0 sg3 rfl hb3 ?_;refine cta 3 ?_;refine Lo 1 sg3 rfl ha4 ?_
    refine Lo 0 sg3 rfl hb4 ?_;refine cta 3 ?_;refine Lo 1 sg3 rfl ha5 ?_;refine Lo 0 sg3 rfl hb5 ?_;refine cta 3 ?_;refine Lo 1 sg3 rfl ha6 ?_;refine Lo 0 sg3 rfl hb6 ?_;refine cfa 33 ?_;exact rt2 hl2 ⟨rfl, trivial⟩ ⟨.inr ⟨rfl, fun h => g6 h.2.2.2.2.2.2.1⟩, rfl⟩
  | true =>
    rw [g1, hu] at ha1;rw [hu] at hb1;refine tr 2 ?_;refine Lo 1 sg9 rfl ha0 ?_;refine Lo 0 sg9 rfl hb0 ?_;refine cta 2 ?_;refine Lo 1 sg4 rfl ha1 ?_;refine Lo 0 sg4 rfl hb1 ?_;refine pe 3 (yk bo4 rfl rfl) ?_;refine Lo 1 sg3 rfl ha2 ?_;refine Lo 0 sg3 rfl hb2 ?_;refine cta 3 ?_;refine Lo 1 sg3 rfl ha3 ?_;refine Lo 0 sg3 rfl hb3 ?_;refine cta 3 ?_;refine Lo 1 sg3 rfl ha4 ?_
    refine Lo 0 sg3 rfl hb4 ?_;refine cta 3 ?_;refine Lo 1 sg3 rfl ha5 ?_;refine Lo 0 sg3 rfl hb5 ?_;refine cta 3 ?_;refine Lo 1 sg3 rfl ha6 ?_;refine Lo 0 sg3 rfl hb6 ?_;refine cfa 33 ?_;exact rt2 hl2 ⟨rfl, trivial⟩ ⟨.inr ⟨rfl, fun h => g6 h.2.2.2.2.2.2.1⟩, rfl⟩
 by_cases g7 : x.aheal = y.aheal
 rotate_left
 ·cases hu : y.unit with
  | false =>
    rw [g1, hu] at ha1;rw [hu] at hb1;refine tr 2 ?_;refine Lo 1 sg9 rfl ha0 ?_;refine Lo 0 sg9 rfl hb0 ?_;refine cta 2 ?_;refine Lo 1 sg4 rfl ha1 ?_;refine Lo 0 sg4 rfl hb1 ?_;refine pe 3 (yk bo4 rfl rfl) ?_;refine Lo 1 sg3 rfl ha2 ?_;refine Lo 0 sg3 rfl hb2 ?_;refine cta 3 ?_;refine Lo 1 sg3 rfl ha3 ?_;refine Lo 0 sg3 rfl hb3 ?_;refine cta 3 ?_;refine Lo 1 sg3 rfl ha4 ?_
    refine Lo 0 sg3 rfl hb4 ?_;refine cta 3 ?_;refine Lo 1 sg3 rfl ha5 ?_;refine Lo 0 sg3 rfl hb5 ?_;refine cta 3 ?_;refine Lo 1 sg3 rfl ha6 ?_;refine Lo 0 sg3 rfl hb6 ?_;refine cta 3 ?_;refine Lo 1 sg3 rfl ha7 ?_;refine Lo 0 sg3 rfl hb7 ?_;refine cfa 26 ?_;exact rt2 hl2 ⟨rfl, trivial⟩ ⟨.inr ⟨rfl, fun h => g7 h.2.2.2.2.2.2.2.1⟩, rfl⟩
  | true =>
    rw [g1, hu] at ha1;rw [hu] at hb1;refine tr 2 ?_;refine Lo 1 sg9 rfl ha0 ?_;refine Lo 0 sg9 rfl hb0 ?_;refine cta 2 ?_;refine Lo 1 sg4 rfl ha1 ?_;refine Lo 0 sg4 rfl hb1 ?_;refine pe 3 (yk bo4 rfl rfl) ?_;refine Lo 1 sg3 rfl ha2 ?_;refine Lo 0 sg3 rfl hb2 ?_;refine cta 3 ?_;refine Lo 1 sg3 rfl ha3 ?_;refine Lo 0 sg3 rfl hb3 ?_;refine cta 3 ?_;refine Lo 1 sg3 rfl ha4 ?_
    refine Lo 0 sg3 rfl hb4 ?_;refine cta 3 ?_;refine Lo 1 sg3 rfl ha5 ?_;refine Lo 0 sg3 rfl hb5 ?_;refine cta 3 ?_;refine Lo 1 sg3 rfl ha6 ?_;refine Lo 0 sg3 rfl hb6 ?_;refine cta 3 ?_;refine Lo 1 sg3 rfl ha7 ?_;refine Lo 0 sg3 rfl hb7 ?_;refine cfa 26 ?_;exact rt2 hl2 ⟨rfl, trivial⟩ ⟨.inr ⟨rfl, fun h => g7 h.2.2.2.2.2.2.2.1⟩, rfl⟩
 cases hu : y.unit with
 | false =>
   rw [g1, hu] at ha1;rw [hu] at hb1;refine tr 2 ?_;refine Lo 1 sg9 rfl ha0 ?_;refine Lo 0 sg9 rfl hb0 ?_;refine cta 2 ?_;refine Lo 1 sg4 rfl ha1 ?_;refine Lo 0 sg4 rfl hb1 ?_;refine pe 3 (yk bo4 rfl rfl) ?_;refine Lo 1 sg3 rfl ha2 ?_;refine Lo 0 sg3 rfl hb2 ?_;refine cta 3 ?_;refine Lo 1 sg3 rfl ha3 ?_;refine Lo 0 sg3 rfl hb3 ?_;refine cta 3 ?_;refine Lo 1 sg3 rfl ha4 ?_
   refine Lo 0 sg3 rfl hb4 ?_;refine cta 3 ?_;refine Lo 1 sg3 rfl ha5 ?_;refine Lo 0 sg3 rfl hb5 ?_;refine cta 3 ?_;refine Lo 1 sg3 rfl ha6 ?_;refine Lo 0 sg3 rfl hb6 ?_;refine cta 3 ?_;refine Lo 1 sg3 rfl ha7 ?_;refine Lo 0 sg3 rfl hb7 ?_;refine cta 3 ?_;refine Lo 1 sg46 rfl ha8 ?_;refine Lo 0 sg46 rfl hb8 ?_
   refine zE ((zW cl69 rfl (fun m' hm he => same84 x.played m' q.A q.ca y.played r.A r.ca (hp.mono (hl2.trans hm)) (hp'.mono (hl2.trans hm))) rfl ?_)) rfl;rintro _ _ ⟨⟨rfl, q8⟩ | ⟨rfl, hq⟩, rfl⟩
   rotate_left
   ·refine vr 19 ?_;exact rt2 hl2 ⟨rfl, trivial⟩ ⟨.inr ⟨rfl, fun h => hq h.2.2.2.2.2.2.2.2.1⟩, rfl⟩
   refine vr 3 ?_;refine Lo 1 sg46 rfl ha9 ?_;refine Lo 0 sg46 rfl hb9 ?_;refine zE ((zW cl69 rfl (fun m' hm he => same84 x.dead m' q.B q.cb y.dead r.B r.cb (hd.mono (hl2.trans hm)) (hd'.mono (hl2.trans hm))) rfl ?_)) rfl;rintro _ _ ⟨⟨rfl, q9⟩ | ⟨rfl, hq⟩, rfl⟩
   rotate_left
   ·refine vr 12 ?_;exact rt2 hl2 ⟨rfl, trivial⟩ ⟨.inr ⟨rfl, fun h => hq h.2.2.2.2.2.2.2.2.2.1⟩, rfl⟩
   refine vr 3 ?_;refine Lo 1 sg46 rfl ha10 ?_;refine Lo 0 sg46 rfl hb10 ?_;refine zE ((zW cl69 rfl (fun m' hm he => same84 x.dawn m' q.D q.cd y.dawn r.D r.cd (hw.mono (hl2.trans hm)) (hw'.mono (hl2.trans hm))) rfl ?_)) rfl;rintro _ _ ⟨⟨rfl, q10⟩ | ⟨rfl, hq⟩, rfl⟩
   rotate_left
   ·refine vr 5 ?_;exact rt2 hl2 ⟨rfl, trivial⟩ ⟨.inr ⟨rfl, fun h => hq h.2.2.2.2.2.2.2.2.2.2⟩, rfl⟩
   refine vr 5 ?_;exact rt2 hl2 ⟨rfl, trivial⟩ ⟨.inl ⟨rfl, ⟨g0, g1, g2, g3, g4, g5, g6, g7, q8, q9, q10⟩⟩, rfl⟩
 | true =>
   rw [g1, hu] at ha1;rw [hu] at hb1;refine tr 2 ?_;refine Lo 1 sg9 rfl ha0 ?_;refine Lo 0 sg9 rfl hb0 ?_;refine cta 2 ?_;refine Lo 1 sg4 rfl ha1 ?_;refine Lo 0 sg4 rfl hb1 ?_;refine pe 3 (yk bo4 rfl rfl) ?_;refine Lo 1 sg3 rfl ha2 ?_;refine Lo 0 sg3 rfl hb2 ?_;refine cta 3 ?_;refine Lo 1 sg3 rfl ha3 ?_;refine Lo 0 sg3 rfl hb3 ?_;refine cta 3 ?_;refine Lo 1 sg3 rfl ha4 ?_
   refine Lo 0 sg3 rfl hb4 ?_;refine cta 3 ?_;refine Lo 1 sg3 rfl ha5 ?_;refine Lo 0 sg3 rfl hb5 ?_;refine cta 3 ?_;refine Lo 1 sg3 rfl ha6 ?_;refine Lo 0 sg3 rfl hb6 ?_;refine cta 3 ?_;refine Lo 1 sg3 rfl ha7 ?_;refine Lo 0 sg3 rfl hb7 ?_;refine cta 3 ?_;refine Lo 1 sg46 rfl ha8 ?_;refine Lo 0 sg46 rfl hb8 ?_
   refine zE ((zW cl69 rfl (fun m' hm he => same84 x.played m' q.A q.ca y.played r.A r.ca (hp.mono (hl2.trans hm)) (hp'.mono (hl2.trans hm))) rfl ?_)) rfl;rintro _ _ ⟨⟨rfl, q8⟩ | ⟨rfl, hq⟩, rfl⟩
   rotate_left
   ·refine vr 19 ?_;exact rt2 hl2 ⟨rfl, trivial⟩ ⟨.inr ⟨rfl, fun h => hq h.2.2.2.2.2.2.2.2.1⟩, rfl⟩
   refine vr 3 ?_;refine Lo 1 sg46 rfl ha9 ?_;refine Lo 0 sg46 rfl hb9 ?_;refine zE ((zW cl69 rfl (fun m' hm he => same84 x.dead m' q.B q.cb y.dead r.B r.cb (hd.mono (hl2.trans hm)) (hd'.mono (hl2.trans hm))) rfl ?_)) rfl;rintro _ _ ⟨⟨rfl, q9⟩ | ⟨rfl, hq⟩, rfl⟩
   rotate_left
   ·refine vr 12 ?_;exact rt2 hl2 ⟨rfl, trivial⟩ ⟨.inr ⟨rfl, fun h => hq h.2.2.2.2.2.2.2.2.2.1⟩, rfl⟩
   refine vr 3 ?_;refine Lo 1 sg46 rfl ha10 ?_;refine Lo 0 sg46 rfl hb10 ?_;refine zE ((zW cl69 rfl (fun m' hm he => same84 x.dawn m' q.D q.cd y.dawn r.D r.cd (hw.mono (hl2.trans hm)) (hw'.mono (hl2.trans hm))) rfl ?_)) rfl;rintro _ _ ⟨⟨rfl, q10⟩ | ⟨rfl, hq⟩, rfl⟩
   rotate_left
   ·refine vr 5 ?_;exact rt2 hl2 ⟨rfl, trivial⟩ ⟨.inr ⟨rfl, fun h => hq h.2.2.2.2.2.2.2.2.2.2⟩, rfl⟩
   refine vr 5 ?_;exact rt2 hl2 ⟨rfl, trivial⟩ ⟨.inl ⟨rfl, ⟨g0, g1, g2, g3, g4, g5, g6, g7, q8, q9, q10⟩⟩, rfl⟩
end
section
open Wd Tp Kd
variable {m : Mp}
theorem same9 {K F K' F' : Option Addr} {kc fc kc' fc' : Nat} {a b : BkT} (hC : CardsX m K a.cards) (hF : FmtsX m F a.fmts) (hC' : CardsX m K' b.cards) (hF' : FmtsX m F' b.fmts) (hs : FmL a) (hs' : FmL b) :
  CS Tryz.prog 19 [.agg (bk2 K a.cards.length kc F a.fmts.length fc).toArray, .agg (bk2 K' b.cards.length kc' F' b.fmts.length fc').toArray] m [] (SameV (sameB a b)) := by
 obtain ⟨hlc, hlf, hfb⟩ := hs;obtain ⟨hlc', hlf', hfb'⟩ := hs';skip;refine zl [.tmp 4] Tryz.func19 rfl rfl rfl ?_;refine tr 2 ?_;refine Bx 0 rfl fun b1 => ?_;refine Bx 5 rfl fun b2 => ?_;refine zw .here (fun ns hi _ hd1 => ?_);refine zw .here (fun ns2 hi2 _ hd2 => ?_)
 have hR2 : Rd (uni (uni m ns) ns2) (some ⟨b2, 0, none⟩) (bk2 K' b.cards.length kc' F' b.fmts.length fc') := ((Rd.blk hi).mono (yU hd1)).mono (yL _ _);have hR1 : Rd (uni (uni m ns) ns2) (some ⟨b1, 0, none⟩) (bk2 K a.cards.length kc F a.fmts.length fc) := (Rd.blk hi2).mono (yU hd2);have hl2 : Le m (uni (uni m ns) ns2) := (yL _ _).trans (yL _ _);clear hi hd1 hi2 hd2
 generalize uni (uni m ns) ns2 = m9 at hR1 hR2 hl2;have hl9 := hl2;have ha0 : mc m9 ⟨b1, 0, none⟩ = some (.slice K a.cards.length kc) := hR1.at_ (i := 0) rfl;have ha1 : mc m9 ⟨b1, 1, none⟩ = some (.slice F a.fmts.length fc) := hR1.at_ (i := 1) rfl;have hb0 : mc m9 ⟨b2, 0, none⟩ = some (Value.slice K' b.cards.length kc') := hR2.at_ (i := 0) rfl
 have hb1 : mc m9 ⟨b2, 1, none⟩ = some (Value.slice F' b.fmts.length fc') := hR2.at_ (i := 1) rfl;obtain ⟨vs, hrd, hvl, hel⟩ := hC;obtain ⟨vs', hrd', hvl', hel'⟩ := hC';obtain ⟨us, hrf, hul, hef⟩ := hF;obtain ⟨us', hrf', hul', hef'⟩ := hF';by_cases g0 : a.cards.length = b.cards.length
 rotate_left
 ·refine tr 2 ?_;refine Lo 2 sg22 rfl ha0 ?_;refine Lo 1 sg22 rfl hb0 ?_;refine cto 19 ?_;exact rt2 hl2 ⟨rfl, trivial⟩ ⟨.inr ⟨rfl, fun h => g0 h.lc⟩, rfl⟩
 by_cases g1 : a.fmts.length = b.fmts.length
 rotate_left
 ·refine tr 2 ?_;refine Lo 2 sg22 rfl ha0 ?_;refine Lo 1 sg22 rfl hb0 ?_;refine cfo 2 ?_;refine Lo 2 sg23 rfl ha1 ?_;refine Lo 1 sg23 rfl hb1 ?_;refine cto 11 ?_;exact rt2 hl2 ⟨rfl, trivial⟩ ⟨.inr ⟨rfl, fun h => g1 h.lf⟩, rfl⟩
 refine tr 2 ?_;refine Lo 2 sg22 rfl ha0 ?_;refine Lo 1 sg22 rfl hb0 ?_;refine cfo 2 ?_;refine Lo 2 sg23 rfl ha1 ?_;refine Lo 1 sg23 rfl hb1 ?_;refine cfo 13 ?_
 refine zZ (α := Nat) (fun i => [(2, ptr b1), (3, ptr b2), (5, .int .i64 (i : Nat))]) (fun _ => []) (fun i => i ≤ a.cards.length ∧ ∀ (j : Nat) (h : j < a.cards.length) (h' : j < b.cards.length), j < i → sameC a.cards[j] b.cards[j]) (fun i => a.cards.length - i) 0 ⟨rfl, rfl, rfl, trivial⟩ (Pick.nil _) ⟨Nat.zero_le _, fun _ _ _ h => by cases h⟩ ?_;rintro i ⟨hi, hall⟩
 by_cases hlt : i < a.cards.length
 ·have hlt2 : i < b.cards.length := by omega
  have hA : K.isSome = true := hrd.isSome (by omega);have hA2 : K'.isSome = true := hrd'.isSome (by omega);have hat := (hrd.elem (i * 12) 12).mono hl9;have hat2 := (hrd'.elem (i * 12) 12).mono hl9;have hx := (hel i hlt).mono hl9;have hy := (hel' i hlt2).mono hl9;have hl41 : ((vs.drop (i * 12)).take 12).length = 12 := by obtain ⟨q, h, -⟩ := hx; rw [h]; rfl
  have hl42 : ((vs'.drop (i * 12)).take 12).length = 12 := by obtain ⟨q, h, -⟩ := hy; rw [h]; rfl
  generalize (vs.drop (i * 12)).take 12 = xs1 at hat hl41 hx;generalize (vs'.drop (i * 12)).take 12 = ys1 at hat2 hl42 hy;refine tr 5 ?_;refine Lo 1 sg22 rfl ha0 ?_;refine cto 8 ?_;refine Db (sq [0, 1, 2, 3, 4, 5, 6, 7, 8, 9, 110, 11] .done) ?_;refine vB 1 ?_;refine Vr 1 rfl (zR sg22 rfl ha0) ?_;refine Vb 0 rfl (zC ez22 rfl rfl hA (by omega)) ?_
  refine Vr 1 rfl ((zg ag48 rfl hl41 hat)) ?_;refine Vr 1 rfl (zR sg22 rfl hb0) ?_;refine Vb 0 rfl (zC ez22 rfl rfl hA2 (by omega)) ?_;refine Vr 0 rfl ((zg ag48 rfl hl42 hat2)) ?_;skip;refine zk rfl ((zW cl46 rfl (fun m' hm he => same28 (hx.mono hm) (hy.mono hm)) rfl ?_)) rfl;rintro _ _ ⟨⟨rfl, hq⟩ | ⟨rfl, hq⟩, rfl⟩
  ·refine vB 1 ?_;refine Vn 7 ?_;refine Pa 2 ?_
   exact QR (i + 1) (Pick.nil _) ⟨hlt, fun j h h' hj => by
    by_cases hji : j < i
    ·exact hall j h h' hji
    ·obtain rfl : j = i := by omega
     exact hq⟩ (by omega)
  ·refine vB 1 ?_;refine Vn 10 ?_;refine zI ?_;refine zH ?_;refine zL ?_;exact rt2 hl2 ⟨rfl, trivial⟩ ⟨.inr ⟨rfl, fun h => hq (h.c i hlt hlt2)⟩, rfl⟩
 have hi2 : i = a.cards.length := by omega
 subst hi2;have hcs : ∀ (j : Nat) (h : j < a.cards.length) (h' : j < b.cards.length), sameC a.cards[j] b.cards[j] := fun j h h' => hall j h h' h;clear hall hi hlt;refine tr 5 ?_;refine Lo 1 sg22 rfl ha0 ?_;refine cfo 5 ?_;refine zG ?_;refine zF ?_;refine qt 8 ?_
 refine zZ (α := Nat) (fun i => [(2, ptr b1), (3, ptr b2), (6, .int .i64 (i : Nat))]) (fun _ => []) (fun i => i ≤ a.fmts.length ∧ ∀ (j : Nat) (h : j < a.fmts.length) (h' : j < b.fmts.length), j < i → sameF a.fmts[j] b.fmts[j]) (fun i => a.fmts.length - i) 0 ⟨rfl, rfl, rfl, trivial⟩ (Pick.nil _) ⟨Nat.zero_le _, fun _ _ _ h => by cases h⟩ ?_;rintro i ⟨hi, hall⟩;by_cases hlt : i < a.fmts.length
 rotate_left
 ·have hi2 : i = a.fmts.length := by omega
  subst hi2;refine tr 5 ?_;refine Lo 1 sg23 rfl ha1 ?_;refine cfo 5 ?_;refine zG ?_;refine zF ?_;refine qt 7 ?_;exact rt2 hl2 ⟨rfl, trivial⟩ ⟨.inl ⟨rfl, ⟨g0, g1, hcs, fun j h h' => hall j h h' h⟩⟩, rfl⟩
 have hlt2 : i < b.fmts.length := by omega
 have hA : F.isSome = true := hrf.isSome (by omega);have hA2 : F'.isSome = true := hrf'.isSome (by omega);have hat := (hrf.elem (i * 7) 7).mono hl9;have hat2 := (hrf'.elem (i * 7) 7).mono hl9;obtain ⟨q, hqv, hqB, hqS⟩ := (hef i hlt).mono hl9;obtain ⟨r, hrv, hrB, hrS⟩ := (hef' i hlt2).mono hl9;rw [hqv] at hat;rw [hrv] at hat2;obtain ⟨hb1', hb2'⟩ := hfb _ (List.getElem_mem hlt)
 obtain ⟨hb3', hb4'⟩ := hfb' _ (List.getElem_mem hlt2)
 have hnx : sameF a.fmts[i] b.fmts[i] → ∀ (j : Nat) (h : j < a.fmts.length) (h' : j < b.fmts.length), j < i + 1 → sameF a.fmts[j] b.fmts[j] := fun hq j h h' hj => by
  by_cases hji : j < i
  ·exact hall j h h' hji
  ·obtain rfl : j = i := by omega
   exact hq
 have hno : ¬ sameF a.fmts[i] b.fmts[i] → ¬ sameB a b := fun hq h => hq (h.f i hlt hlt2);clear hall hqv hrv;generalize a.fmts[i] = x at hat hqB hqS hb1' hb2' hnx hno;generalize b.fmts[i] = y at hat2 hrB hrS hb3' hb4' hnx hno;refine tr 5 ?_;refine Lo 1 sg23 rfl ha1 ?_;refine cto 8 ?_
 refine vS (α := Nat × Nat) (fun y' => [(2, ptr b1), (3, ptr b2), (6, .int .i64 (i : Nat)), (7, ptr y'.1), (8, ptr y'.2)]) (fun y' => [cel y'.1 (q.v x) 40, cel y'.2 (r.v y) 40]) (fun _ => True) ?_ ?_
 ·refine Db (sq [0, 1, 2, 3, 4, 5, 6, 7, 8, 9] (.fork (sq [110, 111, 112, 113] .done) (sq [111, 110, 112, 113] .done))) ?_;refine vB 1 ?_;refine Vr 1 rfl (zR sg23 rfl ha1) ?_;refine Vb 0 rfl (zC ez23 rfl rfl hA (by omega)) ?_;refine Vr 1 rfl (zg ag40 rfl rfl hat) ?_;refine Vr 1 rfl (zR sg23 rfl hb1) ?_;refine Vb 0 rfl (zC ez23 rfl rfl hA2 (by omega)) ?_
  refine Vr 0 rfl (zg ag40 rfl rfl hat2) ?_;refine Zp ?_ ?_;refine zk rfl (z8 zl40 rfl (fun b3 => ?_)) rfl;refine zk rfl (z8 zl40 rfl (fun b4 => ?_)) rfl;refine zk rfl (zQ ag40 rfl rfl rfl .h1 rfl rfl ?_) rfl;refine zk rfl (zQ ag40 rfl rfl rfl .here rfl rfl ?_) rfl;refine Vn 0 ?_
  ·exact QR (b3, b4) (.cons .h1 .p0) trivial (by decide)
  ·refine zk rfl (z8 zl40 rfl (fun b3 => ?_)) rfl;refine zk rfl (z8 zl40 rfl (fun b4 => ?_)) rfl;refine zk rfl (zQ ag40 rfl rfl rfl .here rfl rfl ?_) rfl;refine zk rfl (zQ ag40 rfl rfl rfl .h1 rfl rfl ?_) rfl;refine Vn 0 ?_;exact QR (b4, b3) .pp trivial (by decide)
 rintro ⟨B1, B2⟩ -;dsimp only;refine zw .here (fun ns hi _ hd1 => ?_);refine zw .here (fun ns2 hi2 _ hd2 => ?_);have hR1' : Rd (uni (uni m9 ns) ns2) (some ⟨B1, 0, none⟩) (q.v x) := ((Rd.blk hi).mono (yU hd1)).mono (yL _ _);have hR2' : Rd (uni (uni m9 ns) ns2) (some ⟨B2, 0, none⟩) (r.v y) := (Rd.blk hi2).mono (yU hd2)
 have hl3 : Le m9 (uni (uni m9 ns) ns2) := (yL _ _).trans (yL _ _);clear hi hd1 hi2 hd2;generalize uni (uni m9 ns) ns2 = m10 at hR1' hR2' hl3;have hl2 := hl2.trans hl3;have hx0 : mc m10 ⟨B1, 0, none⟩ = some (.string (bs x.name)) := hR1'.at_ (i := 0) rfl;have hy0 : mc m10 ⟨B2, 0, none⟩ = some (.string (bs y.name)) := hR2'.at_ (i := 0) rfl
 have hx1 : mc m10 ⟨B1, 1, none⟩ = some (.int .i64 x.least) := hR1'.at_ (i := 1) rfl;have hy1 : mc m10 ⟨B2, 1, none⟩ = some (.int .i64 y.least) := hR2'.at_ (i := 1) rfl;have hx2 : mc m10 ⟨B1, 2, none⟩ = some (.int .i64 x.most) := hR1'.at_ (i := 2) rfl;have hy2 : mc m10 ⟨B2, 2, none⟩ = some (.int .i64 y.most) := hR2'.at_ (i := 2) rfl
 have hx3 : mc m10 ⟨B1, 3, none⟩ = some (.int .i64 x.copies) := hR1'.at_ (i := 3) rfl;have hy3 : mc m10 ⟨B2, 3, none⟩ = some (.int .i64 y.copies) := hR2'.at_ (i := 3) rfl;have hx4 : mc m10 ⟨B1, 4, none⟩ = some (.slice q.A x.banned.length q.ca) := hR1'.at_ (i := 4) rfl;have hy4 : mc m10 ⟨B2, 4, none⟩ = some (.slice r.A y.banned.length r.ca) := hR2'.at_ (i := 4) rfl
 have hx5 : mc m10 ⟨B1, 5, none⟩ = some (.slice q.B x.single.length q.cb) := hR1'.at_ (i := 5) rfl;have hy5 : mc m10 ⟨B2, 5, none⟩ = some (.slice r.B y.single.length r.cb) := hR2'.at_ (i := 5) rfl;by_cases k0 : x.name = y.name
 rotate_left
 ·refine tr 3 ?_;refine Lo 1 sg9 rfl hx0 ?_;refine Lo 0 sg9 rfl hy0 ?_;refine cta 48 ?_;exact rt2 hl2 ⟨rfl, trivial⟩ ⟨.inr ⟨rfl, hno (fun h => k0 h.1)⟩, rfl⟩
 by_cases k1 : x.least = y.least
 rotate_left
 ·refine tr 3 ?_;refine Lo 1 sg9 rfl hx0 ?_;refine Lo 0 sg9 rfl hy0 ?_;refine cf 2 rfl (fun hx => hx (by assumption)) ?_;refine Lo 1 sg3 rfl hx1 ?_;refine Lo 0 sg3 rfl hy1 ?_;refine cta 42 ?_;exact rt2 hl2 ⟨rfl, trivial⟩ ⟨.inr ⟨rfl, hno (fun h => k1 h.2.1)⟩, rfl⟩
 by_cases k2 : x.most = y.most
 rotate_left
 ·refine tr 3 ?_;refine Lo 1 sg9 rfl hx0 ?_;refine Lo 0 sg9 rfl hy0 ?_;refine cf 2 rfl (fun hx => hx (by assumption)) ?_;refine Lo 1 sg3 rfl hx1 ?_;refine Lo 0 sg3 rfl hy1 ?_;refine cfo 3 ?_;refine Lo 1 sg3 rfl hx2 ?_;refine Lo 0 sg3 rfl hy2 ?_;refine cta 35 ?_;exact rt2 hl2 ⟨rfl, trivial⟩ ⟨.inr ⟨rfl, hno (fun h => k2 h.2.2.1)⟩, rfl⟩
 by_cases k3 : x.copies = y.copies
 rotate_left
 ·refine tr 3 ?_;refine Lo 1 sg9 rfl hx0 ?_;refine Lo 0 sg9 rfl hy0 ?_;refine cf 2 rfl (fun hx => hx (by assumption)) ?_;refine Lo 1 sg3 rfl hx1 ?_;refine Lo 0 sg3 rfl hy1 ?_;refine cfo 3 ?_;refine Lo 1 sg3 rfl hx2 ?_;refine Lo 0 sg3 rfl hy2 ?_;refine cfo 3 ?_;refine Lo 1 sg3 rfl hx3 ?_;refine Lo 0 sg3 rfl hy3 ?_;refine cta 28 ?_
  exact rt2 hl2 ⟨rfl, trivial⟩ ⟨.inr ⟨rfl, hno (fun h => k3 h.2.2.2.1)⟩, rfl⟩
 refine tr 3 ?_;refine Lo 1 sg9 rfl hx0 ?_;refine Lo 0 sg9 rfl hy0 ?_;refine cf 2 rfl (fun hx => hx (by assumption)) ?_;refine Lo 1 sg3 rfl hx1 ?_;refine Lo 0 sg3 rfl hy1 ?_;refine cfo 3 ?_;refine Lo 1 sg3 rfl hx2 ?_;refine Lo 0 sg3 rfl hy2 ?_;refine cfo 3 ?_;refine Lo 1 sg3 rfl hx3 ?_;refine Lo 0 sg3 rfl hy3 ?_;refine cfo 3 ?_;refine Lo 1 sg38 rfl hx4 ?_;refine Lo 0 sg38 rfl hy4 ?_
 refine zE ((zW cl47 rfl (fun m' hm he => same29 (hqB.1.mono (hl3.trans hm)) (hrB.1.mono (hl3.trans hm)) hb1' hb3') rfl ?_)) rfl;rintro _ _ ⟨⟨rfl, k4⟩ | ⟨rfl, hq⟩, rfl⟩
 rotate_left
 ·refine vr 21 ?_;exact rt2 hl2 ⟨rfl, trivial⟩ ⟨.inr ⟨rfl, hno (fun h => hq h.2.2.2.2.1)⟩, rfl⟩
 refine vr 4 ?_;refine Lo 1 sg38 rfl hx5 ?_;refine Lo 0 sg38 rfl hy5 ?_;refine zE ((zW cl47 rfl (fun m' hm he => same29 (hqS.1.mono (hl3.trans hm)) (hrS.1.mono (hl3.trans hm)) hb2' hb4') rfl ?_)) rfl;rintro _ _ ⟨⟨rfl, k5⟩ | ⟨rfl, hq⟩, rfl⟩
 rotate_left
 ·refine vr 13 ?_;exact rt2 hl2 ⟨rfl, trivial⟩ ⟨.inr ⟨rfl, hno (fun h => hq h.2.2.2.2.2)⟩, rfl⟩
 refine vr 10 ?_;refine Pa 2 ?_;exact j0 hl3 (QR (i + 1) (Pick.nil _) ⟨hlt, hnx ⟨k0, k1, k2, k3, k4, k5⟩⟩ (by omega))
end
section
open Kd
theorem counts30 {m : Mp} (op : Int) : CS Tryz.prog 118 [.int .i8 op] m [] (Gives (.bool (countsB op))) := by
 refine zl [.tmp 2] Tryz.func118 rfl rfl rfl ?_;by_cases h0 : op = 0
 ·refine tr 15 ?_;refine cta 15 ?_
  (exact rt1 ⟨rfl, trivial⟩ ⟨congrArg Value.bool (by simp [countsB, *]), rfl⟩)
 by_cases h1 : op = 1
 ·refine tr 15 ?_;refine cfa 6 ?_;refine cta 15 ?_
  (exact rt1 ⟨rfl, trivial⟩ ⟨congrArg Value.bool (by simp [countsB, *]), rfl⟩)
 by_cases h2 : op = 2
 ·refine tr 15 ?_;refine cfa 6 ?_;refine cfa 6 ?_;refine cta 15 ?_
  (exact rt1 ⟨rfl, trivial⟩ ⟨congrArg Value.bool (by simp [countsB, *]), rfl⟩)
 by_cases h3 : op = 3
 ·refine tr 15 ?_;refine cfa 6 ?_;refine cfa 6 ?_;refine cfa 6 ?_;refine cta 15 ?_
  (exact rt1 ⟨rfl, trivial⟩ ⟨congrArg Value.bool (by simp [countsB, *]), rfl⟩)
 by_cases h5 : op = 5
 ·refine tr 15 ?_;refine cfa 6 ?_;refine cfa 6 ?_;refine cfa 6 ?_;refine cfa 5 ?_;refine cta 12 ?_
  (exact rt1 ⟨rfl, trivial⟩ ⟨congrArg Value.bool (by simp [countsB, *]), rfl⟩)
 ·refine tr 15 ?_;refine cfa 6 ?_;refine cfa 6 ?_;refine cfa 6 ?_;refine cfa 5 ?_;refine cfa 13 ?_
  (exact rt1 ⟨rfl, trivial⟩ ⟨congrArg Value.bool (by simp [countsB, *]), rfl⟩)
theorem counts24 {m : Mp} (op : Int) : CS Tryz.prog 105 [.int .i8 op] m [] (Gives (.bool (countsB op))) := by
 refine zl [.tmp 2] Tryz.func105 rfl rfl rfl ?_;by_cases h0 : op = 0
 ·refine tr 8 ?_;refine cta 20 ?_
  (exact rt1 ⟨rfl, trivial⟩ ⟨congrArg Value.bool (by simp [countsB, *]), rfl⟩)
 by_cases h1 : op = 1
 ·refine tr 8 ?_;refine cfa 2 ?_;refine cta 17 ?_
  (exact rt1 ⟨rfl, trivial⟩ ⟨congrArg Value.bool (by simp [countsB, *]), rfl⟩)
 by_cases h2 : op = 2
 ·refine tr 8 ?_;refine cfa 2 ?_;refine cfa 3 ?_;refine cta 13 ?_
  (exact rt1 ⟨rfl, trivial⟩ ⟨congrArg Value.bool (by simp [countsB, *]), rfl⟩)
 by_cases h3 : op = 3
 ·refine tr 8 ?_;refine cfa 2 ?_;refine cfa 3 ?_;refine cfa 3 ?_;refine cta 9 ?_
  (exact rt1 ⟨rfl, trivial⟩ ⟨congrArg Value.bool (by simp [countsB, *]), rfl⟩)
 by_cases h5 : op = 5
 ·refine tr 8 ?_;refine cfa 2 ?_;refine cfa 3 ?_;refine cfa 3 ?_;refine cfa 3 ?_;refine cta 5 ?_
  (exact rt1 ⟨rfl, trivial⟩ ⟨congrArg Value.bool (by simp [countsB, *]), rfl⟩)
 ·refine tr 8 ?_;refine cfa 2 ?_;refine cfa 3 ?_;refine cfa 3 ?_;refine cfa 3 ?_;refine cfa 5 ?_
  (exact rt1 ⟨rfl, trivial⟩ ⟨congrArg Value.bool (by simp [countsB, *]), rfl⟩)
theorem side32 {m : Mp} (w : Int) : CS Tryz.prog 120 [.int .i8 w] m [] (Gives (.bool (sideB w))) := by
 refine zl [.tmp 2] Tryz.func120 rfl rfl rfl ?_;by_cases h0 : w = 0
 ·refine tr 8 ?_;refine cta 8 ?_
  (exact rt1 ⟨rfl, trivial⟩ ⟨congrArg Value.bool (by simp [sideB, *]), rfl⟩)
 by_cases h1 : w = 1
 ·refine tr 8 ?_;refine cfa 2 ?_;refine cta 5 ?_
  (exact rt1 ⟨rfl, trivial⟩ ⟨congrArg Value.bool (by simp [sideB, *]), rfl⟩)
 ·refine tr 8 ?_;refine cfa 2 ?_;refine cfa 5 ?_
  (exact rt1 ⟨rfl, trivial⟩ ⟨congrArg Value.bool (by simp [sideB, *]), rfl⟩)
end
namespace Kd
open Go Go.Eng
def numHead (t : Bool) (op n who : Int) (k : Nat) : Bool :=
 if op = 0 then decide (0 ≤ n) && decide (n ≤ 999) && decide (who = 0) && decide (k = 0)
 else if op = 1 ∨ op = 2 ∨ op = 3 ∨ op = 4 then decide (n = 0) && sideB who && decide (k = 0)
 else if op = 5 ∨ op = 6 then decide (n = 0) && decide (who = 0) && decide (k = 0)
 else if op = 7 then decide (n = 0) && (decide (who = 0) && t) && decide (k = 0)
 else if op = 8 ∨ op = 9 ∨ op = 10 ∨ op = 11 ∨ op = 12 then decide (n = 0) && decide (who = 0) && decide (k = 2)
 else false
inductive NumOk (t : Bool) : NumT → Prop
 | mk {op n who : Int} {kids : List NumT} (hh : numHead t op n who kids.length = true) (hk : ∀ (i : Nat) (h : i < kids.length), NumOk t kids[i]) : NumOk t (.mk op n who kids)
abbrev Us := List UInt8 → Option Bool
def condHead (u : Us) (op who : Int) (name : List UInt8) (a b : Nat) : Bool :=
 if op = 0 ∨ op = 1 ∨ op = 2 then (decide (who = 0) && decide (name = [])) && decide (a = 2) && decide (b = 0)
 else if op = 3 then (decide (who = 0) && decide (name = [])) && decide (a = 0) && decide (b = 1)
 else if op = 4 ∨ op = 5 then (decide (who = 0) && decide (name = [])) && decide (a = 0) && decide (b = 2)
 else if op = 6 then ((u name).isSome && sideB who) && decide (a = 0) && decide (b = 0)
 else false
inductive CondOk (u : Us) (t : Bool) : CondT → Prop
 | mk {op who : Int} {name : List UInt8} {nums : List NumT} {kids : List CondT} (hh : condHead u op who name nums.length kids.length = true) (hn : ∀ (i : Nat) (h : i < nums.length), NumOk t nums[i]) (hk : ∀ (i : Nat) (h : i < kids.length), CondOk u t kids[i]) : CondOk u t (.mk op who name nums kids)
def wsum (a b c d : Nat) : Int := IntKind.i64.wrap (IntKind.i64.wrap (IntKind.i64.wrap ((a : Int) + b) + c) + d)
def zeroP : EffT → Bool
 | .mk op _ (.mk nop nn nwho nk) name (.mk cop cwho cname cns ck) t e =>
   (countsB op || (decide (nop = 0) && decide (nn = 0) && decide (nwho = 0) && decide (nk.length = 0))) && (decide (op = 7) || decide (name = [])) &&
   (decide (op = 8) || (decide (cop = 0) && decide (cwho = 0) && decide (cname = []) && decide (wsum cns.length ck.length t.length e.length = 0)))
def whoHead (u : Us) (t : Bool) (op who : Int) (name : List UInt8) : Bool :=
 if op = 0 ∨ op = 1 then sideB who || (decide (who = 2) && t)
 else if op = 2 ∨ op = 4 ∨ op = 6 then sideB who
 else if op = 3 ∨ op = 5 then decide (who = 0)
 else if op = 7 then decide (who = 0) && (u name).getD false
 else if op = 8 then decide (who = 0)
 else false
inductive EffOk (u : Us) (t : Bool) : Nat → EffT → Prop
 | mk {d : Nat} {op who : Int} {n : NumT} {name : List UInt8} {c : CondT} {a b : List EffT} (hz : zeroP (.mk op who n name c a b) = true) (hn : countsB op = true → NumOk t n) (hw : whoHead u t op who name = true)
   (hc : op = 8 → CondOk u t c) (ha : op = 8 → a.length ≤ 16 ∧ d + 1 ≤ 8) (hak : op = 8 → ∀ (i : Nat) (h : i < a.length), EffOk u t (d + 1) a[i])
   (hb : op = 8 → b.length ≤ 16) (hbk : op = 8 → ∀ (i : Nat) (h : i < b.length), EffOk u t (d + 1) b[i]) : EffOk u t d (.mk op who n name c a b)
def ListOk (u : Us) (t : Bool) (d : Nat) (l : List EffT) : Prop := l.length ≤ 16 ∧ d ≤ 8 ∧ ∀ (i : Nat) (h : i < l.length), EffOk u t d l[i]
end Kd
namespace Kd
open Go Go.Eng
def esU (l : List (List UInt8 × Bool)) : List (List UInt8 × Value) := l.map fun p => (p.1, .bool p.2)
def uOf (l : List (List UInt8 × Bool)) : Us := fun s => (l.find? fun p => decide (s = p.1)).map (·.2)
theorem u7 {s : List UInt8} : ∀ (l : List (List UInt8 × Bool)) (i : Nat), (findM s i (esU l)).map (·.2) = (uOf l s).map .bool
 | [], _ => rfl
 | (k, b) :: r, i => by
   show (if s = k then some (i, Value.bool b) else findM s (i + 1) (esU r)).map (·.2) = _;unfold uOf;by_cases h : s = k
   ·rw [if_pos h, List.find?_cons_of_pos (by simpa using h)]
    rfl
   ·rw [if_neg h, List.find?_cons_of_neg (by simpa using h)];exact u7 r (i + 1)
theorem jI {s : List UInt8} {l : List (List UInt8 × Bool)} : getM (esU l) s = (uOf l s).map .bool := u7 l 0
theorem Xr {s : List UInt8} {l : List (List UInt8 × Bool)} {b : Bool} (h : uOf l s = none) : putM (esU l) s (.bool b) = esU (l ++ [(s, b)]) := by
 have h2 : findM s 0 (esU l) = none := by
  have := u7 (s := s) l 0;rw [h] at this
  simpa using this
 unfold putM;rw [h2]
 simp [esU]
theorem Xe {s x : List UInt8} {b : Bool} {l : List (List UInt8 × Bool)} : uOf (l ++ [(x, b)]) s = match uOf l s with | some v => some v | none => if s = x then some b else none := by
 unfold uOf;rw [List.find?_append];cases h : l.find? (fun p => decide (s = p.1)) with
 | some v => simp
 | none =>
   simp only [Option.none_or, Option.map_none];by_cases hs : s = x <;> simp [hs]
end Kd
section
open Kd
theorem num31 {m0 : Mp} {cs : List Value} {x : NumT} (hx : NumR m0 cs x) : ∀ m, Le m0 m → ∀ (a : Addr) (b : Nat) (t : Bool), At m a cs → mc m ⟨b, 1, none⟩ = some (.bool t) →
  CS Tryz.prog 119 [.pointer (some ⟨b, 0, none⟩), .pointer (some a)] m [] (fun v L' => L' = [] ∧ ∃ r, v = .bool r ∧ (r = true ↔ NumOk t x)) := by
 induction hx with
 | @mk op n who kids A len c vs ho hln hmx hr hv hkk ih =>
 subst hln;intro m hm a b t hat hck;refine zl [.tmp 4] Tryz.func119 rfl rfl rfl ?_;refine tr 11 ?_;refine TS_cut2 (α := Unit) (fun _ => [(0, .pointer (some ⟨b, 0, none⟩)), (1, .pointer (some a)), (5, .int .i64 0), (6, .bool (decide (n = 0))), (7, .bool (decide (who = 0)))]) (fun _ => []) (fun _ => True) ?_ ?_
 ·by_cases hn : n = 0
  ·rw [decide_eq_true hn];by_cases hw : who = 0
   ·rw [decide_eq_true hw];refine tr 4 ?_;refine Lo 0 sg3 rfl (hat.at_ rfl) ?_;refine cta 7 ?_;refine Lo 0 sg82 rfl (hat.at_ rfl) ?_;refine cta 2 ?_;exact QR () (Pick.refl _) trivial (by decide)
   ·rw [decide_eq_false hw];refine tr 4 ?_;refine Lo 0 sg3 rfl (hat.at_ rfl) ?_;refine cta 7 ?_;refine Lo 0 sg82 rfl (hat.at_ rfl) ?_;refine cfa 2 ?_;exact QR () (Pick.refl _) trivial (by decide)
  ·rw [decide_eq_false hn];by_cases hw : who = 0
   ·rw [decide_eq_true hw];refine tr 4 ?_;refine Lo 0 sg3 rfl (hat.at_ rfl) ?_;refine cfa 7 ?_;refine Lo 0 sg82 rfl (hat.at_ rfl) ?_;refine cta 2 ?_;exact QR () (Pick.refl _) trivial (by decide)
   ·rw [decide_eq_false hw];refine tr 4 ?_;refine Lo 0 sg3 rfl (hat.at_ rfl) ?_;refine cfa 7 ?_;refine Lo 0 sg82 rfl (hat.at_ rfl) ?_;refine cfa 2 ?_;exact QR () (Pick.refl _) trivial (by decide)
 rintro ⟨⟩ -;refine tr 2 ?_;refine vA (α := Nat × Bool × Bool) (fun y => [(0, .pointer (some ⟨b, 0, none⟩)), (1, .pointer (some a)), (5, .int .i64 (y.1 : Nat)), (6, .bool y.2.1), (7, .bool y.2.2)]) (fun _ => []) (fun y => y.1 ≤ 2 ∧ numHead t op n who kids.length = (y.2.1 && y.2.2 && decide (kids.length = y.1))) ?_ ?_
 ·generalize hp : decide (n = 0) = p0;generalize ho' : decide (who = 0) = o0;by_cases e0 : op = 0
  ·by_cases h1 : n ≥ 0
   ·by_cases h2 : n ≤ 999
    ·refine tr 4 ?_;refine Lo 5 sg82 rfl (hat.at_ rfl) ?_;refine cta 8 ?_;refine Lo 0 sg3 rfl (hat.at_ rfl) ?_;refine cta 4 ?_;refine Lo 0 sg3 rfl (hat.at_ rfl) ?_;refine cta 4 ?_;exact QR (0, true, o0) (Pick.refl _) ⟨by dsimp only; omega, by simp [numHead, *]⟩ (by decide)
    ·refine tr 4 ?_;refine Lo 5 sg82 rfl (hat.at_ rfl) ?_;refine cta 8 ?_;refine Lo 0 sg3 rfl (hat.at_ rfl) ?_;refine cta 4 ?_;refine Lo 0 sg3 rfl (hat.at_ rfl) ?_;refine cfa 4 ?_;exact QR (0, false, o0) (Pick.refl _) ⟨by dsimp only; omega, by simp [numHead, *]⟩ (by decide)
   ·refine tr 4 ?_;refine Lo 5 sg82 rfl (hat.at_ rfl) ?_;refine cta 8 ?_;refine Lo 0 sg3 rfl (hat.at_ rfl) ?_;refine cfa 10 ?_;exact QR (0, false, o0) (Pick.refl _) ⟨by dsimp only; omega, by simp [numHead, *]⟩ (by decide)
  by_cases e1 : op = 1
  ·refine tr 4 ?_;refine Lo 5 sg82 rfl (hat.at_ rfl) ?_;refine cfa 7 ?_;refine cta 11 ?_;refine Lo 0 sg82 rfl (hat.at_ rfl) ?_;refine Cr cl120 rfl (fun m' hm he => (side32 who)) ?_;rintro _ rfl;refine vr 3 ?_;exact QR (0, p0, sideB who) (Pick.refl _) ⟨by dsimp only; omega, by simp [numHead, *]⟩ (by decide)
  by_cases e2 : op = 2
  ·refine tr 4 ?_;refine Lo 5 sg82 rfl (hat.at_ rfl) ?_;refine cfa 7 ?_;refine cfa 6 ?_;refine cta 11 ?_;refine Lo 0 sg82 rfl (hat.at_ rfl) ?_;refine Cr cl120 rfl (fun m' hm he => (side32 who)) ?_;rintro _ rfl;refine vr 3 ?_;exact QR (0, p0, sideB who) (Pick.refl _) ⟨by dsimp only; omega, by simp [numHead, *]⟩ (by decide)
  by_cases e3 : op = 3
  ·refine tr 4 ?_;refine Lo 5 sg82 rfl (hat.at_ rfl) ?_;refine cfa 7 ?_;refine cfa 6 ?_;refine cfa 6 ?_;refine cta 11 ?_;refine Lo 0 sg82 rfl (hat.at_ rfl) ?_;refine Cr cl120 rfl (fun m' hm he => (side32 who)) ?_;rintro _ rfl;refine vr 3 ?_;exact QR (0, p0, sideB who) (Pick.refl _) ⟨by dsimp only; omega, by simp [numHead, *]⟩ (by decide)
  by_cases e4 : op = 4
  ·refine tr 4 ?_;refine Lo 5 sg82 rfl (hat.at_ rfl) ?_;refine cfa 7 ?_;refine cfa 6 ?_;refine cfa 6 ?_;refine cfa 5 ?_;refine cta 8 ?_;refine Lo 0 sg82 rfl (hat.at_ rfl) ?_;refine Cr cl120 rfl (fun m' hm he => (side32 who)) ?_;rintro _ rfl;refine vr 3 ?_;exact QR (0, p0, sideB who) (Pick.refl _) ⟨by dsimp only; omega, by simp [numHead, *]⟩ (by decide)
  by_cases e5 : op = 5
  ·refine tr 4 ?_;refine Lo 5 sg82 rfl (hat.at_ rfl) ?_;refine cfa 7 ?_;refine cfa 6 ?_;refine cfa 6 ?_;refine cfa 5 ?_;refine cfa 7 ?_;refine cta 9 ?_;exact QR (0, p0, o0) (Pick.refl _) ⟨by dsimp only; omega, by simp [numHead, *]⟩ (by decide)
  by_cases e6 : op = 6
  ·refine tr 4 ?_;refine Lo 5 sg82 rfl (hat.at_ rfl) ?_;refine cfa 7 ?_;refine cfa 6 ?_;refine cfa 6 ?_;refine cfa 5 ?_;refine cfa 7 ?_;refine cfa 5 ?_;refine cta 6 ?_;exact QR (0, p0, o0) (Pick.refl _) ⟨by dsimp only; omega, by simp [numHead, *]⟩ (by decide)
  by_cases e7 : op = 7
  ·cases o0 with
   | true =>
     refine tr 4 ?_;refine Lo 5 sg82 rfl (hat.at_ rfl) ?_;refine cfa 7 ?_;refine cfa 6 ?_;refine cfa 6 ?_;refine cfa 5 ?_;refine cfa 7 ?_;refine cfa 5 ?_;refine cfa 6 ?_;refine cta 10 ?_;refine Lo 4 sg4 rfl hck ?_;exact QR (0, p0, t) (Pick.refl _) ⟨by dsimp only; omega, by simp [numHead, *]⟩ (by decide)
   | false =>
     refine tr 4 ?_;refine Lo 5 sg82 rfl (hat.at_ rfl) ?_;refine cfa 7 ?_;refine cfa 6 ?_;refine cfa 6 ?_;refine cfa 5 ?_;refine cfa 7 ?_;refine cfa 5 ?_;refine cfa 6 ?_;refine cta 15 ?_;exact QR (0, p0, false) (Pick.refl _) ⟨by dsimp only; omega, by simp [numHead, *]⟩ (by decide)
  by_cases e8 : op = 8
  ·refine tr 4 ?_;refine Lo 5 sg82 rfl (hat.at_ rfl) ?_;refine cfa 7 ?_;refine cfa 6 ?_;refine cfa 6 ?_;refine cfa 5 ?_;refine cfa 7 ?_;refine cfa 5 ?_;refine cfa 6 ?_;refine cfa 7 ?_;refine cta 11 ?_;exact QR (2, p0, o0) (Pick.refl _) ⟨by dsimp only; omega, by simp [numHead, *]⟩ (by decide)
  by_cases e9 : op = 9
  ·refine tr 4 ?_;refine Lo 5 sg82 rfl (hat.at_ rfl) ?_;refine cfa 7 ?_;refine cfa 6 ?_;refine cfa 6 ?_;refine cfa 5 ?_;refine cfa 7 ?_;refine cfa 5 ?_;refine cfa 6 ?_;refine cfa 7 ?_;refine cfa 6 ?_;refine cta 11 ?_;exact QR (2, p0, o0) (Pick.refl _) ⟨by dsimp only; omega, by simp [numHead, *]⟩ (by decide)
  by_cases e10 : op = 10
  ·refine tr 4 ?_;refine Lo 5 sg82 rfl (hat.at_ rfl) ?_;refine cfa 7 ?_;refine cfa 6 ?_;refine cfa 6 ?_;refine cfa 5 ?_;refine cfa 7 ?_;refine cfa 5 ?_;refine cfa 6 ?_;refine cfa 7 ?_;refine cfa 6 ?_;refine cfa 6 ?_;refine cta 11 ?_;exact QR (2, p0, o0) (Pick.refl _) ⟨by dsimp only; omega, by simp [numHead, *]⟩ (by decide)
  by_cases e11 : op = 11
  ·refine tr 4 ?_;refine Lo 5 sg82 rfl (hat.at_ rfl) ?_;refine cfa 7 ?_;refine cfa 6 ?_;refine cfa 6 ?_;refine cfa 5 ?_;refine cfa 7 ?_;refine cfa 5 ?_;refine cfa 6 ?_;refine cfa 7 ?_;refine cfa 6 ?_;refine cfa 6 ?_;refine cfa 6 ?_;refine cta 11 ?_;exact QR (2, p0, o0) (Pick.refl _) ⟨by dsimp only; omega, by simp [numHead, *]⟩ (by decide)
  by_cases e12 : op = 12
  ·refine tr 4 ?_;refine Lo 5 sg82 rfl (hat.at_ rfl) ?_;refine cfa 7 ?_;refine cfa 6 ?_;refine cfa 6 ?_;refine cfa 5 ?_;refine cfa 7 ?_;refine cfa 5 ?_;refine cfa 6 ?_;refine cfa 7 ?_;refine cfa 6 ?_;refine cfa 6 ?_;refine cfa 6 ?_;refine cfa 5 ?_;refine cta 8 ?_;exact QR (2, p0, o0) (Pick.refl _) ⟨by dsimp only; omega, by simp [numHead, *]⟩ (by decide)
  refine tr 4 ?_;refine Lo 5 sg82 rfl (hat.at_ rfl) ?_;refine cfa 7 ?_;refine cfa 6 ?_;refine cfa 6 ?_;refine cfa 5 ?_;refine cfa 7 ?_;refine cfa 5 ?_;refine cfa 6 ?_;refine cfa 7 ?_;refine cfa 6 ?_;refine cfa 6 ?_;refine cfa 6 ?_;refine cfa 5 ?_;refine cfa 11 ?_;refine zI ?_
  exact rt1 ⟨rfl, trivial⟩ ⟨rfl, false, rfl, fun h => (by cases h), fun h => by cases h with | mk hh _ => simp [numHead, *] at hh⟩
 rintro ⟨k, p, o⟩ ⟨hk2, hh⟩;dsimp only at hh hk2 ⊢;by_cases hg : numHead t op n who kids.length = true
 ·rw [hg] at hh;have hh2 := hh.symm;simp only [Bool.and_eq_true, decide_eq_true_eq] at hh2;obtain ⟨⟨rfl, rfl⟩, hkl⟩ := hh2;refine tr 13 ?_;refine Lo 2 sg83 rfl (hat.at_ rfl) ?_;refine cfo 12 ?_;refine Lo 5 sg83 rfl (hat.at_ rfl) ?_
  refine zZ (α := Nat) (fun i => [(0, .pointer (some ⟨b, 0, none⟩)), (1, .pointer (some a)), (84, .int .i64 (kids.length : Nat)), (85, .int .i64 (i : Nat))]) (fun _ => []) (fun i => i ≤ kids.length ∧ ∀ (j : Nat) (h : j < kids.length), j < i → NumOk t kids[j]) (fun i => kids.length - i) 0 ⟨rfl, rfl, rfl, rfl, trivial⟩ (Pick.refl _) ⟨Nat.zero_le _, fun _ _ h => by cases h⟩ ?_
  rintro i ⟨hi, hdone⟩
  try dsimp only at hi hdone
  try dsimp only
  by_cases hlt : i < kids.length
  ·have hA : A.isSome = true := hr.isSome (by omega);have hc := fun m1 (hm1 : Le m m1) => ih i hlt m1 (hm.trans hm1) ((sa A).add (i * 4)) b t (((hr.elem (i * 4) 4).mono hm).mono hm1) (xW hm1 hck);refine tr 2 ?_;refine cto 20 ?_;refine Lo 1 sg83 rfl (hat.at_ rfl) ?_;refine pe 0 (zC ez83 rfl rfl hA (by omega)) ?_
   refine zE ((zW cl119 rfl (fun m1 hm1 he => hc m1 hm1) rfl ?_)) rfl;rintro _ _ ⟨rfl, r, rfl, hrr⟩;cases r with
   | true =>
     refine vr 8 ?_;refine Pa 2 ?_
     exact QR (i + 1) (Pick.refl _) ⟨hlt, fun j h h2 => by
      by_cases hji : j < i
      ·exact hdone j h hji
      ·obtain rfl : j = i := by omega
       exact hrr.1 rfl⟩ (by omega)
   | false =>
     refine vr 12 ?_;refine zI ?_;refine zH ?_;refine zL ?_;exact rt1 ⟨rfl, trivial⟩ ⟨rfl, false, rfl, fun h => (by cases h), fun h => by cases h with | mk _ hk => exact absurd (hrr.2 (hk i hlt)) (by decide)⟩
  ·refine tr 2 ?_;refine cfo 6 ?_;refine zG ?_;refine zF ?_;refine qt 7 ?_;exact rt1 ⟨rfl, trivial⟩ ⟨rfl, true, rfl, fun _ => .mk hg fun j h => hdone j h (by omega), fun _ => rfl⟩
 ·have hg' := Bool.eq_false_iff.2 hg;rw [hg'] at hh;cases p with
  | false =>
    refine tr 28 ?_;exact rt1 ⟨rfl, trivial⟩ ⟨rfl, false, rfl, fun h => (by cases h), fun h => by cases h with | mk hh _ => exact absurd hh hg⟩
  | true =>
    cases o with
    | false =>
      refine tr 28 ?_;exact rt1 ⟨rfl, trivial⟩ ⟨rfl, false, rfl, fun h => (by cases h), fun h => by cases h with | mk hh _ => exact absurd hh hg⟩
    | true =>
      have hkl : ¬ kids.length = k := fun e => by rw [e] at hh; simp at hh
      have hkl2 : ¬ ((kids.length : Nat) : Int) = (k : Nat) := by omega
      refine tr 13 ?_;refine Lo 2 sg83 rfl (hat.at_ rfl) ?_;refine cta 11 ?_;exact rt1 ⟨rfl, trivial⟩ ⟨rfl, false, rfl, fun h => (by cases h), fun h => by cases h with | mk hh _ => exact absurd hh hg⟩
end
end Go.Proofs.YtgohljjedlpccaaGreatDoor
