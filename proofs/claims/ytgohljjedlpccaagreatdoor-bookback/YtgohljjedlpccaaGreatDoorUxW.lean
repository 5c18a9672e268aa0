/- Parts of the proof: contracts of functions of the program, and plain lemmas. No condition. -/
import Derived.Test.YtgohljjedlpccaaGreatDoorUrK
import Derived.Test.YtgohljjedlpccaaGreatDoorFacts
import Derived.Lib.Join
import Derived.Test.YtgohljjedlpccaaGreatDoorEng2
set_option maxHeartbeats 64000000
set_option maxRecDepth 100000
namespace Go.Proofs.YtgohljjedlpccaaGreatDoor
open Go.Eng
section
open Wd Tp Kd
variable {m : Mp} {b d p : Nat}
theorem Ez (hT : qB m) (hU : xU m) {op who nop nn nwho : Int} {nA : Oa} {nl nc : Nat} {name : Bt} {cop cwho : Int} {cname : Bt} {cA : Oa} {cla cca : Nat} {cB : Oa} {clb ccb : Nat} {TA : Oa} {la ca : Nat} {EB : Oa} {lb cb : Nat} {n : zY} {cond : zI} {thn els : List zW} (hn : xr m (n4 nop nn nwho nA nl nc) n) (hc : yP m (c5 cop cwho cname cA cla cca cB clb ccb) cond) (hcs : uv cond) (hnm : name.length <= 140737488355328) (hla : thn.length = la) (hlb : els.length = lb) (hla2 : la <= 140737488355328) (hlb2 : lb <= 140737488355328) (hbt : vx m b TA la ca thn) (hbe : vx m b EB lb cb els) : fJ m b (Vq op who nop nn nwho nA nl nc name cop cwho cname cA cla cca cB clb ccb TA la ca EB lb cb) (.mk op who n name cond thn els) := by
 by_cases h0 : op = 0
 ·exact Gx hT hU hn hc hcs hnm hla hlb hla2 hlb2 hbt hbe h0
 by_cases h1 : op = 1
 ·exact Gv hT hU hn hc hcs hnm hla hlb hla2 hlb2 hbt hbe h1
 by_cases h2 : op = 2
 ·exact GB hT hU hn hc hcs hnm hla hlb hla2 hlb2 hbt hbe h2
 by_cases h3 : op = 3
 ·exact Gy hT hU hn hc hcs hnm hla hlb hla2 hlb2 hbt hbe h3
 by_cases h5 : op = 5
 ·exact Gw hT hU hn hc hcs hnm hla hlb hla2 hlb2 hbt hbe h5
 by_cases h4 : op = 4
 ·exact GA hT hU hn hc hcs hnm hla hlb hla2 hlb2 hbt hbe h4
 by_cases h6 : op = 6
 ·exact Gu hT hU hn hc hcs hnm hla hlb hla2 hlb2 hbt hbe h6
 by_cases h7 : op = 7
 ·exact U7 hT hU hn hc hcs hnm hla hlb hla2 hlb2 hbt hbe h7
 by_cases h8 : op = 8
 ·exact MY hT hU hn hc hcs hnm hla hlb hla2 hlb2 hbt hbe h8
 ·exact Gz hT hU hn hc hcs hnm hla hlb hla2 hlb2 hbt hbe za
theorem KM (a c : List zW) (d : Nat) : vi (a ++ c) d = (vi a d).bind fun s => (vi c d).map fun t => s ++ t := by
 induction a with
 | nil => rw [ci]; simp
 | cons x r ih =>
   rw [List.cons_append, kH, kH, ih];cases vG x d with
   | none => rfl
   | some u =>
     cases vi r d with
     | none => rfl
     | some v =>
       cases vi c d with
       | none => rfl
       | some w => simp
theorem Li (a c : List zW) : yM (a ++ c) = yM a + yM c := by simp [yM]
variable {i : Nat} {l : List zW}
theorem LA (h : i < l.length) : vi (l.take (i + 1)) d = (vi (l.take i) d).bind fun s => (vG l[i] d).map fun t => s ++ (vy ++ t) := by
 rw [List.take_add_one, List.getElem?_eq_getElem h, Option.toList_some, KM, kH, ci];cases vi (l.take i) d with
 | none => rfl
 | some s => cases vG l[i] d <;> simp
theorem GZ (h : i < l.length) : yM (l.take (i + 1)) = yM (l.take i) + vA l[i] := Mx vA h
theorem LB (h : vi (l.take i) d = none) : vi l d = none := by
 conv => lhs; rw [<- List.take_append_drop i l, KM, h]
 rfl
theorem WU (l : List zW) (i : Nat) : yM (l.take i) <= yM l := by
 conv => rhs; rw [<- List.take_append_drop i l, Li]
 omega
structure Bb where
 i : Nat
 p : Nat
 A : Oa
 c : Nat
 l : Bt
 q : Value
theorem Ia {A : Oa} {cap : Nat} (hl : xV m A l.length l) (hlen : l.length <= 140737488355328) (ih : ∀ (i : Nat) (h : i < l.length) cs, un m cs l[i] -> fJ m b cs l[i]) : vx m b A l.length cap l := by
 intro m0 hm0 p d hp hd;obtain ⟨-, -, vs, hrd, hvl, hel⟩ := hl;have hrd := hrd.mono hm0;refine ym [.tmp 4] Tryz.func62 rfl rfl rfl ?_;refine tr 7 ?_;refine Al 4 SQ fun b1 => ?_;refine jS 5 1 ?_;refine tr 7 ?_
 refine yv (α := Bb) (fun y => [(0, zS b), (5, zS b1), (8, .slice A l.length cap), (9, .int .i64 (l.length : Nat)), (10, .int .i64 (y.i : Nat))]) (fun y => Lu b1 y.q y.A y.c y.l ++ [pr b y.p d])
  (fun y => y.i <= l.length /\ PB b1 y.q /\ Gf y.A y.l /\ vi (l.take y.i) d = some y.l /\ y.p = p + yM (l.take y.i) /\ y.p <= 200) (fun y => l.length - y.i) ⟨0, p, none, 0, [], .pointer none⟩ vX (.cons .h1 .pp)
  ⟨Nat.zero_le _, .inl rfl, Gf.nil, by rw [List.take_zero, ci], by simp [yM], hp⟩ ?_
 rintro ⟨i, p1, A1, c1, l1, q1⟩ ⟨hi, hq, hB, hs, hpe, hp1⟩;dsimp only at hi hq hB hs hpe hp1;dsimp only;have hls := wy hs;have hwp := WU l i;by_cases hlt : i < l.length
 ·have hA : A.isSome = true := hrd.isSome za;have hat := hrd.elem (i * 14) 14;have hx := hel i hlt;have hok := ih i hlt _ hx;have hok := hok.mono hm0;have htk := LA (d := d) hlt;have hwk := GZ hlt;have hwp2 := WU l (i + 1);have hst : vG l[i] d = none -> vi l d = none := fun h => LB (i := i + 1) (by rw [htk, hs, h]; rfl)
  have hnx : ∀ s, vG l[i] d = some s -> vi (l.take (i + 1)) d = some (l1 ++ ([32] ++ s)) := fun s h => by rw [htk, hs, h]; rfl
  have hsz : ∀ s, vG l[i] d = some s -> s.length + 1 <= 100 * vA l[i] := fun s h => Uq h;clear htk;obtain ⟨op, who, nop, nn, nwho, nA, nl, nc, name, cop, cwho, cname, cA, cla, cca, cB, clb, ccb, TA, la, ca, EB, lb, cb, e⟩ := un.form hx;rw [e] at hat hok;clear hx e;refine tr 2 ?_;refine y4 10 ?_;refine pe 0 (zo VJ rfl rfl hA za) ?_;refine La 0 wF hat ?_
  refine Al 0 qn fun b2 => ?_;refine Sg 4 wF .here ?_;refine Lc 0 wF .here ?_;refine Cp Dg rfl .k3 (fun m' hm he => hok m' hm p1 d hp1 hd) ?_ ?_
  ·rintro _ _ ⟨h1, rfl⟩;refine yk ?_;refine zC ?_;exact pn ⟨h1.imp hst (fun h => by omega), rfl⟩
  rintro _ _ ⟨s, h1, h2, rfl, rfl⟩;have hsz := hsz s h1;have hnx := hnx s h1;refine Ps 0 ?_;refine zg ((xC aa rfl (.cons .h2 .k2) (fun m' hm he => vu (s := [32] ++ s) hq hB km) rfl ?_)) rfl;rintro _ _ ⟨A2, c2, hB2, rfl, rfl⟩;refine vr 4 ?_;refine Pa 2 ?_
  exact QR (⟨i + 1, p1 + vA l[i], A2, c2, l1 ++ ([32] ++ s), zS b1⟩ : Bb) (.cons .here .pp) ⟨hlt, .inr rfl, hB2, hnx, by dsimp only; omega, h2⟩ yV
 ·have hi2 : i = l.length := by omega
  subst hi2;rw [List.take_length] at hs hpe;subst hpe;refine tr 2 ?_;refine zH 6 ?_;refine zm ?_;refine zk ?_;refine qt 3 ?_;refine zg ((xC KB rfl (.cons .here .k0) (fun m' hm he => gi hB za) rfl ?_)) rfl;rintro _ _ ⟨rfl, rfl⟩;refine vr 4 ?_;exact yp [_] zj [_] .p0 ⟨l1, hs, hp1, rfl, rfl⟩
def BW (l : List zW) : Prop := Vo l -> ∀ (m : Mp), qB m -> xU m -> ∀ (b : Nat) (A : Oa) (cap : Nat), xV m A l.length l -> l.length <= 140737488355328 -> vx m b A l.length cap l
theorem LE (ih : ∀ (i : Nat) (h : i < l.length) (op who : Int) (n : zY) (name : Bt) (c : zI) (a e : List zW), l[i] = .mk op who n name c a e -> BW a /\ BW e) : BW l := fun hsm m hT hU b A cap hl hlen =>
 Ia hl hlen fun i h cs hx => by
  have hs := hsm _ (List.getElem_mem h);have hi := ih i h;generalize l[i] = x at hx hs hi;obtain ⟨op, who, nop, nn, nwho, nA, nlen, nc, name, cop, cwho, cname, cA, cla, cca, cB, clb, ccb, TA, la, ca, EB, lb, cb, n, cond, thn, els, rfl, rfl, -, hn, hc, hthn, hels⟩ := un.parts hx;cases hs with
  | mk h1 h2 h3 h4 h5 h6 =>
    have e1 := hthn.1;have e2 := hels.1;subst e1 e2;obtain ⟨i1, i2⟩ := hi _ _ _ _ _ _ _ rfl;exact Ez hT hU hn hc h2 h1 rfl rfl h3 h4 (i1 h5 m hT hU b TA ca hthn h3) (i2 h6 m hT hU b EB cb hels h4)
theorem KO (l : List zW) : BW l := LE fun i h op who n name c a e he => ⟨KO a, KO e⟩
termination_by SizeOf.sizeOf l
decreasing_by
 all_goals
  have h1 := List.sizeOf_lt_of_mem (List.getElem_mem h);rw [he] at h1;simp only [zW.mk.sizeOf_spec] at h1;omega
end
namespace Tp
open Go Go.Eng Wd Kd
def yN (n : Int) : Bool := decide (0 <= n /\ n <= 999)
def uU (w : Bt) (l : List zW) : Option Bt := if l.length = 0 then some [] else (vi l 0).map fun s => vy ++ w ++ [32, 123] ++ s ++ [32, 125, 10]
def fu (c : zP) : Bt := if c.unit = true then vy ++ V7 ++ vy ++ qO c.cost ++ vy ++ qO c.power ++ jZ ++ qO c.health ++ [32, 123, 10] else vy ++ dI ++ vy ++ qO c.cost ++ [32, 123, 10]
def cl (c : zP) : Bt := if c.apow = 0 /\ c.aheal = 0 then [] else vy ++ j0 ++ vy ++ qO c.apow ++ jZ ++ qO c.aheal ++ [59, 10]
def jY (c : zP) : Bt := if c.shield = 0 then [] else vy ++ vm ++ vy ++ qO c.shield ++ [59, 10]
def ko (c : zP) : Bool := yN c.cost && yN c.power && yN c.health && yN c.shield && yN c.apow && yN c.aheal
def eN (c : zP) : Bool := c.unit || (decide (c.power = 0) && decide (c.health = 0))
def JE (c : zP) : Option Bt := (uU xu c.played).bind fun a => (uU uj c.dead).bind fun b => (uU uy c.dawn).map fun e => a ++ b ++ e
def um (c : zP) : Option Bt :=
 if yL c.name = true /\ eN c = true /\ ko c = true /\ yD c <= 200 then (JE c).map fun t => fa ++ vy ++ c.name ++ fu c ++ t ++ cl c ++ jY c ++ [125, 10] else none
def qY (w : Bt) (n : Int) : Bt := if n = 0 then [] else vy ++ w ++ vy ++ qO n ++ [59, 10]
def qx (w : Bt) (l : List Bt) : Bt := if l.length = 0 then [] else vy ++ w ++ vy ++ Lib.join l [44, 32] ++ [59, 10]
def fw (f : y6) : Option Bt :=
 if yL f.name = true /\ yN f.least = true /\ yN f.most = true /\ yN f.copies = true /\ f.banned.all yL = true /\ f.single.all yL = true then
  some (vY ++ vy ++ f.name ++ [32, 123, 10] ++ qY ud f.least ++ qY jG f.most ++ qY vn f.copies ++ qx wP f.banned ++ qx vK f.single ++ [125, 10]) else none
def jV : List (Option Bt) -> Option Bt
 | [] => some []
 | a :: r => a.bind fun s => (jV r).map fun t => s ++ t
def gF (b : ew) : Option Bt := if b.cards.length <= 240 /\ b.fmts.length <= 240 then jV (b.cards.map um ++ b.fmts.map fw) else none
def gZ (b : ew) : Bt × Int := match gF b with
 | none => ([], 2)
 | some s => if 65536 < s.length then ([], 3) else (s, 0)
theorem KH (a c : List (Option Bt)) : jV (a ++ c) = (jV a).bind fun s => (jV c).map fun t => s ++ t := by
 induction a with
 | nil => simp [jV]
 | cons x r ih =>
   rw [List.cons_append, jV, jV, ih];cases x with
   | none => rfl
   | some u =>
     cases jV r with
     | none => rfl
     | some v => cases jV c <;> simp
variable {i : Nat} {l : List (Option Bt)}
theorem Lq (h : i < l.length) : jV (l.take (i + 1)) = (jV (l.take i)).bind fun s => l[i].map fun t => s ++ t := by
 rw [List.take_add_one, List.getElem?_eq_getElem h, Option.toList_some, KH];cases jV (l.take i) with
 | none => rfl
 | some s => cases l[i] <;> simp [jV]
theorem Lr (h : jV (l.take i) = none) : jV l = none := by
 conv => lhs; rw [<- List.take_append_drop i l, KH, h]
 rfl
structure Jf (c : zP) : Prop where
 name : c.name.length <= 140737488355328
 lp : c.played.length <= 140737488355328
 ld : c.dead.length <= 140737488355328
 lw : c.dawn.length <= 140737488355328
 p : Vo c.played
 d : Vo c.dead
 w : Vo c.dawn
structure K7 (f : y6) : Prop where
 name : f.name.length <= 140737488355328
 lb : f.banned.length <= 1000000000
 ls : f.single.length <= 1000000000
 b : ∀ s ∈ f.banned, s.length <= 140737488355328
 s : ∀ s ∈ f.single, s.length <= 140737488355328
theorem yS (n : Int) : (qO n).length <= 3 := I7 _
theorem WK (c : zP) : (fu c).length <= 30 := by
 have h1 := yS c.cost;have h2 := yS c.power;have h3 := yS c.health;unfold fu
 split <;> simp only [List.length_append, List.length_cons, List.length_nil] <;> omega
theorem Ib (c : zP) : (cl c).length <= 20 := by
 have h1 := yS c.apow;have h2 := yS c.aheal;unfold cl
 split <;> simp only [List.length_append, List.length_cons, List.length_nil] <;> omega
theorem Gm (c : zP) : (jY c).length <= 20 := by
 have h1 := yS c.shield;unfold jY
 split <;> simp only [List.length_append, List.length_cons, List.length_nil] <;> omega
variable {s : Bt}
theorem qI {w : Bt} {l : List zW} (hw : w.length <= 10) (h : uU w l = some s) : s.length <= 100 * yM l + 20 := by
 unfold uU at h
 split at h
 ·cases h; exact Nat.zero_le _
 ·cases hb : vi l 0 with
  | none => rw [hb] at h; cases h
  | some t =>
    rw [hb] at h;cases h;have := wy hb;simp only [List.length_append, List.length_cons, List.length_nil];omega
variable {c : zP}
theorem fD (h : um c = some s) : yL c.name = true /\ eN c = true /\ ko c = true /\ yD c <= 200 /\ ∃ a b e, uU xu c.played = some a /\ uU uj c.dead = some b /\ uU uy c.dawn = some e /\ s = fa ++ vy ++ c.name ++ fu c ++ (a ++ b ++ e) ++ cl c ++ jY c ++ [125, 10] := by
 unfold um at h
 split at h
 ·rename_i h0
  refine ⟨h0.1, h0.2.1, h0.2.2.1, h0.2.2.2, ?_⟩;unfold JE at h;cases ha : uU xu c.played with
  | none => rw [ha] at h; cases h
  | some a =>
    rw [ha] at h;cases hb : uU uj c.dead with
    | none => rw [hb] at h; cases h
    | some b =>
      rw [hb] at h;cases he : uU uy c.dawn with
      | none => rw [he] at h; cases h
      | some e =>
        rw [he] at h;cases h;exact ⟨a, b, e, rfl, rfl, rfl, rfl⟩
 ·cases h
theorem G6 (h : um c = some s) : s.length <= 21000 := by
 obtain ⟨hn, -, -, hw, a, b, e, h1, h2, h3, rfl⟩ := fD h;have g1 := xG hn;have g2 := qI zb h1;have g3 := qI zb h2;have g4 := qI zb h3;have g5 := WK c;have g6 := Ib c;have g7 := Gm c;unfold yD at hw;simp only [List.length_append, List.length_cons, List.length_nil];omega
theorem eP {k : Nat} {sep : Bt} : ∀ {l : List Bt}, (∀ s ∈ l, s.length <= k) -> (Lib.join l sep).length <= l.length * (k + sep.length)
 | [], _ => Nat.zero_le _
 | [x], h => by rw [Lib.join_one]; have := h x (.head _); simp; omega
 | x :: y :: r, h => by
   have ih := eP (sep := sep) (l := y :: r) (fun s hs => h s (.tail _ hs))
   have e : Lib.join (x :: y :: r) sep = x ++ sep ++ Lib.join (y :: r) sep := by
    unfold Lib.join
    simp [List.intercalate]
   have hx := h x (.head _);rw [e];simp only [List.length_append, List.length_cons] at ih ⊢;rw [Nat.add_mul (r.length + 1) 1, Nat.one_mul];omega
variable {f : y6}
theorem H8 (hs : K7 f) (h : fw f = some s) : s.length <= 90000000000 := by
 unfold fw at h
 split at h
 ·rename_i h0
  obtain ⟨hn, h1, h2, h3, hb, hsn⟩ := h0;cases h;have g0 := xG hn
  have g1 : ∀ (w : Bt) (n : Int), w.length <= 10 -> (qY w n).length <= 20 := fun w n hw => by
   have := yS n;unfold qY
   split <;> simp only [List.length_append, List.length_cons, List.length_nil] <;> omega
  have g2 : ∀ (w : Bt) (l : List Bt), w.length <= 10 -> l.all yL = true -> l.length <= 1000000000 -> (qx w l).length <= 43000000000 := fun w l hw hb hn => by
   have h1 := eP (k := 40) (sep := [44, 32]) (l := l) (fun s hs => xG (List.all_eq_true.1 hb s hs));have h2 : l.length * (40 + [44, (32 : UInt8)].length) = l.length * 42 := rfl;unfold qx
   split <;> simp only [List.length_append, List.length_cons, List.length_nil] <;> omega
  have e1 := g1 ud f.least zb;have e2 := g1 jG f.most zb;have e3 := g1 vn f.copies zb;have e4 := g2 wP f.banned zb hb hs.lb;have e5 := g2 vK f.single zb hsn hs.ls;simp only [List.length_append, List.length_cons, List.length_nil];omega
 ·cases h
structure R2 (b : ew) : Prop where
 lc : b.cards.length <= 140737488355328
 lf : b.fmts.length <= 140737488355328
 c : ∀ x ∈ b.cards, Jf x
 f : ∀ x ∈ b.fmts, K7 x
def q8 (b : ew) : List (Option Bt) := b.cards.map um ++ b.fmts.map fw
theorem dE (b : ew) : (q8 b).length = b.cards.length + b.fmts.length := by simp [q8]
variable {b : ew}
theorem Js (h : i < b.cards.length) : (q8 b)[i]'(by rw [dE]; omega) = um b.cards[i] := by
 unfold q8;rw [List.getElem_append_left (by simpa using h), List.getElem_map]
theorem Gj (h : i < b.fmts.length) : (q8 b)[b.cards.length + i]'(by rw [dE]; omega) = fw b.fmts[i] := by
 unfold q8;rw [List.getElem_append_right yA, List.getElem_map]
 simp
theorem XZ {i : Nat} {T : Bt} (hi : i < (q8 b).length) (h : jV ((q8 b).take i) = some T) : ((q8 b)[i] = none -> jV (q8 b) = none) /\ ∀ s, (q8 b)[i] = some s -> jV ((q8 b).take (i + 1)) = some (T ++ s) := by
 have h1 := Lq hi;rw [h] at h1;refine ⟨fun hn => Lr (i := i + 1) (by rw [h1, hn]; rfl), fun s hs => by rw [h1, hs]; rfl⟩
theorem XM (h : ¬ (yL f.name = true /\ yN f.least = true /\ yN f.most = true /\ yN f.copies = true /\ f.banned.all yL = true /\ f.single.all yL = true)) : fw f = none := by unfold fw; rw [if_neg h]
end Tp
section
open Wd Tp Kd
variable {m : Mp} {b d p : Nat}
def IH : Option Bt -> Value
 | some s => .tuple [.string (bs s), .int .i64 0].toArray
 | none => .tuple [.string (bs []), .int .i64 2].toArray
theorem Ua {A : Oa} {c : Nat} {l : List Int} (hA : Rd m A (l.map fun n => .int .i64 n)) (hl : l.length <= 100) : CY 60 [.slice A l.length c] m (∀ x ∈ l, yN x = true) := by
 refine ym [] Tryz.func60 rfl rfl rfl ?_;refine tr 8 ?_;refine yv (α := Nat) (fun i => [(4, .slice A l.length c), (5, .int .i64 (l.length : Nat)), (6, .int .i64 (i : Nat))]) (fun _ => []) (fun i => i <= l.length /\ ∀ x ∈ l.take i, yN x = true) (fun i => l.length - i) 0 YV ya ⟨Nat.zero_le _, fun x hx => by simp at hx⟩ ?_;rintro i ⟨hi, hb⟩
 by_cases hlt : i < l.length
 ·have hA1 : A.isSome = true := hA.isSome (by rw [List.length_map]; omega);have hcx := hA.at_ (show (l.map fun n => Value.int .i64 n)[i]? = some (.int .i64 l[i]) by simp [hlt]);have hmem : l[i] ∈ l := List.getElem_mem hlt
  have hnx : yN l[i] = true -> ∀ x ∈ l.take (i + 1), yN x = true := fun h x hx => by
   rw [List.take_add_one, List.getElem?_eq_getElem hlt] at hx;rcases List.mem_append.1 hx with hx | hx
   ·exact hb x hx
   ·simp at hx; rw [hx]; exact h
  generalize l[i] = n at hcx hmem hnx;by_cases h0 : 0 <= n
  ·by_cases h9 : n <= 999
   ·refine tr 2 ?_;refine y4 10 ?_;refine pe 0 (zw ZP rfl rfl hA1 za) ?_;refine Lo 5 yl rfl hcx ?_;refine yr 2 ?_;refine yr 1 ?_;refine Cn ye rfl zq ?_ ?_
    ·rintro _ _ ⟨h1, rfl⟩;exact absurd rfl h1
    rintro _ _ ⟨h1, rfl, rfl⟩;refine vr 4 ?_;refine Pa 2 ?_;exact QR (i + 1) ya ⟨hlt, hnx (decide_eq_true ⟨h0, h9⟩)⟩ za
   ·refine tr 2 ?_;refine y4 10 ?_;refine pe 0 (zw ZP rfl rfl hA1 za) ?_;refine Lo 5 yl rfl hcx ?_;refine yr 2 ?_;refine zF 1 ?_;refine Cn ye rfl zq ?_ ?_
    ·rintro _ _ ⟨h1, rfl⟩;refine yk ?_;refine zC ?_;exact pn ⟨fun h => h9 (of_decide_eq_true (h n hmem)).2, rfl⟩
    rintro _ _ ⟨h1, rfl, rfl⟩;cases h1
  ·refine tr 2 ?_;refine y4 10 ?_;refine pe 0 (zw ZP rfl rfl hA1 za) ?_;refine Lo 5 yl rfl hcx ?_;refine zF 4 ?_;refine Cn ye rfl zq ?_ ?_
   ·rintro _ _ ⟨h1, rfl⟩;refine yk ?_;refine zC ?_;exact pn ⟨fun h => h0 (of_decide_eq_true (h n hmem)).1, rfl⟩
   rintro _ _ ⟨h1, rfl, rfl⟩;cases h1
 ·have hi2 : i = l.length := by omega
  subst hi2;rw [List.take_length] at hb;refine tr 2 ?_;refine zH 6 ?_;refine zm ?_;refine zk ?_;exact wu [] trivial [] ya ⟨hb, rfl, rfl⟩
variable {b2 b3 : Nat} {h : yB} {x : Fx}
theorem HC {L : List yb} (hs : HS m L h) :
  CallsD Tryz.prog 57 [zS b2, zS b3].toArray .returning (W x h d) fun e u2 w' => e = .returned (.tuple #[]) /\ u2 = .returning /\ ∃ h' d' L', w' = W x h' d' /\ (L' = L) /\ HS m L' h' := by
 refine HH (post := fun _ L' => L' = L) Tryz.func57 rfl rfl rfl rfl .ret ?_ hs;refine vr 5 ?_;refine pe 7 (K6 zi rfl) ?_;exact eb [] trivial L zx rfl
theorem RZ {v1 v2 v : Value} (hv : v = eg) (hs : HS m [cel b3 [v2] 29, cel b2 [v1] 9] h) :
  CallsD Tryz.prog 57 [zS b2, zS b3].toArray (.panicking (pan v)) (W x h d) fun e' u2 w' => e' = .returned (.tuple #[]) /\ u2 = .panicking [{ v := v, recovered := true }] /\ ∃ h' d' L', w' = W x h' d' /\ (L' = [cel b3 [.int .i64 2] 29, cel b2 [.string (bs [])] 9]) /\ HS m L' h' := by
 subst hv;refine HH (post := fun _ L' => L' = [cel b3 [.int .i64 2] 29, cel b2 [.string (bs [])] 9]) Tryz.func57 rfl rfl rfl rfl (.pan _ _) ?_ hs;unfold eg;refine vr 5 ?_;refine pe 5 (Hv zi rfl) ?_;refine pe 7 (gk Sj R8 rfl) ?_;refine Al 0 R6 fun b1 => ?_;refine Sg 3 Du .here ?_;refine Sr 0 Pm .h2 .here ?_;refine Sr 2 EC .h1 .here ?_
 exact eb [] trivial _ (.cons .h1 .p1) rfl
end
section
open Wd Tp Kd
theorem KX {L es r : List yb} {a : yb} (h : XS L es r) : XS (a :: L) es (a :: r) := by
 induction h with
 | nil => exact .nil
 | cons h1 _ ih => exact .cons (.there h1) ih
theorem Hm : ∀ es : List yb, XS es es []
 | [] => .nil
 | _ :: es => .cons .here (Hm es)
abbrev sB (b2 b3 : Nat) : yW := [(2, zS b2), (3, zS b3)]
def Sb (b2 b3 : Nat) (I : Bt -> List yb -> Prop) (env : yW) (L : List yb) : Prop := ba (sB b2 b3) env /\ ∃ s L1, I s L1 /\ L = [cel b3 [.int .i64 0] 29, cel b2 [.string (bs s)] 9, yF L1]
def DZ (b2 b3 : Nat) (N : Prop) (env : yW) (v : Value) (L : List yb) : Prop := ba (sB b2 b3) env /\ ∃ v1 v2, N /\ v = eg /\ L = [cel b3 [v2] 29, cel b2 [v1] 9]
theorem MI {m : Mp} {g : FuncId} {q : Lv} {pre : List yb} {N : Prop} {I : Bt -> List yb -> Prop} (hcl : yX Tryz.prog g = true)
  (hc : ∀ m', Le m m' -> Vw Tryz.prog g q m' pre (fun v L' => ∃ s, v = .string (bs s) /\ I s L') (fun v _ => N /\ v = eg)) :
  CS Tryz.prog 27 [.func (.func g) [].toArray q.toArray] m pre (fun v L' => (∃ s, v = IH (some s) /\ I s L') \/ (N /\ v = IH none /\ L' = [])) := by
 intro h hs0 x0 d0;refine calls_of_wp_defers Tryz.func27 rfl ?_;refine Do (x := ⟨x0.tape, x0.os, x0.out, []⟩) (h := h) (d := d0) rfl (fun a hag => ?_) (Ry (by show 1 <= 7; decide))
 refine Zc (m := m) (L := pre) (K := fun env' L' => ∃ b2 b3, L' = cel b3 [.int .i64 0] 29 :: cel b2 [.string (bs [])] 9 :: pre /\ ba [(0, .func (.func g) [].toArray q.toArray), (2, zS b2), (3, zS b3)] env') ?_ hs0 hag ?_
 ·refine tr 1 ?_;refine Al 0 zl9 fun b1 => ?_;refine Al 1 DS fun b2 => ?_;exact Q7 _ zx ⟨b1, b2, rfl, rfl, rfl, rfl, trivial⟩
 rintro env1 _ h1 d1' a1' ⟨b2, b3, rfl, hsub⟩ hs1 hag1;have hag1 := hag1.sub hsub;refine wp_seq ?_;refine Jn rfl rfl hag1 fun a5' hag5 => ?_;refine Md (x := ⟨x0.tape, x0.os, x0.out, [Pl (.func 57) [zS b2, zS b3]]⟩) (Qr := GY m (Sb b2 b3 I) (DZ b2 b3 N)) ?_ hs1 hag5 ?_
 ·refine tr 3 ?_;refine zg ((vV (p := []) (q := q) (vs := []) hcl rfl rfl (KX (KX (Hm pre))) (fun m' hm he => hc m' hm) rfl ?_ ?_)) rfl
  ·rintro _ _ ⟨h1, rfl⟩;refine bc ?_;exact jr (Le.refl _) [_, _] (zN.app .pp) ⟨vv, _, _, h1, rfl, rfl⟩
  rintro _ L1 ⟨s, rfl, hI⟩;refine Z0 [yF L1, cel b3 [.int .i64 0] 29, cel b2 [.string (bs [])] 9] (fun m h hs => HS.pack_iff.1 hs) ?_;refine Sr 0 Pm .h2 .here ?_;refine Sr 3 EC .h1 .here ?_;exact Q8 (Le.refl _) [_, _, _] (.cons .h1 (.cons .h1 .p0)) ⟨vv, s, L1, hI, rfl⟩
 ·rintro e1 env' h' d' a' hq hag';have hdf : a'.defers = [Pl (.func 57) [zS b2, zS b3]] := hag'.defers
  have good : ∀ L', Sb b2 b3 I env' L' -> ∀ h2 d2, HS m L' h2 -> ∃ vs, qC Tryz.prog env' h2 [.cell 2 9, .cell 3 29] vs /\ ∃ v h' d', Ending.returned (ao vs) = .returned v /\ W x0 h2 d2 = W x0 h' d' /\ wB m (fun v L' => (∃ s, v = IH (some s) /\ I s L') \/ (N /\ v = IH none /\ L' = [])) v h' := by
   rintro L' ⟨hsub, s, L1, hI, rfl⟩ h2 d2 hh;refine ⟨[_, _], cv.ok hh ⟨⟨_, _, _, _, hsub.1, .h1, .inl ⟨yI, rfl⟩⟩, ⟨_, _, _, _, hsub.2.1, .here, .inl ⟨cI, rfl⟩⟩, trivial⟩, _, h2, d2, rfl, rfl, L1, .inl ⟨s, rfl, hI⟩, ?_⟩;have := HS.pack_iff.2 hh.tail.tail;rwa [List.append_nil] at this
  have bad : ba (sB b2 b3) env' -> N -> ∀ h2 d2, HS m [cel b3 [.int .i64 2] 29, cel b2 [.string (bs [])] 9] h2 -> ∃ vs, qC Tryz.prog env' h2 [.cell 2 9, .cell 3 29] vs /\ ∃ v h' d', Ending.returned (ao vs) = .returned v /\ W x0 h2 d2 = W x0 h' d' /\ wB m (fun v L' => (∃ s, v = IH (some s) /\ I s L') \/ (N /\ v = IH none /\ L' = [])) v h' := by
   rintro hsub hr h2 d2 hh;exact ⟨[_, _], cv.ok hh ⟨⟨_, _, _, _, hsub.1, .h1, .inl ⟨yI, rfl⟩⟩, ⟨_, _, _, _, hsub.2.1, .here, .inl ⟨cI, rfl⟩⟩, trivial⟩, _, h2, d2, rfl, rfl, [], .inr ⟨hr, rfl, rfl⟩, hh.tail.tail⟩
  cases e1 with
  | normal =>
    obtain ⟨L', hp, hh⟩ := hq;show Leaves _ _ _ _ a'.defers _ _;rw [hdf];exact kz (post := fun _ L2 => L2 = L') (rs := [.cell 2 9, .cell 3 29]) rfl zi yA rfl (HC hh) hag'.toAg (fun h2 d2 L2 e hs2 => by subst e; exact good _ hp h2 d2 hs2)
  | ret =>
    obtain ⟨L', hp, hh⟩ := hq;show Leaves _ _ _ _ a'.defers _ _;rw [hdf];exact kz (post := fun _ L2 => L2 = L') (rs := [.cell 2 9, .cell 3 29]) rfl zi yA rfl (HC hh) hag'.toAg (fun h2 d2 L2 e hs2 => by subst e; exact good _ hp h2 d2 hs2)
  | panic c =>
    obtain ⟨v', L', rfl, ⟨hsub, v1, v2, hr, hv, rfl⟩, hh⟩ := hq;show Leaves _ _ _ _ a'.defers _ _;rw [hdf];exact kz (post := fun _ L2 => L2 = [cel b3 [.int .i64 2] 29, cel b2 [.string (bs [])] 9]) (rs := [.cell 2 9, .cell 3 29]) rfl zi yA rfl (RZ hv hh) hag'.toAg (fun h2 d2 L2 e' hs2 => by subst e'; exact bad hsub hr h2 d2 hs2)
  | exit i => exact hq.elim
  | goto i => exact hq.elim
  | outgrown => exact hq.elim
end
section
open Wd Tp Kd
variable {m : Mp}
inductive FD (H : Bt) (c : zP) : Nat -> Bt -> Nat -> Prop
 | z {l : Bt} (hl : l = H) : FD H c 0 l 0
 | a {l s : Bt} {p : Nat} (h1 : uU xu c.played = some s) (hl : l = H ++ s) (hp : p = yM c.played) : FD H c 1 l p
 | b {l s t : Bt} {p : Nat} (h1 : uU xu c.played = some s) (h2 : uU uj c.dead = some t) (hl : l = H ++ s ++ t) (hp : p = yM c.played + yM c.dead) : FD H c 2 l p
 | e {l s t u : Bt} {p : Nat} (h1 : uU xu c.played = some s) (h2 : uU uj c.dead = some t) (h3 : uU uy c.dawn = some u) (hl : l = H ++ s ++ t ++ u) (hp : p = yM c.played + yM c.dead + yM c.dawn) : FD H c 3 l p
variable {c : zP}
theorem FD.len {H : Bt} {i p : Nat} {l : Bt} (h : FD H c i l p) : l.length <= H.length + 100 * p + 60 := by
 cases h with
 | z hl => rw [hl]; omega
 | a h1 hl hp => have := qI zb h1; rw [hl, List.length_append]; omega
 | b h1 h2 hl hp => have := qI zb h1; have := qI zb h2; rw [hl, List.length_append, List.length_append]; omega
 | e h1 h2 h3 hl hp => have := qI zb h1; have := qI zb h2; have := qI zb h3; rw [hl, List.length_append, List.length_append, List.length_append]; omega
structure L5 where
 i : Nat
 p : Nat
 A : Oa
 c : Nat
 l : Bt
variable {l : List zW} {w : Bt}
theorem X7 (h : ¬ 0 < l.length) : uU w l = some [] /\ yM l = 0 := by
 have : l = [] := List.eq_nil_of_length_eq_zero za;subst this;exact ⟨rfl, rfl⟩
theorem qK {s : Bt} (h : 0 < l.length) (hs : vi l 0 = some s) : uU w l = some (vy ++ w ++ [32, 123] ++ s ++ [32, 125, 10]) := by
 unfold uU;rw [if_neg za, hs]
 rfl
theorem qJ (h : 0 < l.length) (hs : vi l 0 = none) : uU w l = none := by
 unfold uU;rw [if_neg za, hs]
 rfl
theorem cf {a b e : Bt} (hn : yL c.name = true) (hk : eN c = true) (hm : ko c = true) (hw : yD c <= 200) (h1 : uU xu c.played = some a) (h2 : uU uj c.dead = some b) (h3 : uU uy c.dawn = some e) :
  um c = some (fa ++ vy ++ c.name ++ fu c ++ (a ++ b ++ e) ++ cl c ++ jY c ++ [125, 10]) := by
 unfold um JE;rw [if_pos ⟨hn, hk, hm, hw⟩, h1, h2, h3]
 rfl
theorem ut (h : ¬ (yL c.name = true /\ eN c = true /\ ko c = true /\ yD c <= 200)) : um c = none := by unfold um; rw [if_neg h]
theorem qQ (h : uU xu c.played = none \/ uU uj c.dead = none \/ uU uy c.dawn = none) : um c = none := by
 unfold um JE
 split
 ·rcases h with h | h | h
  ·rw [h]; rfl
  ·rw [h]; cases uU xu c.played <;> rfl
  ·rw [h]; cases uU xu c.played <;> cases uU uj c.dead <;> rfl
 ·rfl
theorem eF {n : Int} (h : yN n = true) : 0 <= n /\ n <= 999 := of_decide_eq_true h
def GL (c : zP) : List Int := [c.cost, c.power, c.health, c.shield, c.apow, c.aheal]
theorem JV : (∀ x ∈ GL c, yN x = true) ↔ ko c = true := by
 unfold GL ko
 simp [and_assoc]
theorem PL (h : ko c = true) : yN c.cost = true /\ yN c.power = true /\ yN c.health = true /\ yN c.shield = true /\ yN c.apow = true /\ yN c.aheal = true := by
 unfold ko at h;simp only [Bool.and_eq_true] at h;obtain ⟨⟨⟨⟨⟨h1, h2⟩, h3⟩, h4⟩, h5⟩, h6⟩ := h;exact ⟨h1, h2, h3, h4, h5, h6⟩
theorem Fh (hT : qB m) (hU : xU m) {B : Nat} {q : ef} (hR : Rd m (some ⟨B, 0, none⟩) (q.v c)) (hpl : xV m q.A c.played.length c.played) (hde : xV m q.B c.dead.length c.dead) (hda : xV m q.D c.dawn.length c.dawn) (hs : Jf c) : Dv 59 [zS B] m (um c) := by
 have hnl := hs.name;have hc0 : mc m ⟨B, 0, none⟩ = some (.string (bs c.name)) := hR.at_ (i := 0) rfl;have hc1 : mc m ⟨B, 1, none⟩ = some (.bool c.unit) := hR.at_ (i := 1) rfl;have hc2 : mc m ⟨B, 2, none⟩ = some (.int .i64 c.cost) := hR.at_ (i := 2) rfl;have hc3 : mc m ⟨B, 3, none⟩ = some (.int .i64 c.power) := hR.at_ (i := 3) rfl
 have hc4 : mc m ⟨B, 4, none⟩ = some (.int .i64 c.health) := hR.at_ (i := 4) rfl;have hc5 : mc m ⟨B, 5, none⟩ = some (.int .i64 c.shield) := hR.at_ (i := 5) rfl;have hc6 : mc m ⟨B, 6, none⟩ = some (.int .i64 c.apow) := hR.at_ (i := 6) rfl;have hc7 : mc m ⟨B, 7, none⟩ = some (.int .i64 c.aheal) := hR.at_ (i := 7) rfl
 have hc8 : mc m ⟨B, 8, none⟩ = some (.slice q.A c.played.length q.ca) := hR.at_ (i := 8) rfl;have hc9 : mc m ⟨B, 9, none⟩ = some (.slice q.B c.dead.length q.cb) := hR.at_ (i := 9) rfl;have hc10 : mc m ⟨B, 10, none⟩ = some (.slice q.D c.dawn.length q.cd) := hR.at_ (i := 10) rfl;skip;refine ym [.tmp 1] Tryz.func59 rfl rfl rfl ?_;refine tr 6 ?_
 refine d6 (α := Unit) (fun _ => [(0, zS B)]) (fun _ => []) (fun _ => yL c.name = true /\ eN c = true) ?_ ?_
 ·cases hnp : yL c.name with
  | false =>
    refine tr 2 ?_;refine Lo 0 yI rfl hc0 ?_;refine Cr YH rfl (fun m' hm he => (qU (hU.mono hm) hnl)) ?_;rintro _ rfl;rw [hnp];refine vr 14 ?_;refine Cn ye rfl zq ?_ ?_
    ·rintro _ _ ⟨h1, rfl⟩;refine zC ?_;exact pn ⟨ut (fun h => by rw [hnp] at h; exact absurd h.1 zb), rfl⟩
    rintro _ _ ⟨h1, rfl, rfl⟩;cases h1
  | true =>
  cases hun : c.unit with
  | true =>
    rw [hun] at hc1;have hkb : eN c = true := by unfold eN; rw [hun]; rfl
    refine tr 2 ?_;refine Lo 0 yI rfl hc0 ?_;refine Cr YH rfl (fun m' hm he => (qU (hU.mono hm) hnl)) ?_;rintro _ rfl;rw [hnp];refine vr 2 ?_;refine Lo 11 cH rfl hc1 ?_;refine Cn ye rfl zq ?_ ?_
    ·rintro _ _ ⟨h1, rfl⟩;exact absurd rfl h1
    rintro _ _ ⟨h1, rfl, rfl⟩;refine vr 1 ?_;exact QR () ya ⟨rfl, hkb⟩ zb
  | false =>
    rw [hun] at hc1;by_cases hpw : c.power = 0
    rotate_left
    ·refine tr 2 ?_;refine Lo 0 yI rfl hc0 ?_;refine Cr YH rfl (fun m' hm he => (qU (hU.mono hm) hnl)) ?_;rintro _ rfl;rw [hnp];refine vr 2 ?_;refine Lo 2 cH rfl hc1 ?_;refine Lo 0 yl rfl hc3 ?_;refine zF 7 ?_;refine Cn ye rfl zq ?_ ?_
     ·rintro _ _ ⟨h1, rfl⟩;refine zC ?_;exact pn ⟨ut (fun h => by have h2 := h.2.1; unfold eN at h2; rw [hun, Bool.false_or, Bool.and_eq_true, decide_eq_true_eq, decide_eq_true_eq] at h2; omega), rfl⟩
     rintro _ _ ⟨h1, rfl, rfl⟩;cases h1
    by_cases hhl : c.health = 0
    rotate_left
    ·refine tr 2 ?_;refine Lo 0 yI rfl hc0 ?_;refine Cr YH rfl (fun m' hm he => (qU (hU.mono hm) hnl)) ?_;rintro _ rfl;rw [hnp];refine vr 2 ?_;refine Lo 2 cH rfl hc1 ?_;refine Lo 0 yl rfl hc3 ?_;refine yr 2 ?_;refine Lo 0 yl rfl hc4 ?_;refine zF 3 ?_;refine Cn ye rfl zq ?_ ?_
     ·rintro _ _ ⟨h1, rfl⟩;refine zC ?_;exact pn ⟨ut (fun h => by have h2 := h.2.1; unfold eN at h2; rw [hun, Bool.false_or, Bool.and_eq_true, decide_eq_true_eq, decide_eq_true_eq] at h2; omega), rfl⟩
     rintro _ _ ⟨h1, rfl, rfl⟩;cases h1
    have hkb : eN c = true := by unfold eN; rw [hun, decide_eq_true hpw, decide_eq_true hhl]; rfl
    refine tr 2 ?_;refine Lo 0 yI rfl hc0 ?_;refine Cr YH rfl (fun m' hm he => (qU (hU.mono hm) hnl)) ?_;rintro _ rfl;rw [hnp];refine vr 2 ?_;refine Lo 2 cH rfl hc1 ?_;refine Lo 0 yl rfl hc3 ?_;refine yr 2 ?_;refine Lo 0 yl rfl hc4 ?_;refine yr 3 ?_;refine Cn ye rfl zq ?_ ?_
    ·rintro _ _ ⟨h1, rfl⟩;exact absurd rfl h1
    rintro _ _ ⟨h1, rfl, rfl⟩;refine vr 1 ?_;exact QR () ya ⟨rfl, hkb⟩ zb
 rintro ⟨⟩ ⟨hnp, hkb⟩;have hn40 := xG hnp;refine tr 3 ?_;refine Lo 1 yl rfl hc2 ?_;refine Lo 1 yl rfl hc3 ?_;refine Lo 1 yl rfl hc4 ?_;refine Lo 1 yl rfl hc5 ?_;refine Lo 1 yl rfl hc6 ?_;refine Lo 0 yl rfl hc7 ?_;refine Bs 0 MB fun b1 => ?_;refine Cp EK rfl .nil (fun m' hm he => Ua (l := GL c) (Rd.blk (he _ (.head _))) (by show 6 <= 100; decide)) ?_ ?_
 ·rintro _ _ ⟨h1, rfl⟩;exact pn ⟨ut (fun h => h1 (JV.2 h.2.2.1)), rfl⟩
 rintro _ _ ⟨h1, rfl, rfl⟩;have hnm := JV.1 h1;obtain ⟨s1, s2, s3, s4, s5, s6⟩ := PL hnm;have s1 := eF s1;have s2 := eF s2;have s3 := eF s3;have s4 := eF s4;have s5 := eF s5;have s6 := eF s6;refine vr 4 ?_;refine Al 3 SQ fun b2 => ?_;refine jS 5 1 ?_;refine tr 2 ?_;refine Lo 0 yI rfl hc0 ?_;refine Ps 0 ?_
 refine zg ((xC aa rfl (.cons .h1 .k0) (fun m' hm he => vu (s := [99, 97, 114, 100, 32] ++ c.name) (.inl rfl) Gf.nil km) rfl ?_)) rfl;rintro _ _ ⟨A1, c1, hB1, rfl, rfl⟩;refine vr 4 ?_
 refine ac (α := Oa × Nat × Bt) (fun _ => [(0, zS B), (2, zS b2)]) (fun y => Lu b2 (zS b2) y.1 y.2.1 y.2.2) (fun y => y.2.2 = fa ++ vy ++ c.name ++ fu c /\ Gf y.1 y.2.2) ?_ ?_
 ·cases hun : c.unit with
  | true =>
    rw [hun] at hc1;refine tr 2 ?_;refine Lo 3 cH rfl hc1 ?_;refine Db (sq [0, 1, 5, 6, 10, 11, 102, 3, 4, 107, 8, 9, 112, 13, 14, 115] .done) ?_;refine vB 1 ?_;refine Vr 1 rfl (zl yl rfl hc2) ?_;refine Vr 1 rfl (zl yl rfl hc3) ?_;refine Vr 0 rfl (zl yl rfl hc4) ?_;refine zf rfl (xB em rfl (fun m' hm he => (wQ (hT.mono hm) za za)) rfl ?_) rfl
    rintro _ rfl;rw [xx s1.1 s1.2];have hd_cost := yS c.cost;refine Vs 0 rfl ?_;refine Vs 0 rfl ?_;refine zf rfl (xB em rfl (fun m' hm he => (wQ (hT.mono hm) za za)) rfl ?_) rfl;rintro _ rfl;rw [xx s2.1 s2.2];have hd_power := yS c.power;refine Vs 0 rfl ?_;refine Vs 0 rfl ?_
    refine zf rfl (xB em rfl (fun m' hm he => (wQ (hT.mono hm) za za)) rfl ?_) rfl;rintro _ rfl;rw [xx s3.1 s3.2];have hd_health := yS c.health;refine Vs 0 rfl ?_;refine Vs 0 rfl ?_
    refine zf rfl ((xC aa rfl (.cons .here .k0) (fun m' hm he => vu (s := [32, 117, 110, 105, 116, 32] ++ qO c.cost ++ [32] ++ qO c.power ++ [47] ++ qO c.health ++ [32, 123, 10]) (.inr rfl) hB1 km) rfl ?_)) rfl;rintro _ _ ⟨A2, c2, hB2, rfl, rfl⟩;refine Vn 0 ?_
    exact QR ((A2, c2, _) : Oa × Nat × Bt) .pp ⟨by unfold fu; simp [hun], hB2⟩ zb
  | false =>
    rw [hun] at hc1;refine tr 2 ?_;refine Lo 5 cH rfl hc1 ?_;refine Lo 0 yl rfl hc2 ?_;refine Cr em rfl (fun m' hm he => (wQ (hT.mono hm) za za)) ?_;rintro _ rfl;rw [xx s1.1 s1.2];have hd_cost := yS c.cost;refine Ps 0 ?_;refine Ps 0 ?_
    refine zg ((xC aa rfl (.cons .here .k0) (fun m' hm he => vu (s := [32, 99, 104, 97, 114, 109, 32] ++ qO c.cost ++ [32, 123, 10]) (.inr rfl) hB1 km) rfl ?_)) rfl;rintro _ _ ⟨A2, c2, hB2, rfl, rfl⟩;refine vr 1 ?_
    exact QR ((A2, c2, _) : Oa × Nat × Bt) .pp ⟨by unfold fu; simp [hun], hB2⟩ zb
 rintro ⟨A2, c2, l2⟩ ⟨hl2e, hB2⟩;dsimp only at hl2e hB2;dsimp only;refine tr 2 ?_;refine pe 0 (zA FS Ea rfl rfl) ?_;refine Bx 7 rfl fun b3 => ?_;refine Lo 1 y8 rfl hc8 ?_;refine Lo 1 y8 rfl hc9 ?_;refine Lo 0 y8 rfl hc10 ?_;refine Bs 5 F6 fun b4 => ?_;refine zG .here (fun ns hi _ hd => ?_)
 have hR4 : Rd (yj m ns) (some ⟨b4, 0, none⟩) [.slice q.A c.played.length q.ca, .slice q.B c.dead.length q.cb, .slice q.D c.dawn.length q.cd] := (Rd.blk hi).mono (yq hd);have hl2 : Le m (yj m ns) := zU _ _;clear hi hd;generalize yj m ns = m9 at hR4 hl2;have hT := hT.mono hl2;have hU := hU.mono hl2;have hc0 := xv hl2 hc0;have hc1 := xv hl2 hc1;have hc2 := xv hl2 hc2
 have hc3 := xv hl2 hc3;have hc4 := xv hl2 hc4;have hc5 := xv hl2 hc5;have hc6 := xv hl2 hc6;have hc7 := xv hl2 hc7;have hc8 := xv hl2 hc8;have hc9 := xv hl2 hc9;have hc10 := xv hl2 hc10;have hb1 : vx m9 b3 q.A c.played.length q.ca c.played := KO c.played hs.p m9 hT hU b3 q.A q.ca (hpl.mono hl2) hs.lp
 have hb2 : vx m9 b3 q.B c.dead.length q.cb c.dead := KO c.dead hs.d m9 hT hU b3 q.B q.cb (hde.mono hl2) hs.ld;have hb3 : vx m9 b3 q.D c.dawn.length q.cd c.dawn := KO c.dawn hs.w m9 hT hU b3 q.D q.cd (hda.mono hl2) hs.lw;have hq0 : mc m9 ⟨b4, 0, none⟩ = some (.slice q.A c.played.length q.ca) := hR4.at_ (i := 0) rfl
 have hq1 : mc m9 ⟨b4, 1, none⟩ = some (.slice q.B c.dead.length q.cb) := hR4.at_ (i := 1) rfl;have hq2 : mc m9 ⟨b4, 2, none⟩ = some (.slice q.D c.dawn.length q.cd) := hR4.at_ (i := 2) rfl;have hlp : c.played.length <= 9223372036854775807 := Nat.le_trans hs.lp zb;have hld : c.dead.length <= 9223372036854775807 := Nat.le_trans hs.ld zb
 have hlw : c.dawn.length <= 9223372036854775807 := Nat.le_trans hs.lw zb
 refine yv (α := L5) (fun y => [(0, zS B), (2, zS b2), (3, zS b3), (74, .slice (some ⟨b4, 0, none⟩) 3 3), (75, .int .i64 (3 : Nat)), (76, .int .i64 (y.i : Nat))]) (fun y => Lu b2 (zS b2) y.A y.c y.l ++ [pr b3 y.p 0])
  (fun y => FD (fa ++ vy ++ c.name ++ fu c) c y.i y.l y.p /\ Gf y.A y.l /\ y.p <= 200) (fun y => 3 - y.i) ⟨0, 0, A2, c2, l2⟩ gB (.cons .h1 (.cons .h1 .p0)) ⟨.z hl2e, hB2, Nat.zero_le _⟩ ?_
 have hHl : (fa ++ vy ++ c.name ++ fu c).length <= 100 := by
  have h1 := xG hnp;have h2 := WK c;simp only [List.length_append, List.length_cons, List.length_nil];omega
 rintro ⟨i, p, A3, c3, l⟩ ⟨hI, hB3, hp⟩;dsimp only at hI hB3 hp;dsimp only;have hlen := hI.len;cases hI with
 | z hl =>
   by_cases hlen0 : 0 < c.played.length
   rotate_left
   ·obtain ⟨e1, e2⟩ := X7 (w := xu) hlen0;refine tr 2 ?_;refine y4 11 ?_;refine pe 0 (zw Un rfl rfl (hR4.isSome xz) za) ?_;refine Lo 8 y8 rfl hq0 ?_;refine zH 7 ?_;refine Pa 2 ?_;exact QR (⟨1, _, A3, c3, l⟩ : L5) zx ⟨.a (s := []) (by exact e1) (by rw [hl]; simp) yV, hB3, hp⟩ yV
   skip;refine tr 2 ?_;refine y4 11 ?_;refine pe 0 (zw Un rfl rfl (hR4.isSome xz) za) ?_;refine Lo 8 y8 rfl hq0 ?_;refine y4 3 ?_;refine Db (sq [1, 6, 7] (.fork (sq [100, 2] (.fork (sq [103, 4, 5, 108, 9, 10, 111] .done) (sq [108, 103, 4, 5, 9, 10, 111] .done))) (sq [108, 100, 2, 103, 4, 5, 9, 10, 111] .done))) ?_;refine vB 3 ?_;refine xl ?_ ?_
   refine zf rfl (yi xH rfl rfl rfl rfl (fun b5 => ?_)) rfl;refine Vb 0 rfl (zw ql rfl rfl (hR4.isSome xz) za) ?_;refine xl ?_ ?_
   ·refine Ve 0 rfl ((yE (b := b5) (i := 0) (l := [.string (bs [112, 108, 97, 121, 101, 100]), .string (bs [100, 101, 97, 100]), .string (bs [100, 97, 119, 110])]) yI rfl .here rfl)) ?_;refine Vs 0 rfl ?_;refine Vs 0 rfl ?_;refine zf rfl ((z8 W2 rfl .k3 (fun m' hm he => hb1 m' hm _ 0 hp zb) rfl ?_ ?_)) rfl
    ·rintro _ _ ⟨g1, rfl⟩;refine yk ?_;refine zC ?_;exact pW hl2 ⟨g1.elim (fun g => qQ (Or.inl (qJ hlen0 g))) (fun g => ut (fun h => by have hw := h.2.2.2; unfold yD at hw; omega)), rfl⟩
    rintro _ _ ⟨s, g1, g2, rfl, rfl⟩;have gl := wy g1;refine Vs 0 rfl ?_;refine Vs 0 rfl ?_;refine zf rfl ((xC aa rfl (.cons .h2 .k2) (fun m' hm he => vu (s := [32] ++ [112, 108, 97, 121, 101, 100] ++ [32, 123] ++ s ++ [32, 125, 10]) (.inr rfl) hB3 km) rfl ?_)) rfl;rintro _ _ ⟨A4, c4, hB4, rfl, rfl⟩
    refine Vn 3 ?_;refine Pa 2 ?_;exact QR (⟨1, _, A4, c4, _⟩ : L5) (.cons .here .pp) ⟨.a (s := _) (by exact qK hlen0 g1) (by rw [hl]) yV, hB4, g2⟩ yV
   ·skip;refine zf rfl ((z8 W2 rfl .k3 (fun m' hm he => hb1 m' hm _ 0 hp zb) rfl ?_ ?_)) rfl
    ·rintro _ _ ⟨g1, rfl⟩;refine yk ?_;refine zC ?_;exact pW hl2 ⟨g1.elim (fun g => qQ (Or.inl (qJ hlen0 g))) (fun g => ut (fun h => by have hw := h.2.2.2; unfold yD at hw; omega)), rfl⟩
    rintro _ _ ⟨s, g1, g2, rfl, rfl⟩;have gl := wy g1;skip;refine Ve 0 rfl ((yE (b := b5) (i := 0) (l := [.string (bs [112, 108, 97, 121, 101, 100]), .string (bs [100, 101, 97, 100]), .string (bs [100, 97, 119, 110])]) yI rfl .h1 rfl)) ?_
    iterate 4 (refine Vs 0 rfl ?_)
    refine zf rfl ((xC aa rfl (.cons .h2 .k2) (fun m' hm he => vu (s := [32] ++ [112, 108, 97, 121, 101, 100] ++ [32, 123] ++ s ++ [32, 125, 10]) (.inr rfl) hB3 km) rfl ?_)) rfl;rintro _ _ ⟨A4, c4, hB4, rfl, rfl⟩;refine Vn 3 ?_;refine Pa 2 ?_
    exact QR (⟨1, _, A4, c4, _⟩ : L5) (.cons .here .pp) ⟨.a (s := _) (by exact qK hlen0 g1) (by rw [hl]) yV, hB4, g2⟩ yV
   ·refine zf rfl ((z8 W2 rfl .k2 (fun m' hm he => hb1 m' hm _ 0 hp zb) rfl ?_ ?_)) rfl
    ·rintro _ _ ⟨g1, rfl⟩;refine yk ?_;refine zC ?_;exact pW hl2 ⟨g1.elim (fun g => qQ (Or.inl (qJ hlen0 g))) (fun g => ut (fun h => by have hw := h.2.2.2; unfold yD at hw; omega)), rfl⟩
    rintro _ _ ⟨s, g1, g2, rfl, rfl⟩;have gl := wy g1;refine zf rfl (yi xH rfl rfl rfl rfl (fun b5 => ?_)) rfl;refine Vb 0 rfl (zw ql rfl rfl (hR4.isSome xz) za) ?_
    refine Ve 0 rfl ((yE (b := b5) (i := 0) (l := [.string (bs [112, 108, 97, 121, 101, 100]), .string (bs [100, 101, 97, 100]), .string (bs [100, 97, 119, 110])]) yI rfl .here rfl)) ?_
    iterate 4 (refine Vs 0 rfl ?_)
    refine zf rfl ((xC aa rfl (.cons .h2 .k2) (fun m' hm he => vu (s := [32] ++ [112, 108, 97, 121, 101, 100] ++ [32, 123] ++ s ++ [32, 125, 10]) (.inr rfl) hB3 km) rfl ?_)) rfl;rintro _ _ ⟨A4, c4, hB4, rfl, rfl⟩;refine Vn 3 ?_;refine Pa 2 ?_
    exact QR (⟨1, _, A4, c4, _⟩ : L5) (.cons .here (.cons .here .p1)) ⟨.a (s := _) (by exact qK hlen0 g1) (by rw [hl]) yV, hB4, g2⟩ yV
 | a h1 hl hpe =>
   by_cases hlen0 : 0 < c.dead.length
   rotate_left
   ·obtain ⟨e1, e2⟩ := X7 (w := uj) hlen0;refine tr 2 ?_;refine y4 11 ?_;refine pe 0 (zw Un rfl rfl (hR4.isSome xz) za) ?_;refine Lo 8 y8 rfl hq1 ?_;refine zH 7 ?_;refine Pa 2 ?_;exact QR (⟨2, _, A3, c3, l⟩ : L5) zx ⟨.b (t := []) h1 (by exact e1) (by rw [hl]; simp) yV, hB3, hp⟩ yV
   skip;refine tr 2 ?_;refine y4 11 ?_;refine pe 0 (zw Un rfl rfl (hR4.isSome xz) za) ?_;refine Lo 8 y8 rfl hq1 ?_;refine y4 3 ?_;refine Db (sq [1, 6, 7] (.fork (sq [100, 2] (.fork (sq [103, 4, 5, 108, 9, 10, 111] .done) (sq [108, 103, 4, 5, 9, 10, 111] .done))) (sq [108, 100, 2, 103, 4, 5, 9, 10, 111] .done))) ?_;refine vB 3 ?_;refine xl ?_ ?_
   refine zf rfl (yi xH rfl rfl rfl rfl (fun b5 => ?_)) rfl;refine Vb 0 rfl (zw ql rfl rfl (hR4.isSome xz) za) ?_;refine xl ?_ ?_
   ·refine Ve 0 rfl ((yE (b := b5) (i := 1) (l := [.string (bs [112, 108, 97, 121, 101, 100]), .string (bs [100, 101, 97, 100]), .string (bs [100, 97, 119, 110])]) yI rfl .here rfl)) ?_;refine Vs 0 rfl ?_;refine Vs 0 rfl ?_;refine zf rfl ((z8 W2 rfl .k3 (fun m' hm he => hb2 m' hm _ 0 hp zb) rfl ?_ ?_)) rfl
    ·rintro _ _ ⟨g1, rfl⟩;refine yk ?_;refine zC ?_;exact pW hl2 ⟨g1.elim (fun g => qQ (Or.inr <| Or.inl (qJ hlen0 g))) (fun g => ut (fun h => by have hw := h.2.2.2; unfold yD at hw; omega)), rfl⟩
    rintro _ _ ⟨s, g1, g2, rfl, rfl⟩;have gl := wy g1;refine Vs 0 rfl ?_;refine Vs 0 rfl ?_;refine zf rfl ((xC aa rfl (.cons .h2 .k2) (fun m' hm he => vu (s := [32] ++ [100, 101, 97, 100] ++ [32, 123] ++ s ++ [32, 125, 10]) (.inr rfl) hB3 km) rfl ?_)) rfl;rintro _ _ ⟨A4, c4, hB4, rfl, rfl⟩
    refine Vn 3 ?_;refine Pa 2 ?_;exact QR (⟨2, _, A4, c4, _⟩ : L5) (.cons .here .pp) ⟨.b (t := _) h1 (by exact qK hlen0 g1) (by rw [hl]) yV, hB4, g2⟩ yV
   ·skip;refine zf rfl ((z8 W2 rfl .k3 (fun m' hm he => hb2 m' hm _ 0 hp zb) rfl ?_ ?_)) rfl
    ·rintro _ _ ⟨g1, rfl⟩;refine yk ?_;refine zC ?_;exact pW hl2 ⟨g1.elim (fun g => qQ (Or.inr <| Or.inl (qJ hlen0 g))) (fun g => ut (fun h => by have hw := h.2.2.2; unfold yD at hw; omega)), rfl⟩
    rintro _ _ ⟨s, g1, g2, rfl, rfl⟩;have gl := wy g1;skip;refine Ve 0 rfl ((yE (b := b5) (i := 1) (l := [.string (bs [112, 108, 97, 121, 101, 100]), .string (bs [100, 101, 97, 100]), .string (bs [100, 97, 119, 110])]) yI rfl .h1 rfl)) ?_
    iterate 4 (refine Vs 0 rfl ?_)
    refine zf rfl ((xC aa rfl (.cons .h2 .k2) (fun m' hm he => vu (s := [32] ++ [100, 101, 97, 100] ++ [32, 123] ++ s ++ [32, 125, 10]) (.inr rfl) hB3 km) rfl ?_)) rfl;rintro _ _ ⟨A4, c4, hB4, rfl, rfl⟩;refine Vn 3 ?_;refine Pa 2 ?_
    exact QR (⟨2, _, A4, c4, _⟩ : L5) (.cons .here .pp) ⟨.b (t := _) h1 (by exact qK hlen0 g1) (by rw [hl]) yV, hB4, g2⟩ yV
   ·refine zf rfl ((z8 W2 rfl .k2 (fun m' hm he => hb2 m' hm _ 0 hp zb) rfl ?_ ?_)) rfl
    ·rintro _ _ ⟨g1, rfl⟩;refine yk ?_;refine zC ?_;exact pW hl2 ⟨g1.elim (fun g => qQ (Or.inr <| Or.inl (qJ hlen0 g))) (fun g => ut (fun h => by have hw := h.2.2.2; unfold yD at hw; omega)), rfl⟩
    rintro _ _ ⟨s, g1, g2, rfl, rfl⟩;have gl := wy g1;refine zf rfl (yi xH rfl rfl rfl rfl (fun b5 => ?_)) rfl;refine Vb 0 rfl (zw ql rfl rfl (hR4.isSome xz) za) ?_
    refine Ve 0 rfl ((yE (b := b5) (i := 1) (l := [.string (bs [112, 108, 97, 121, 101, 100]), .string (bs [100, 101, 97, 100]), .string (bs [100, 97, 119, 110])]) yI rfl .here rfl)) ?_
    iterate 4 (refine Vs 0 rfl ?_)
    refine zf rfl ((xC aa rfl (.cons .h2 .k2) (fun m' hm he => vu (s := [32] ++ [100, 101, 97, 100] ++ [32, 123] ++ s ++ [32, 125, 10]) (.inr rfl) hB3 km) rfl ?_)) rfl;rintro _ _ ⟨A4, c4, hB4, rfl, rfl⟩;refine Vn 3 ?_;refine Pa 2 ?_
    exact QR (⟨2, _, A4, c4, _⟩ : L5) (.cons .here (.cons .here .p1)) ⟨.b (t := _) h1 (by exact qK hlen0 g1) (by rw [hl]) yV, hB4, g2⟩ yV
 | b h1 h2 hl hpe =>
   by_cases hlen0 : 0 < c.dawn.length
   rotate_left
   ·obtain ⟨e1, e2⟩ := X7 (w := uy) hlen0;refine tr 2 ?_;refine y4 11 ?_;refine pe 0 (zw Un rfl rfl (hR4.isSome xz) za) ?_;refine Lo 8 y8 rfl hq2 ?_;refine zH 7 ?_;refine Pa 2 ?_;exact QR (⟨3, _, A3, c3, l⟩ : L5) zx ⟨.e (u := []) h1 h2 (by exact e1) (by rw [hl]; simp) yV, hB3, hp⟩ yV
   skip;refine tr 2 ?_;refine y4 11 ?_;refine pe 0 (zw Un rfl rfl (hR4.isSome xz) za) ?_;refine Lo 8 y8 rfl hq2 ?_;refine y4 3 ?_;refine Db (sq [1, 6, 7] (.fork (sq [100, 2] (.fork (sq [103, 4, 5, 108, 9, 10, 111] .done) (sq [108, 103, 4, 5, 9, 10, 111] .done))) (sq [108, 100, 2, 103, 4, 5, 9, 10, 111] .done))) ?_;refine vB 3 ?_;refine xl ?_ ?_
   refine zf rfl (yi xH rfl rfl rfl rfl (fun b5 => ?_)) rfl;refine Vb 0 rfl (zw ql rfl rfl (hR4.isSome xz) za) ?_;refine xl ?_ ?_
   ·refine Ve 0 rfl ((yE (b := b5) (i := 2) (l := [.string (bs [112, 108, 97, 121, 101, 100]), .string (bs [100, 101, 97, 100]), .string (bs [100, 97, 119, 110])]) yI rfl .here rfl)) ?_;refine Vs 0 rfl ?_;refine Vs 0 rfl ?_;refine zf rfl ((z8 W2 rfl .k3 (fun m' hm he => hb3 m' hm _ 0 hp zb) rfl ?_ ?_)) rfl
    ·rintro _ _ ⟨g1, rfl⟩;refine yk ?_;refine zC ?_;exact pW hl2 ⟨g1.elim (fun g => qQ (Or.inr <| Or.inr (qJ hlen0 g))) (fun g => ut (fun h => by have hw := h.2.2.2; unfold yD at hw; omega)), rfl⟩
    rintro _ _ ⟨s, g1, g2, rfl, rfl⟩;have gl := wy g1;refine Vs 0 rfl ?_;refine Vs 0 rfl ?_;refine zf rfl ((xC aa rfl (.cons .h2 .k2) (fun m' hm he => vu (s := [32] ++ [100, 97, 119, 110] ++ [32, 123] ++ s ++ [32, 125, 10]) (.inr rfl) hB3 km) rfl ?_)) rfl;rintro _ _ ⟨A4, c4, hB4, rfl, rfl⟩
    refine Vn 3 ?_;refine Pa 2 ?_;exact QR (⟨3, _, A4, c4, _⟩ : L5) (.cons .here .pp) ⟨.e (u := _) h1 h2 (by exact qK hlen0 g1) (by rw [hl]) yV, hB4, g2⟩ yV
   ·skip;refine zf rfl ((z8 W2 rfl .k3 (fun m' hm he => hb3 m' hm _ 0 hp zb) rfl ?_ ?_)) rfl
    ·rintro _ _ ⟨g1, rfl⟩;refine yk ?_;refine zC ?_;exact pW hl2 ⟨g1.elim (fun g => qQ (Or.inr <| Or.inr (qJ hlen0 g))) (fun g => ut (fun h => by have hw := h.2.2.2; unfold yD at hw; omega)), rfl⟩
    rintro _ _ ⟨s, g1, g2, rfl, rfl⟩;have gl := wy g1;skip;refine Ve 0 rfl ((yE (b := b5) (i := 2) (l := [.string (bs [112, 108, 97, 121, 101, 100]), .string (bs [100, 101, 97, 100]), .string (bs [100, 97, 119, 110])]) yI rfl .h1 rfl)) ?_
    iterate 4 (refine Vs 0 rfl ?_)
    refine zf rfl ((xC aa rfl (.cons .h2 .k2) (fun m' hm he => vu (s := [32] ++ [100, 97, 119, 110] ++ [32, 123] ++ s ++ [32, 125, 10]) (.inr rfl) hB3 km) rfl ?_)) rfl;rintro _ _ ⟨A4, c4, hB4, rfl, rfl⟩;refine Vn 3 ?_;refine Pa 2 ?_
    exact QR (⟨3, _, A4, c4, _⟩ : L5) (.cons .here .pp) ⟨.e (u := _) h1 h2 (by exact qK hlen0 g1) (by rw [hl]) yV, hB4, g2⟩ yV
   ·refine zf rfl ((z8 W2 rfl .k2 (fun m' hm he => hb3 m' hm _ 0 hp zb) rfl ?_ ?_)) rfl
    ·rintro _ _ ⟨g1, rfl⟩;refine yk ?_;refine zC ?_;exact pW hl2 ⟨g1.elim (fun g => qQ (Or.inr <| Or.inr (qJ hlen0 g))) (fun g => ut (fun h => by have hw := h.2.2.2; unfold yD at hw; omega)), rfl⟩
    rintro _ _ ⟨s, g1, g2, rfl, rfl⟩;have gl := wy g1;refine zf rfl (yi xH rfl rfl rfl rfl (fun b5 => ?_)) rfl;refine Vb 0 rfl (zw ql rfl rfl (hR4.isSome xz) za) ?_
    refine Ve 0 rfl ((yE (b := b5) (i := 2) (l := [.string (bs [112, 108, 97, 121, 101, 100]), .string (bs [100, 101, 97, 100]), .string (bs [100, 97, 119, 110])]) yI rfl .here rfl)) ?_
    iterate 4 (refine Vs 0 rfl ?_)
    refine zf rfl ((xC aa rfl (.cons .h2 .k2) (fun m' hm he => vu (s := [32] ++ [100, 97, 119, 110] ++ [32, 123] ++ s ++ [32, 125, 10]) (.inr rfl) hB3 km) rfl ?_)) rfl;rintro _ _ ⟨A4, c4, hB4, rfl, rfl⟩;refine Vn 3 ?_;refine Pa 2 ?_
    exact QR (⟨3, _, A4, c4, _⟩ : L5) (.cons .here (.cons .here .p1)) ⟨.e (u := _) h1 h2 (by exact qK hlen0 g1) (by rw [hl]) yV, hB4, g2⟩ yV
 | e h1 h2 h3 hl hpe =>
   skip;by_cases ha0 : c.apow = 0
   rotate_left
   ·have hau : cl c = vy ++ j0 ++ vy ++ qO c.apow ++ jZ ++ qO c.aheal ++ [59, 10] := by unfold cl; rw [if_neg (fun h => ha0 h.1)]
    refine tr 2 ?_;refine zH 6 ?_;refine zm ?_;refine zk ?_;refine qt 5 ?_;refine Lo 0 yl rfl hc6 ?_;refine yr 8 ?_;refine Db (sq [0, 1, 5, 6, 102, 3, 4, 107, 8, 9, 110] .done) ?_;refine vB 1 ?_;refine Vr 1 rfl (zl yl rfl hc6) ?_;refine Vr 0 rfl (zl yl rfl hc7) ?_
    refine zf rfl (xB em rfl (fun m' hm he => (wQ (hT.mono hm) za za)) rfl ?_) rfl;rintro _ rfl;rw [xx s5.1 s5.2];have hd_apow := yS c.apow;refine Vs 0 rfl ?_;refine Vs 0 rfl ?_;refine zf rfl (xB em rfl (fun m' hm he => (wQ (hT.mono hm) za za)) rfl ?_) rfl;rintro _ rfl;rw [xx s6.1 s6.2]
    have hd_aheal := yS c.aheal;refine Vs 0 rfl ?_;refine Vs 0 rfl ?_;refine zf rfl ((xC aa rfl (.cons .here .k0) (fun m' hm he => vu (s := [32, 97, 117, 114, 97, 32] ++ qO c.apow ++ [47] ++ qO c.aheal ++ [59, 10]) (.inr rfl) hB3 km) rfl ?_)) rfl;rintro _ _ ⟨A5, c5, hB5, rfl, rfl⟩
    by_cases hs0 : c.shield = 0
    ·have hsh : jY c = [] := by unfold jY; rw [if_pos hs0]
     refine Vn 5 ?_;refine Lo 0 yl rfl hc5 ?_;refine zH 7 ?_;refine zg ((xC KB rfl (.cons .here .k0) (fun m' hm he => gi hB5 VY) rfl ?_)) rfl;rintro _ _ ⟨rfl, rfl⟩;refine Ps 4 ?_
     exact Ta hl2 zj ⟨_, cf hnp hkb hnm (by unfold yD; omega) h1 h2 h3, congrArg (fun t => Value.string (bs t)) (by rw [hl, hau, hsh]; simp), rfl⟩
    ·have hsh : jY c = vy ++ vm ++ vy ++ qO c.shield ++ [59, 10] := by unfold jY; rw [if_neg hs0]
     refine Vn 5 ?_;refine Lo 0 yl rfl hc5 ?_;refine yr 5 ?_;refine Lo 0 yl rfl hc5 ?_;refine Cr em rfl (fun m' hm he => (wQ (hT.mono hm) za za)) ?_;rintro _ rfl;rw [xx s4.1 s4.2];have hd_shield := yS c.shield;refine Ps 0 ?_;refine Ps 0 ?_
     refine zg ((xC aa rfl (.cons .here .k0) (fun m' hm he => vu (s := [32, 115, 104, 105, 101, 108, 100, 32] ++ qO c.shield ++ [59, 10]) (.inr rfl) hB5 km) rfl ?_)) rfl;rintro _ _ ⟨A6, c6, hB6, rfl, rfl⟩;refine vr 4 ?_
     refine zg ((xC KB rfl (.cons .here .k0) (fun m' hm he => gi hB6 VY) rfl ?_)) rfl;rintro _ _ ⟨rfl, rfl⟩;refine Ps 4 ?_;exact Ta hl2 zj ⟨_, cf hnp hkb hnm (by unfold yD; omega) h1 h2 h3, congrArg (fun t => Value.string (bs t)) (by rw [hl, hau, hsh]; simp), rfl⟩
   by_cases hh0 : c.aheal = 0
   rotate_left
   ·have hau : cl c = vy ++ j0 ++ vy ++ qO c.apow ++ jZ ++ qO c.aheal ++ [59, 10] := by unfold cl; rw [if_neg (fun h => hh0 h.2)]
    refine tr 2 ?_;refine zH 6 ?_;refine zm ?_;refine zk ?_;refine qt 5 ?_;refine Lo 0 yl rfl hc6 ?_;refine zH 2 ?_;refine Lo 0 yl rfl hc7 ?_;refine yr 4 ?_;refine Db (sq [0, 1, 5, 6, 102, 3, 4, 107, 8, 9, 110] .done) ?_;refine vB 1 ?_;refine Vr 1 rfl (zl yl rfl hc6) ?_;refine Vr 0 rfl (zl yl rfl hc7) ?_
    refine zf rfl (xB em rfl (fun m' hm he => (wQ (hT.mono hm) za za)) rfl ?_) rfl;rintro _ rfl;rw [xx s5.1 s5.2];have hd_apow := yS c.apow;refine Vs 0 rfl ?_;refine Vs 0 rfl ?_;refine zf rfl (xB em rfl (fun m' hm he => (wQ (hT.mono hm) za za)) rfl ?_) rfl;rintro _ rfl;rw [xx s6.1 s6.2]
    have hd_aheal := yS c.aheal;refine Vs 0 rfl ?_;refine Vs 0 rfl ?_;refine zf rfl ((xC aa rfl (.cons .here .k0) (fun m' hm he => vu (s := [32, 97, 117, 114, 97, 32] ++ qO c.apow ++ [47] ++ qO c.aheal ++ [59, 10]) (.inr rfl) hB3 km) rfl ?_)) rfl;rintro _ _ ⟨A5, c5, hB5, rfl, rfl⟩
    by_cases hs0 : c.shield = 0
    ·have hsh : jY c = [] := by unfold jY; rw [if_pos hs0]
     refine Vn 5 ?_;refine Lo 0 yl rfl hc5 ?_;refine zH 7 ?_;refine zg ((xC KB rfl (.cons .here .k0) (fun m' hm he => gi hB5 VY) rfl ?_)) rfl;rintro _ _ ⟨rfl, rfl⟩;refine Ps 4 ?_
     exact Ta hl2 zj ⟨_, cf hnp hkb hnm (by unfold yD; omega) h1 h2 h3, congrArg (fun t => Value.string (bs t)) (by rw [hl, hau, hsh]; simp), rfl⟩
    ·have hsh : jY c = vy ++ vm ++ vy ++ qO c.shield ++ [59, 10] := by unfold jY; rw [if_neg hs0]
     refine Vn 5 ?_;refine Lo 0 yl rfl hc5 ?_;refine yr 5 ?_;refine Lo 0 yl rfl hc5 ?_;refine Cr em rfl (fun m' hm he => (wQ (hT.mono hm) za za)) ?_;rintro _ rfl;rw [xx s4.1 s4.2];have hd_shield := yS c.shield;refine Ps 0 ?_;refine Ps 0 ?_
     refine zg ((xC aa rfl (.cons .here .k0) (fun m' hm he => vu (s := [32, 115, 104, 105, 101, 108, 100, 32] ++ qO c.shield ++ [59, 10]) (.inr rfl) hB5 km) rfl ?_)) rfl;rintro _ _ ⟨A6, c6, hB6, rfl, rfl⟩;refine vr 4 ?_
     refine zg ((xC KB rfl (.cons .here .k0) (fun m' hm he => gi hB6 VY) rfl ?_)) rfl;rintro _ _ ⟨rfl, rfl⟩;refine Ps 4 ?_;exact Ta hl2 zj ⟨_, cf hnp hkb hnm (by unfold yD; omega) h1 h2 h3, congrArg (fun t => Value.string (bs t)) (by rw [hl, hau, hsh]; simp), rfl⟩
   have hau : cl c = [] := by unfold cl; rw [if_pos ⟨ha0, hh0⟩]
   by_cases hs0 : c.shield = 0
   ·have hsh : jY c = [] := by unfold jY; rw [if_pos hs0]
    refine tr 2 ?_;refine zH 6 ?_;refine zm ?_;refine zk ?_;refine qt 5 ?_;refine Lo 0 yl rfl hc6 ?_;refine zH 2 ?_;refine Lo 0 yl rfl hc7 ?_;refine zH 10 ?_;refine Lo 0 yl rfl hc5 ?_;refine zH 7 ?_
    refine zg ((xC KB rfl (.cons .here .k0) (fun m' hm he => gi hB3 VY) rfl ?_)) rfl;rintro _ _ ⟨rfl, rfl⟩;refine Ps 4 ?_;exact Ta hl2 zj ⟨_, cf hnp hkb hnm (by unfold yD; omega) h1 h2 h3, congrArg (fun t => Value.string (bs t)) (by rw [hl, hau, hsh]; simp), rfl⟩
   ·have hsh : jY c = vy ++ vm ++ vy ++ qO c.shield ++ [59, 10] := by unfold jY; rw [if_neg hs0]
    refine tr 2 ?_;refine zH 6 ?_;refine zm ?_;refine zk ?_;refine qt 5 ?_;refine Lo 0 yl rfl hc6 ?_;refine zH 2 ?_;refine Lo 0 yl rfl hc7 ?_;refine zH 10 ?_;refine Lo 0 yl rfl hc5 ?_;refine yr 5 ?_;refine Lo 0 yl rfl hc5 ?_;refine Cr em rfl (fun m' hm he => (wQ (hT.mono hm) za za)) ?_;rintro _ rfl;rw [xx s4.1 s4.2]
    have hd_shield := yS c.shield;refine Ps 0 ?_;refine Ps 0 ?_;refine zg ((xC aa rfl (.cons .here .k0) (fun m' hm he => vu (s := [32, 115, 104, 105, 101, 108, 100, 32] ++ qO c.shield ++ [59, 10]) (.inr rfl) hB3 km) rfl ?_)) rfl;rintro _ _ ⟨A6, c6, hB6, rfl, rfl⟩;refine vr 4 ?_
    refine zg ((xC KB rfl (.cons .here .k0) (fun m' hm he => gi hB6 VY) rfl ?_)) rfl;rintro _ _ ⟨rfl, rfl⟩;refine Ps 4 ?_;exact Ta hl2 zj ⟨_, cf hnp hkb hnm (by unfold yD; omega) h1 h2 h3, congrArg (fun t => Value.string (bs t)) (by rw [hl, hau, hsh]; simp), rfl⟩
end
section
open Wd Tp Kd
variable {m : Mp} {b c at_ d p : Nat} {A : Oa} {ws ts : List yf}
structure Za where
 A : Oa
 ca : Nat
 B : Oa
 cb : Nat
abbrev Za.v (q : Za) (x : y6) : Lv := [.string (bs x.name), .int .i64 x.least, .int .i64 x.most, .int .i64 x.copies, .slice q.A x.banned.length q.ca, .slice q.B x.single.length q.cb, .int .i64 x.at_]
structure Hz (x : y6) : Prop where
 name : x.name.length <= 65536
 ban : x.banned.length <= 65537
 bans : ∀ s ∈ x.banned, s.length <= 65536
 sin : x.single.length <= 65537
 sins : ∀ s ∈ x.single, s.length <= 65536
def K8 (m : Mp) (vs : Lv) (x : y6) : Prop := ∃ q : Za, vs = q.v x /\ Hz x /\ XB m q.A q.ca x.banned /\ XB m q.B q.cb x.single
theorem K8.mono {m' : Mp} {vs : Lv} {x : y6} (h : K8 m vs x) (hl : Le m m') : K8 m' vs x := by
 obtain ⟨q, h1, h2, h3, h4⟩ := h;exact ⟨q, h1, h2, h3.mono hl, h4.mono hl⟩
def Ji (b4 : Nat) (_ : List Bt) (x : y6) (p : Nat) (e : yb) : Prop := ∃ (q : Za) (o : yb), e = yF [cel b4 (q.v x) 40, o] /\ (∀ ns, o.inv ns -> XB ns q.A q.ca x.banned /\ XB ns q.B q.cb x.single) /\ p = 0 /\ Hz x
theorem Ji.pw {b4 : Nat} : ∀ (seen : List Bt) (x : y6) (p : Nat) (e : yb), Ji b4 seen x p e -> (200 < p ↔ 200 < (fun _ : y6 => 0) x) := by
 rintro seen x p e ⟨q, o, -, -, rfl, -⟩;exact Iff.rfl
variable {bF bX off : Nat}
theorem Tl : CS Tryz.prog 87 [.pointer (some ⟨bF, off, none⟩), zS bX] m [] (fun u L' => ∃ k, u = Kz 88 [zS bX, zS k] /\ L' = [cel k [.pointer (some ⟨bF, off, none⟩)] 142]) := by
 refine yQ [.tmp 3] Tryz.func87 rfl rfl rfl ?_;refine tr 2 ?_;refine Bx 10 rfl fun b1 => ?_;exact yn [_] zj _ .p0 ⟨b1, rfl, rfl⟩
theorem Eh : CS Tryz.prog 89 [.pointer (some ⟨bF, off, none⟩), zS bX] m [] (fun u L' => ∃ k, u = Kz 90 [zS bX, zS k] /\ L' = [cel k [.pointer (some ⟨bF, off, none⟩)] 144]) := by
 refine yQ [.tmp 3] Tryz.func89 rfl rfl rfl ?_;refine tr 2 ?_;refine Bx 10 rfl fun b1 => ?_;exact yn [_] zj _ .p0 ⟨b1, rfl, rfl⟩
variable {bK n : Nat} {seen : List Bt}
theorem MO (hbox : Wc m ⟨bX, 0, none⟩ (zS b)) (hfld : Wc m ⟨bK, 0, none⟩ (.pointer (some ⟨bF, 1, none⟩))) (hw : eu m A ws) : LO m b A c ws 88 [zS bX, zS bK] (xJ n ud) (Ji bF seen) (Ji bF (seen ++ [ud])) n := by
 rintro m' hm x e at_ p ts ⟨q, o, rfl, hes, rfl, hok⟩ hp hb hn;generalize hF : xJ n ud x ts = F;unfold xJ at hF;rw [if_pos rfl] at hF;have hbx := hbox.mono hm;have hfx := hfld.mono hm;clear hbox hfld;refine ym [] Tryz.func88 rfl rfl rfl ?_;refine qS _ zN.unpack2 ?_;skip;refine tr 1 ?_;refine Db (sq [0, 1, 102, 3, 104] .done) ?_;refine Vr 0 rfl (xZ MC rfl hfx) ?_
 refine Vr 0 rfl (xZ qH rfl hbx) ?_;refine zf rfl (z8 W1 rfl .k0 (fun m1 hm1 he => qu (hw.mono (hm.trans hm1)) hp) rfl ?_ ?_) rfl
 ·rintro _ _ ⟨e', a', h1, rfl⟩;rw [h1] at hF;exact pn ⟨e', a', hF.symm, rfl⟩
 rintro _ _ ⟨v1, ts1, at1, _, h1, hp1, ⟨rfl, rfl⟩, rfl⟩;rw [h1] at hF;dsimp only [R.bind] at hF;have hl1 : 1 + ts1.length <= ts.length := (yY (ts := ts)).2 _ _ h1;clear h1;refine vB 1 ?_;refine zf rfl (xn fB rfl rfl rfl .h1 .h1 ?_) rfl;refine Vn 2 ?_;refine lr 0 (xZ qH rfl hbx) ?_;refine Bs 0 xH fun b1 => ?_
 refine Cp uK rfl .k1 (fun m1 hm1 he => xF (s := yg) (hw.mono (hm.trans hm1)) (Rd.blk (he _ (.head _))) (qA _ rfl) zb hp1) ?_ ?_
 ·rintro _ _ ⟨e', a', h1, rfl⟩;rw [h1] at hF;skip;exact pn ⟨e', a', hF.symm, rfl⟩
 rintro _ _ ⟨_, ts2, at2, _, h1, hp2, ⟨rfl, rfl⟩, rfl⟩;rw [h1] at hF;dsimp only [R.bind] at hF;have hl2 : 1 + ts2.length <= ts1.length := (zK (s := yg) (ts := ts1)).2 _ _ h1;clear h1;refine vr 1 ?_
 exact wu [] trivial _ (.cons .here (zN.pack2 (a := cel bF (Za.v q { x with least := v1 }) 40) (b := o) (.cons .h1 .p1))) ⟨{ x with least := v1 }, ts2, at2, 0, _, hF.symm, hp2, by omega, by omega, ⟨q, o, rfl, hes, rfl, ⟨hok.name, hok.ban, hok.bans, hok.sin, hok.sins⟩⟩, rfl, rfl⟩
theorem MN (hbox : Wc m ⟨bX, 0, none⟩ (zS b)) (hfld : Wc m ⟨bK, 0, none⟩ (.pointer (some ⟨bF, 2, none⟩))) (hw : eu m A ws) : LO m b A c ws 88 [zS bX, zS bK] (xJ n jG) (Ji bF seen) (Ji bF (seen ++ [jG])) n := by
 rintro m' hm x e at_ p ts ⟨q, o, rfl, hes, rfl, hok⟩ hp hb hn;generalize hF : xJ n jG x ts = F;unfold xJ at hF;rw [if_neg zb, if_pos rfl] at hF;have hbx := hbox.mono hm;have hfx := hfld.mono hm;clear hbox hfld;refine ym [] Tryz.func88 rfl rfl rfl ?_;refine qS _ zN.unpack2 ?_;skip;refine tr 1 ?_;refine Db (sq [0, 1, 102, 3, 104] .done) ?_
 refine Vr 0 rfl (xZ MC rfl hfx) ?_;refine Vr 0 rfl (xZ qH rfl hbx) ?_;refine zf rfl (z8 W1 rfl .k0 (fun m1 hm1 he => qu (hw.mono (hm.trans hm1)) hp) rfl ?_ ?_) rfl
 ·rintro _ _ ⟨e', a', h1, rfl⟩;rw [h1] at hF;exact pn ⟨e', a', hF.symm, rfl⟩
 rintro _ _ ⟨v1, ts1, at1, _, h1, hp1, ⟨rfl, rfl⟩, rfl⟩;rw [h1] at hF;dsimp only [R.bind] at hF;have hl1 : 1 + ts1.length <= ts.length := (yY (ts := ts)).2 _ _ h1;clear h1;refine vB 1 ?_;refine zf rfl (xn fB rfl rfl rfl .h1 .h2 ?_) rfl;refine Vn 2 ?_;refine lr 0 (xZ qH rfl hbx) ?_;refine Bs 0 xH fun b1 => ?_
 refine Cp uK rfl .k1 (fun m1 hm1 he => xF (s := yg) (hw.mono (hm.trans hm1)) (Rd.blk (he _ (.head _))) (qA _ rfl) zb hp1) ?_ ?_
 ·rintro _ _ ⟨e', a', h1, rfl⟩;rw [h1] at hF;skip;exact pn ⟨e', a', hF.symm, rfl⟩
 rintro _ _ ⟨_, ts2, at2, _, h1, hp2, ⟨rfl, rfl⟩, rfl⟩;rw [h1] at hF;dsimp only [R.bind] at hF;have hl2 : 1 + ts2.length <= ts1.length := (zK (s := yg) (ts := ts1)).2 _ _ h1;clear h1;refine vr 1 ?_
 exact wu [] trivial _ (.cons .here (zN.pack2 (a := cel bF (Za.v q { x with most := v1 }) 40) (b := o) (.cons .h1 .p1))) ⟨{ x with most := v1 }, ts2, at2, 0, _, hF.symm, hp2, by omega, by omega, ⟨q, o, rfl, hes, rfl, ⟨hok.name, hok.ban, hok.bans, hok.sin, hok.sins⟩⟩, rfl, rfl⟩
theorem MM (hbox : Wc m ⟨bX, 0, none⟩ (zS b)) (hfld : Wc m ⟨bK, 0, none⟩ (.pointer (some ⟨bF, 3, none⟩))) (hw : eu m A ws) : LO m b A c ws 88 [zS bX, zS bK] (xJ n vn) (Ji bF seen) (Ji bF (seen ++ [vn])) n := by
 rintro m' hm x e at_ p ts ⟨q, o, rfl, hes, rfl, hok⟩ hp hb hn;generalize hF : xJ n vn x ts = F;unfold xJ at hF;rw [if_neg zb, if_neg zb, if_pos rfl] at hF;have hbx := hbox.mono hm;have hfx := hfld.mono hm;clear hbox hfld;refine ym [] Tryz.func88 rfl rfl rfl ?_;refine qS _ zN.unpack2 ?_;skip;refine tr 1 ?_;refine Db (sq [0, 1, 102, 3, 104] .done) ?_
 refine Vr 0 rfl (xZ MC rfl hfx) ?_;refine Vr 0 rfl (xZ qH rfl hbx) ?_;refine zf rfl (z8 W1 rfl .k0 (fun m1 hm1 he => qu (hw.mono (hm.trans hm1)) hp) rfl ?_ ?_) rfl
 ·rintro _ _ ⟨e', a', h1, rfl⟩;rw [h1] at hF;exact pn ⟨e', a', hF.symm, rfl⟩
 rintro _ _ ⟨v1, ts1, at1, _, h1, hp1, ⟨rfl, rfl⟩, rfl⟩;rw [h1] at hF;dsimp only [R.bind] at hF;have hl1 : 1 + ts1.length <= ts.length := (yY (ts := ts)).2 _ _ h1;clear h1;refine vB 1 ?_;refine zf rfl (xn fB rfl rfl rfl .h1 .h3 ?_) rfl;refine Vn 2 ?_;refine lr 0 (xZ qH rfl hbx) ?_;refine Bs 0 xH fun b1 => ?_
 refine Cp uK rfl .k1 (fun m1 hm1 he => xF (s := yg) (hw.mono (hm.trans hm1)) (Rd.blk (he _ (.head _))) (qA _ rfl) zb hp1) ?_ ?_
 ·rintro _ _ ⟨e', a', h1, rfl⟩;rw [h1] at hF;skip;exact pn ⟨e', a', hF.symm, rfl⟩
 rintro _ _ ⟨_, ts2, at2, _, h1, hp2, ⟨rfl, rfl⟩, rfl⟩;rw [h1] at hF;dsimp only [R.bind] at hF;have hl2 : 1 + ts2.length <= ts1.length := (zK (s := yg) (ts := ts1)).2 _ _ h1;clear h1;refine vr 1 ?_
 exact wu [] trivial _ (.cons .here (zN.pack2 (a := cel bF (Za.v q { x with copies := v1 }) 40) (b := o) (.cons .h1 .p1))) ⟨{ x with copies := v1 }, ts2, at2, 0, _, hF.symm, hp2, by omega, by omega, ⟨q, o, rfl, hes, rfl, ⟨hok.name, hok.ban, hok.bans, hok.sin, hok.sins⟩⟩, rfl, rfl⟩
theorem ML (hbox : Wc m ⟨bX, 0, none⟩ (zS b)) (hfld : Wc m ⟨bK, 0, none⟩ (.pointer (some ⟨bF, 4, none⟩))) (hT : xU m) (hw : eu m A ws) : LO m b A c ws 90 [zS bX, zS bK] (xJ n wP) (Ji bF seen) (Ji bF (seen ++ [wP])) n := by
 rintro m' hm x e at_ p ts ⟨q, o, rfl, hes, rfl, hok⟩ hp hb hn;generalize hF : xJ n wP x ts = F;unfold xJ at hF;rw [if_neg zb, if_neg zb, if_neg zb, if_pos rfl] at hF;have hbx := hbox.mono hm;have hfx := hfld.mono hm;clear hbox hfld;refine ym [] Tryz.func90 rfl rfl rfl ?_;refine qS _ zN.unpack2 ?_;skip;refine tr 1 ?_
 refine Db (sq [0, 1, 102, 3, 104] .done) ?_;refine Vr 0 rfl (xZ Sa rfl hfx) ?_;refine Vr 0 rfl (xZ qH rfl hbx) ?_;refine zf rfl (z8 EF rfl .k0 (fun m1 hm1 he => IK (hT.mono (hm.trans hm1)) (hw.mono (hm.trans hm1)) hp hn) rfl ?_ ?_) rfl
 ·rintro _ _ ⟨e', a', h1, rfl⟩;rw [h1] at hF;exact pn ⟨e', a', hF.symm, rfl⟩
 rintro _ _ ⟨v1, ts1, at1, _, h1, hp1, ⟨K, kc, ek, rfl, rfl, hnl, hns, hK⟩, rfl⟩;rw [h1] at hF;dsimp only [R.bind] at hF;have hl1 : ts1.length <= ts.length := by have h9 := (fg n [] ts hn).2 _ _ h1; omega
 clear h1;refine vB 1 ?_;refine zf rfl (xn Lm rfl rfl rfl .h2 .h4 ?_) rfl;refine Vn 2 ?_;refine lr 0 (xZ qH rfl hbx) ?_;refine Bs 0 xH fun b1 => ?_;refine Cp uK rfl .k1 (fun m1 hm1 he => xF (s := yg) (hw.mono (hm.trans hm1)) (Rd.blk (he _ (.head _))) (qA _ rfl) zb hp1) ?_ ?_
 ·rintro _ _ ⟨e', a', h1, rfl⟩;rw [h1] at hF;skip;exact pn ⟨e', a', hF.symm, rfl⟩
 rintro _ _ ⟨_, ts2, at2, _, h1, hp2, ⟨rfl, rfl⟩, rfl⟩;rw [h1] at hF;dsimp only [R.bind] at hF;have hl2 : 1 + ts2.length <= ts1.length := (zK (s := yg) (ts := ts1)).2 _ _ h1;clear h1;refine vr 1 ?_
 exact wu [] trivial _ (.cons .here (zN.pack2 (a := cel bF (Za.v ⟨K, kc, q.B, q.cb⟩ { x with banned := v1 }) 40) (b := yF [o, ek]) (.cons .h2 (zN.pack2 (.cons .h2 .p1))))) ⟨{ x with banned := v1 }, ts2, at2, 0, _, hF.symm, hp2, by omega, by omega, ⟨⟨K, kc, q.B, q.cb⟩, yF [o, ek], rfl, fun ns h => ⟨hK ns (h.1 _ (.tail _ (.head _))), (hes ns (h.1 _ (.head _))).2⟩, rfl, ⟨hok.name, hnl, hns, hok.sin, hok.sins⟩⟩, rfl, rfl⟩
theorem MK (hbox : Wc m ⟨bX, 0, none⟩ (zS b)) (hfld : Wc m ⟨bK, 0, none⟩ (.pointer (some ⟨bF, 5, none⟩))) (hT : xU m) (hw : eu m A ws) : LO m b A c ws 90 [zS bX, zS bK] (xJ n vK) (Ji bF seen) (Ji bF (seen ++ [vK])) n := by
 rintro m' hm x e at_ p ts ⟨q, o, rfl, hes, rfl, hok⟩ hp hb hn;generalize hF : xJ n vK x ts = F;unfold xJ at hF;rw [if_neg zb, if_neg zb, if_neg zb, if_neg zb] at hF;have hbx := hbox.mono hm;have hfx := hfld.mono hm;clear hbox hfld;refine ym [] Tryz.func90 rfl rfl rfl ?_;refine qS _ zN.unpack2 ?_;skip;refine tr 1 ?_
 refine Db (sq [0, 1, 102, 3, 104] .done) ?_;refine Vr 0 rfl (xZ Sa rfl hfx) ?_;refine Vr 0 rfl (xZ qH rfl hbx) ?_;refine zf rfl (z8 EF rfl .k0 (fun m1 hm1 he => IK (hT.mono (hm.trans hm1)) (hw.mono (hm.trans hm1)) hp hn) rfl ?_ ?_) rfl
 ·rintro _ _ ⟨e', a', h1, rfl⟩;rw [h1] at hF;exact pn ⟨e', a', hF.symm, rfl⟩
 rintro _ _ ⟨v1, ts1, at1, _, h1, hp1, ⟨K, kc, ek, rfl, rfl, hnl, hns, hK⟩, rfl⟩;rw [h1] at hF;dsimp only [R.bind] at hF;have hl1 : ts1.length <= ts.length := by have h9 := (fg n [] ts hn).2 _ _ h1; omega
 clear h1;refine vB 1 ?_;refine zf rfl (xn Lm rfl rfl rfl .h2 .h5 ?_) rfl;refine Vn 2 ?_;refine lr 0 (xZ qH rfl hbx) ?_;refine Bs 0 xH fun b1 => ?_;refine Cp uK rfl .k1 (fun m1 hm1 he => xF (s := yg) (hw.mono (hm.trans hm1)) (Rd.blk (he _ (.head _))) (qA _ rfl) zb hp1) ?_ ?_
 ·rintro _ _ ⟨e', a', h1, rfl⟩;rw [h1] at hF;skip;exact pn ⟨e', a', hF.symm, rfl⟩
 rintro _ _ ⟨_, ts2, at2, _, h1, hp2, ⟨rfl, rfl⟩, rfl⟩;rw [h1] at hF;dsimp only [R.bind] at hF;have hl2 : 1 + ts2.length <= ts1.length := (zK (s := yg) (ts := ts1)).2 _ _ h1;clear h1;refine vr 1 ?_
 exact wu [] trivial _ (.cons .here (zN.pack2 (a := cel bF (Za.v ⟨q.A, q.ca, K, kc⟩ { x with single := v1 }) 40) (b := yF [o, ek]) (.cons .h2 (zN.pack2 (.cons .h2 .p1))))) ⟨{ x with single := v1 }, ts2, at2, 0, _, hF.symm, hp2, by omega, by omega, ⟨⟨q.A, q.ca, K, kc⟩, yF [o, ek], rfl, fun ns h => ⟨(hes ns (h.1 _ (.head _))).1, hK ns (h.1 _ (.tail _ (.head _)))⟩, rfl, ⟨hok.name, hok.ban, hok.bans, hnl, hns⟩⟩, rfl, rfl⟩
abbrev j8 : Nat -> Bt
 | 0 => ud
 | 1 => jG
 | 2 => vn
 | 3 => wP
 | _ => vK
abbrev Um (j : Nat) : FuncId := if j < 3 then 88 else 90
abbrev vF (bX : Nat) (β : Nat -> Nat) (js : List Nat) : List (Bt × FuncId × Lv) := js.map fun j => (j8 j, Um j, [zS bX, zS (β j)])
variable {js : List Nat} {β : Nat -> Nat}
theorem Er : ∀ k ∈ vF bX β js, yX Tryz.prog k.2.1 = true := fun k hk => by
 obtain ⟨j, -, rfl⟩ := List.mem_map.1 hk;show yX Tryz.prog (if j < 3 then 88 else 90) = true
 split
 ·exact Ch
 ·exact Cg
theorem Eq (hjs : ∀ j ∈ js, j < 5) (hbox : Wc m ⟨bX, 0, none⟩ (zS b)) (hf : ∀ j ∈ js, Wc m ⟨β j, 0, none⟩ (.pointer (some ⟨bF, j + 1, none⟩))) (hT : xU m) (hw : eu m A ws) :
  ∀ k ∈ vF bX β js, ∀ seen, k.1 ∉ seen -> LO m b A c ws k.2.1 k.2.2 (xJ n k.1) (Ji bF seen) (Ji bF (seen ++ [k.1])) n := fun k hk seen hs => by
 obtain ⟨j, hj, rfl⟩ := List.mem_map.1 hk;have h5 := hjs j hj;have hfj := hf j hj;clear hk hs hjs hf hj
 match j, h5 with
 | 0, _ => exact MO hbox hfj hw
 | 1, _ => exact MN hbox hfj hw
 | 2, _ => exact MM hbox hfj hw
 | 3, _ => exact ML hbox hfj hT hw
 | 4, _ => exact MK hbox hfj hT hw
end
section
open Wd Tp Kd
noncomputable def drawsOf : Code -> List (List Oper)
 | .seq a b => drawsOf a ++ drawsOf b
 | .block _ c => drawsOf c
 | .scope c => drawsOf c
 | .loop c => drawsOf c
 | .cond _ a b => drawsOf a ++ drawsOf b
 | .region _ l true => [l.toList]
 | _ => []
noncomputable def l21 : List Oper := ((Tryz.f53.body.map drawsOf).getD []).headD []
structure fI where
 mm : Bool
 k : Nat
 b0 : Bool
 b1 : Bool
 b2 : Bool
 b3 : Bool
 b4 : Bool
 mv : Bool
 fin : Bool
def fI.bit (s : fI) : Nat -> Bool
 | 0 => s.b0
 | 1 => s.b1
 | 2 => s.b2
 | 3 => s.b3
 | 4 => s.b4
 | _ => false
def fI.lst (s : fI) : Array Bool := #[true, s.mm, true, true, Nat.blt 0 s.k, s.b0, true, true, Nat.blt 1 s.k, s.b1, true, true, Nat.blt 2 s.k, s.b2, true, true, Nat.blt 3 s.k, s.b3, true, true, Nat.blt 4 s.k, s.b4, s.mv, s.fin]
def nB : Bool -> Nat
 | true => 0
 | false => 1
def fI.mu (s : fI) : Nat := nB s.mm + (5 - s.k) + nB s.b0 + nB s.b1 + nB s.b2 + nB s.b3 + nB s.b4 + nB s.mv + nB s.fin
def fI.all (s : fI) : Bool := s.b0 && s.b1 && s.b2 && s.b3 && s.b4
def fI.ok (s : fI) : Bool := Nat.ble s.k 5 && (!s.b0 || (s.mm && Nat.blt 0 s.k)) && (!s.b1 || (s.mm && Nat.blt 1 s.k)) && (!s.b2 || (s.mm && Nat.blt 2 s.k)) && (!s.b3 || (s.mm && Nat.blt 3 s.k)) && (!s.b4 || (s.mm && Nat.blt 4 s.k)) && (!s.mv || s.all) && (!s.fin || s.mv)
def fI.nx (s : fI) (i : Nat) : Bool := (Nat.beq i 1 && !s.mm) || ((Nat.beq i (4 + 4 * s.k) && Nat.blt s.k 5) || ((Nat.beq i 5 && (s.mm && Nat.blt 0 s.k && !s.b0)) || ((Nat.beq i 9 && (s.mm && Nat.blt 1 s.k && !s.b1)) || ((Nat.beq i 13 && (s.mm && Nat.blt 2 s.k && !s.b2)) || ((Nat.beq i 17 && (s.mm && Nat.blt 3 s.k && !s.b3)) || ((Nat.beq i 21 && (s.mm && Nat.blt 4 s.k && !s.b4)) || ((Nat.beq i 22 && (s.all && !s.mv)) || (Nat.beq i 23 && (s.mv && !s.fin)))))))))
def fI.nxt (s : fI) : Nat -> fI
 | 1 => { s with mm := true }
 | 5 => { s with b0 := true }
 | 9 => { s with b1 := true }
 | 13 => { s with b2 := true }
 | 17 => { s with b3 := true }
 | 21 => { s with b4 := true }
 | 22 => { s with mv := true }
 | 23 => { s with fin := true }
 | _ => { s with k := s.k + 1 }
noncomputable def fI.chk (s : fI) : Bool := !s.ok || (fun r => (r.all fun i => s.nx i && ((s.nxt i).ok && ((s.nxt i).lst.toList == (s.lst.setIfInBounds i true).toList && Nat.beq ((s.nxt i).mu + 1) s.mu))) && (s.fin == r.isEmpty)) (Region.ready .any l21.toArray s.lst)
abbrev dv : List Bool := [true, false]
theorem jM (b : Bool) : b ∈ dv := by cases b <;> decide
theorem Fg : (dv.all fun mk => dv.all fun b0 => dv.all fun b1 => dv.all fun b2 => dv.all fun b3 => dv.all fun b4 => dv.all fun mv => dv.all fun fin => (List.range 6).all fun k => fI.chk ⟨mk, k, b0, b1, b2, b3, b4, mv, fin⟩) = true := zi
theorem Rm (s : fI) : s.chk = true := by
 obtain ⟨mk, k, b0, b1, b2, b3, b4, mv, fin⟩ := s;by_cases hk : k < 6
 ·have h := Fg;simp only [List.all_eq_true] at h;exact h mk (jM _) b0 (jM _) b1 (jM _) b2 (jM _) b3 (jM _) b4 (jM _) mv (jM _) fin (jM _) k (List.mem_range.2 hk)
 ·unfold fI.chk fI.ok
  have : Nat.ble k 5 = false := by
   cases h : Nat.ble k 5 with
   | false => rfl
   | true => have := Nat.le_of_ble_eq_true h; omega
  simp [this]
variable {i : Nat} {s : fI}
theorem M5 (h : s.nx i = true) : (i = 1 /\ s.mm = false) \/ (i = 4 + 4 * s.k /\ s.k < 5) \/ (i = 5 /\ s.mm = true /\ 0 < s.k /\ s.b0 = false) \/ (i = 9 /\ s.mm = true /\ 1 < s.k /\ s.b1 = false) \/ (i = 13 /\ s.mm = true /\ 2 < s.k /\ s.b2 = false) \/ (i = 17 /\ s.mm = true /\ 3 < s.k /\ s.b3 = false) \/ (i = 21 /\ s.mm = true /\ 4 < s.k /\ s.b4 = false) \/ (i = 22 /\ s.all = true /\ s.mv = false) \/ (i = 23 /\ s.mv = true /\ s.fin = false) := by
 have hb : ∀ a b : Nat, Nat.beq a b = true ↔ a = b := fun a b => by simp
 have hl : ∀ a b : Nat, Nat.blt a b = true ↔ a < b := fun a b => by rw [Nat.blt_eq]
 unfold fI.nx at h;simp only [Bool.or_eq_true, Bool.and_eq_true, Bool.not_eq_true', hb, hl, and_assoc] at h;exact h
variable {bX : Nat} {β : Nat -> Nat}
theorem Zr : ∀ {js : List Nat} {j : Nat}, j < 5 -> (∀ i ∈ js, i < 5) -> j ∉ js -> gK (ay (vF bX β js)) (j8 j) (Kz (Um j) [zS bX, zS (β j)]) = ay (vF bX β (js ++ [j])) := by
 intro js j hj hjs hn
 have inj : ∀ a b, a < 5 -> b < 5 -> j8 a = j8 b -> a = b := by
  have h : ∀ a : Fin 5, ∀ b : Fin 5, j8 a.1 = j8 b.1 -> a.1 = b.1 := by decide
  intro a b ha hb he;exact h ⟨a, ha⟩ ⟨b, hb⟩ he
 have hnone : ∀ (l : List Nat) (n : Nat), (∀ i ∈ l, i < 5) -> j ∉ l -> vb (j8 j) n (ay (vF bX β l)) = none := by
  intro l
  induction l with
  | nil => intro n _ _; rfl
  | cons a r ih =>
    intro n h1 h2;show vb (j8 j) n ((j8 a, _) :: ay (vF bX β r)) = none;rw [vb, if_neg (fun he => h2 (by rw [inj _ _ hj (h1 a (.head _)) he]; exact .head _))];exact ih _ (fun i hi => h1 i (.tail _ hi)) fun hm => h2 (.tail _ hm)
 rw [gK, hnone js 0 hjs hn];unfold ay vF;rw [List.map_append, List.map_append]
 rfl
theorem Wg {σ : Type} {K1 K2 : List Bt} (h : ∀ k, k ∈ K1 ↔ k ∈ K2) {read : Bt -> σ -> List yf -> R σ} {parts : σ -> Nat} : ∀ (n : Nat) (seen : List Bt) (x : σ) (ts : List yf), wU K1 read parts n seen x ts = wU K2 read parts n seen x ts
 | 0, _, _, _ => rfl
 | n + 1, seen, x, ts => by
   unfold wU;have ih := Wg h (read := read) (parts := parts) n;by_cases hk : (hd ts).kind = 1 /\ (hd ts).text ∈ K1
   ·rw [if_pos hk, if_pos (show (hd ts).kind = 1 /\ (hd ts).text ∈ K2 from ⟨hk.1, (h _).1 hk.2⟩)];simp only [ih]
   ·rw [if_neg hk, if_neg (show ¬((hd ts).kind = 1 /\ (hd ts).text ∈ K2) from fun h2 => hk ⟨h2.1, (h _).2 h2.2⟩)]
theorem Ki {js : List Nat} (h : ∀ j, j ∈ js ↔ j < 5) : ∀ k, k ∈ (vF bX β js).map (·.1) ↔ k ∈ jo := fun k => by
 simp only [vF, List.map_map, List.mem_map, Function.comp]
 constructor
 ·rintro ⟨j, hj, rfl⟩;have := (h j).1 hj
  match j, this with
  | 0, _ => decide
  | 1, _ => decide
  | 2, _ => decide
  | 3, _ => decide
  | 4, _ => decide
 ·intro hk;simp only [jo, List.mem_cons, List.not_mem_nil, or_false] at hk;rcases hk with rfl | rfl | rfl | rfl | rfl
  ·exact ⟨0, (h 0).2 zb, rfl⟩
  ·exact ⟨1, (h 1).2 zb, rfl⟩
  ·exact ⟨2, (h 2).2 zb, rfl⟩
  ·exact ⟨3, (h 3).2 zb, rfl⟩
  ·exact ⟨4, (h 4).2 zb, rfl⟩
variable {m : Mp} {b c at_ d p : Nat} {A : Oa} {ws ts : List yf}
abbrev j7 (bF off : Nat) : Value := .pointer (some ⟨bF, off, none⟩)
abbrev Kl (b bF bX : Nat) : yW := [(4, zS bF), (17, zS b), (19, Kz 87 [zS bX]), (22, Kz 87 [zS bX]), (25, Kz 87 [zS bX]), (28, Kz 89 [zS bX]), (31, Kz 89 [zS bX]), (20, j7 bF 1), (23, j7 bF 2), (26, j7 bF 3), (29, j7 bF 4), (32, j7 bF 5)]
def DB (b : Nat) (A : Oa) (c : Nat) (ws : List yf) (bF : Nat) (r : R y6) (L : List yb) : Prop := ∃ x' ts' at' p' e' seen, r = .ok x' ts' /\ jT ws at' ts' /\ p' <= 200 /\ Ji bF seen x' p' e' /\ zN L [rd b A c ws at' 0 p', e']
def FIv (b : Nat) (A : Oa) (c : Nat) (ws : List yf) (at_ bF bX : Nat) (fm : yb) (r : R y6) (s : fI) (env : yW) (L : List yb) : Prop :=
 s.ok = true /\ ba (Kl b bF bX) env /\ ((s.fin = true /\ DB b A c ws bF r L) \/ (s.fin = false /\ ∃ (β : Nat -> Nat) (bx : List yb) (mb : Nat) (js : List Nat),
  zN L ((if s.mm then [uF mb (ay (vF bX β js))] else []) ++ [rd b A c ws at_ 0 0, fm, yF bx]) /\
  (∀ ns, (yF bx).inv ns -> ∀ j, j < s.k -> Wc ns ⟨β j, 0, none⟩ (j7 bF (j + 1))) /\
  (∀ j, j < s.k -> lk env (21 + 3 * j) = some (Kz (Um j) [zS bX, zS (β j)])) /\
  (s.mm = true -> lk env 18 = some (.map (some mb))) /\ (s.mv = true -> lk env 34 = some (.map (some mb))) /\ (∀ j ∈ js, j < 5) /\ (∀ j, j < 5 -> (j ∈ js ↔ s.bit j = true)) /\ (s.mm = false -> js = [])))
variable {env : yW}
theorem wK {P : Program} {n : Nat} {Q : yR} {o : Oper} {L L' : List yb} {kept : Bool} {K : yW -> List yb -> Prop} (hp : zN L L') (h : ve P n Q o env m L' kept K) : ve P n Q o env m L kept K := fun h' hs => h h' (hp m h' hs)
variable {v : Value}
theorem fU {d t : Nat} (h : d ≠ t) : lk ((d, v) :: env) t = lk env t := by
 show (match Nat.beq d t with | true => some v | false => lk env t) = _;rw [YL h]
theorem Sk {d : Nat} : lk ((d, v) :: env) d = some v := by
 show (match Nat.beq d d with | true => some v | false => lk env d) = _;rw [show Nat.beq d d = true by simp]
theorem gg {b bF d : Nat} (h : ba (Kl b bF bX) env) (hd : d = 18 \/ d = 21 \/ d = 24 \/ d = 27 \/ d = 30 \/ d = 33 \/ d = 34 \/ d = 35) : ba (Kl b bF bX) ((d, v) :: env) := by
 obtain ⟨h1, h2, h3, h4, h5, h6, h7, h8, h9, h10, h11, h12, -⟩ := h;rcases hd with rfl | rfl | rfl | rfl | rfl | rfl | rfl | rfl <;> exact ⟨h1, h2, h3, h4, h5, h6, h7, h8, h9, h10, h11, h12, trivial⟩
variable {x : Operand}
theorem NX (h : ev env x = some v) : Zb env [x] = some [v] := by simp [Zb, h]
theorem Ca {y : Operand} {w : Value} (h : ev env x = some v) (h2 : ev env y = some w) : Zb env [x, y] = some [v, w] := by simp [Zb, h, h2]
theorem Wo (h : s.ok = true) (hb : s.bit i = true) : i < s.k /\ s.mm = true := by
 have hl : ∀ a b : Nat, Nat.blt a b = true ↔ a < b := fun a b => by rw [Nat.blt_eq]
 unfold fI.ok at h;simp only [Bool.and_eq_true, Bool.or_eq_true, Bool.not_eq_true', hl] at h;obtain ⟨⟨⟨⟨⟨⟨⟨-, h0⟩, h1⟩, h2⟩, h3⟩, h4⟩, -⟩, -⟩ := h
 match i with
 | 0 => have hb : s.b0 = true := hb; rw [hb] at h0; simpa [and_comm] using h0
 | 1 => have hb : s.b1 = true := hb; rw [hb] at h1; simpa [and_comm] using h1
 | 2 => have hb : s.b2 = true := hb; rw [hb] at h2; simpa [and_comm] using h2
 | 3 => have hb : s.b3 = true := hb; rw [hb] at h3; simpa [and_comm] using h3
 | 4 => have hb : s.b4 = true := hb; rw [hb] at h4; simpa [and_comm] using h4
 | _ + 5 => cases hb
theorem D1 (h : s.ok = true) : s.k <= 5 /\ (s.mv = true -> s.all = true) /\ (s.fin = true -> s.mv = true) := by
 unfold fI.ok at h;simp only [Bool.and_eq_true, Bool.or_eq_true, Bool.not_eq_true'] at h;obtain ⟨⟨⟨⟨⟨⟨⟨h5, -⟩, -⟩, -⟩, -⟩, -⟩, hv⟩, hf⟩ := h;refine ⟨Nat.le_of_ble_eq_true h5, fun h => ?_, fun h => ?_⟩
 ·rw [h] at hv; simpa using hv
 ·rw [h] at hf; simpa using hf
theorem Pt (hok : s.ok = true) : (Region.ready .any l21.toArray s.lst = [] ↔ s.fin = true) /\ ∀ i ∈ Region.ready .any l21.toArray s.lst, s.nx i = true /\ (s.nxt i).ok = true /\ (s.nxt i).lst = s.lst.setIfInBounds i true /\ (s.nxt i).mu + 1 = s.mu := by
 have h := Rm s;unfold fI.chk at h;rw [hok, Bool.not_true, Bool.false_or, Bool.and_eq_true, List.all_eq_true] at h;obtain ⟨h1, h2⟩ := h
 constructor
 ·rw [beq_iff_eq] at h2;rw [h2, List.isEmpty_iff]
 ·intro i hi;have h3 := h1 i hi;simp only [Bool.and_eq_true, beq_iff_eq] at h3;obtain ⟨g1, g2, g3, g4⟩ := h3;exact ⟨g1, g2, Array.ext' g3, by simpa using g4⟩
theorem mu0 (hok : s.ok = true) (h : s.mu = 0) : s.fin = true := by
 unfold fI.mu at h;cases hf : s.fin with
 | true => rfl
 | false => rw [hf] at h; simp [nB] at h
theorem zN.packS {o : yb} {bx : List yb} : zN [o, yF bx] [yF (bx ++ [o])] := fun m h hs => zN.packSnoc m h ((zN.cons .h1 .p0) m h hs)
end
section
open Wd Tp Kd
variable {m : Mp} {b c at_ d p : Nat} {A : Oa} {ws ts : List yf}
variable {bX j : Nat} {js : List Nat} {k : Nat} {β : Nat -> Nat}
theorem Zo (h : j ∉ js) : vF bX (fun i => if i = j then k else β i) js = vF bX β js := by
 unfold vF;refine List.map_congr_left fun i hi => ?_;have : i ≠ j := fun e => h (e ▸ hi)
 simp [this]
theorem XX {b4 : Nat} {bx : List yb} {t : TypeId} (h : ∀ ns, (yF bx).inv ns -> ∀ i, i < j -> Wc ns ⟨β i, 0, none⟩ (j7 b4 (i + 1))) : ∀ ns, (yF (bx ++ [cel k [j7 b4 (j + 1)] t])).inv ns -> ∀ i, i < j + 1 -> Wc ns ⟨(fun i => if i = j then k else β i) i, 0, none⟩ (j7 b4 (i + 1)) := fun ns hi i hij => by
 obtain ⟨h1, h2⟩ := hi;dsimp only;by_cases he : i = j
 ·subst he;rw [if_pos rfl];exact Wc.cel (e := t) (h1 _ (List.mem_append_right _ (.head _))) rfl
 ·rw [if_neg he];exact h ns ⟨fun e he => h1 e (List.mem_append_left _ he), (List.pairwise_append.1 h2).1⟩ i za
variable {env : yW}
theorem WC {v : Value} (h : ∀ i, i < j -> lk env (21 + 3 * i) = some (Kz (Um i) [zS bX, zS (β i)])) (hv : v = Kz (Um j) [zS bX, zS k]) : ∀ i, i < j + 1 -> lk ((21 + 3 * j, v) :: env) (21 + 3 * i) = some (Kz (Um i) [zS bX, zS ((fun i => if i = j then k else β i) i)]) := fun i hij => by
 dsimp only;by_cases he : i = j
 ·subst he;rw [if_pos rfl, Sk, hv]
 ·rw [if_neg he, fU za];exact h i za
theorem ZX {s s' : fI} (h : ∀ j, j < 5 -> (j ∈ js ↔ s.bit j = true)) (he : ∀ j, j < 5 -> (s'.bit j = true ↔ s.bit j = true \/ j = k)) : ∀ j, j < 5 -> (j ∈ js ++ [k] ↔ s'.bit j = true) := fun j hj => by rw [he j hj, <- h j hj, List.mem_append, List.mem_singleton]
theorem H7 {Q : yR} {bF n0 : Nat} {x0 : y6} {fm : yb} (hbox : Wc m ⟨bX, 0, none⟩ (zS b)) (hT : xU m) (hw : eu m A ws) (hp : jT ws at_ ts) (hn : ts.length < n0) (hfm : Ji bF [] x0 0 fm) (hQp : ∀ env L e a, ((wi gp ts).bind fun _ ts => wU jo (xJ n0) (fun _ => 0) n0 [] x0 ts) = .bad e a -> QS Q (.panic (pan (WO e a))) env m L) (hQn : ∀ env L, ba (Kl b bF bX) env -> DB b A c ws bF ((wi gp ts).bind fun _ ts => wU jo (xJ n0) (fun _ => 0) n0 [] x0 ts) L -> QS Q .normal env m L) (hs : ba (Kl b bF bX) env) : ON Tryz.prog 37 l21 13 (fI.lst ⟨false, 0, false, false, false, false, false, false, false⟩) env m [rd b A c ws at_ 0 0, fm] Q := by
 have hsm := hp.small;have hlen := hp.len;generalize hF : ((wi gp ts).bind fun _ ts => wU jo (xJ n0) (fun _ => 0) n0 [] x0 ts) = F at hQp hQn
 refine Hl fI.lst fI.mu (FIv b A c ws at_ bF bX fm F) ?_ 13 ⟨false, 0, false, false, false, false, false, false, false⟩ env _ rfl ⟨rfl, hs, .inr ⟨rfl, fun _ => 0, [], 0, [], .cons .here (.cons .here (zN.nilE (.nil _))), (fun _ _ j hj => by cases hj), (fun j hj => by cases hj), (fun h => by cases h), (fun h => by cases h), (fun j hj => by cases hj), ?_, fun _ => rfl⟩⟩
 rotate_left
 ·
  have h0 : ∀ j : Fin 5, fI.bit ⟨false, 0, false, false, false, false, false, false, false⟩ j.1 = false := by decide
  intro j hj;have := h0 ⟨j, hj⟩;dsimp only at this;rw [this]
  simp
 intro s env L hi;obtain ⟨hok, hsub, hi⟩ := hi;obtain ⟨g1, g2⟩ := Pt hok;refine ⟨fun hr => ?_, fun h0 => g1.2 (mu0 hok h0), fun i hin => ?_⟩
 ·have hfin := g1.1 hr;rcases hi with ⟨_, hi⟩ | ⟨hff, _⟩
  ·exact hQn env L hsub hi
  ·rw [hfin] at hff; cases hff
 obtain ⟨hnx, hok', hlst, hmu⟩ := g2 i hin
 have hff : s.fin = false := by
  cases hf : s.fin with
  | false => rfl
  | true => rw [g1.2 hf] at hin; cases hin
 rcases hi with ⟨hf, _⟩ | ⟨_, β, bx, mb, js, hpk, hwc, hlk, h18, h34, hjs, hbit, hmm⟩
 ·rw [hff] at hf; cases hf
 have hkv := D1 hok;clear g1 g2 hin;have hsub' := hsub;obtain ⟨e4, e17, e19, e22, e25, e28, e31, e20, e23, e26, e29, e32, -⟩ := hsub'
 have hnb : ∀ j, s.k <= j -> j < 5 -> j ∉ js := fun j hj h5 hm => by
  have := (Wo hok ((hbit j h5).1 hm)).1;omega
 rcases M5 hnx with ⟨rfl, hm0⟩ | ⟨hi, hk5⟩ | ⟨rfl, hm1, hk, hb⟩ | ⟨rfl, hm1, hk, hb⟩ | ⟨rfl, hm1, hk, hb⟩ | ⟨rfl, hm1, hk, hb⟩ | ⟨rfl, hm1, hk, hb⟩ | ⟨rfl, hall, hmv⟩ | ⟨rfl, hmv, _⟩
 ·-- the map
  refine ⟨_, true, s.nxt 1, rfl, rfl, hlst, hmu, wK hpk ?_⟩;rw [hm0, if_neg zb, List.nil_append];have hj0 := hmm hm0;subst hj0;refine qT rfl fun b' => ⟨hok', gg hsub (.inl rfl), .inr ⟨hff, β, bx, b', [], zN.refl _, hwc, fun j hj => (fU za).trans (hlk j hj), fun _ => rfl, fun h => ?_, hjs, hbit, fun _ => rfl⟩⟩;have h2 := hkv.2.1 h;unfold fI.all at h2
  simp only [Bool.and_eq_true] at h2;have h3 := (Wo hok (i := 0) h2.1.1.1.1).2;rw [hm0] at h3;cases h3
 ·have hkk : s.k = 0 \/ s.k = 1 \/ s.k = 2 \/ s.k = 3 \/ s.k = 4 := by omega
  rcases hkk with hk | hk | hk | hk | hk
  ·-- a closure
   obtain rfl : i = 4 := by omega
   refine ⟨_, false, s.nxt 4, rfl, rfl, hlst, hmu, wK hpk ?_⟩;have hnj := hnb 0 za zb;refine cu (p := []) (q := [zS bX]) (vs := [j7 bF 1]) Fa e19 (NX e20) .nil (fun m' _ _ => Tl) rfl ?_;rintro _ _ ⟨k', rfl, rfl⟩
   refine ⟨hok', gg hsub zb, .inr ⟨hff, fun i => if i = 0 then k' else β i, bx ++ [cel k' [j7 bF 1] 142], mb, js, ?_, ?_, ?_, fun h => (fU zb).trans (h18 h), fun h => (fU zb).trans (h34 h), hjs, hbit, hmm⟩⟩
   ·rw [Zo hnj];show zN (cel k' [j7 bF 1] 142 :: ((if s.mm = true then [uF mb (ay (vF bX β js))] else []) ++ [rd b A c ws at_ 0 0, fm, yF bx])) ((if s.mm = true then [uF mb (ay (vF bX β js))] else []) ++ [rd b A c ws at_ 0 0, fm, yF (bx ++ [cel k' [j7 bF 1] 142])]);cases s.mm with
    | true => exact .cons .h1 (.cons .h1 (.cons .h1 zN.packS))
    | false => exact .cons .h1 (.cons .h1 zN.packS)
   ·show ∀ ns, _ -> ∀ i, i < (s.nxt 4).k -> _;rw [show (s.nxt 4).k = 0 + 1 by show s.k + 1 = _; omega];exact XX (fun ns h i hi => hwc ns h i za)
   ·show ∀ i, i < (s.nxt 4).k -> _;rw [show (s.nxt 4).k = 0 + 1 by show s.k + 1 = _; omega];exact WC (j := 0) (fun i hi => hlk i za) rfl
  ·-- a closure
   obtain rfl : i = 8 := by omega
   refine ⟨_, false, s.nxt 8, rfl, rfl, hlst, hmu, wK hpk ?_⟩;have hnj := hnb 1 za zb;refine cu (p := []) (q := [zS bX]) (vs := [j7 bF 2]) Fa e22 (NX e23) .nil (fun m' _ _ => Tl) rfl ?_;rintro _ _ ⟨k', rfl, rfl⟩
   refine ⟨hok', gg hsub zb, .inr ⟨hff, fun i => if i = 1 then k' else β i, bx ++ [cel k' [j7 bF 2] 142], mb, js, ?_, ?_, ?_, fun h => (fU zb).trans (h18 h), fun h => (fU zb).trans (h34 h), hjs, hbit, hmm⟩⟩
   ·rw [Zo hnj];show zN (cel k' [j7 bF 2] 142 :: ((if s.mm = true then [uF mb (ay (vF bX β js))] else []) ++ [rd b A c ws at_ 0 0, fm, yF bx])) ((if s.mm = true then [uF mb (ay (vF bX β js))] else []) ++ [rd b A c ws at_ 0 0, fm, yF (bx ++ [cel k' [j7 bF 2] 142])]);cases s.mm with
    | true => exact .cons .h1 (.cons .h1 (.cons .h1 zN.packS))
    | false => exact .cons .h1 (.cons .h1 zN.packS)
   ·show ∀ ns, _ -> ∀ i, i < (s.nxt 8).k -> _;rw [show (s.nxt 8).k = 1 + 1 by show s.k + 1 = _; omega];exact XX (fun ns h i hi => hwc ns h i za)
   ·show ∀ i, i < (s.nxt 8).k -> _;rw [show (s.nxt 8).k = 1 + 1 by show s.k + 1 = _; omega];exact WC (j := 1) (fun i hi => hlk i za) rfl
  ·-- a closure
   obtain rfl : i = 12 := by omega
   refine ⟨_, false, s.nxt 12, rfl, rfl, hlst, hmu, wK hpk ?_⟩;have hnj := hnb 2 za zb;refine cu (p := []) (q := [zS bX]) (vs := [j7 bF 3]) Fa e25 (NX e26) .nil (fun m' _ _ => Tl) rfl ?_;rintro _ _ ⟨k', rfl, rfl⟩
   refine ⟨hok', gg hsub zb, .inr ⟨hff, fun i => if i = 2 then k' else β i, bx ++ [cel k' [j7 bF 3] 142], mb, js, ?_, ?_, ?_, fun h => (fU zb).trans (h18 h), fun h => (fU zb).trans (h34 h), hjs, hbit, hmm⟩⟩
   ·rw [Zo hnj];show zN (cel k' [j7 bF 3] 142 :: ((if s.mm = true then [uF mb (ay (vF bX β js))] else []) ++ [rd b A c ws at_ 0 0, fm, yF bx])) ((if s.mm = true then [uF mb (ay (vF bX β js))] else []) ++ [rd b A c ws at_ 0 0, fm, yF (bx ++ [cel k' [j7 bF 3] 142])]);cases s.mm with
    | true => exact .cons .h1 (.cons .h1 (.cons .h1 zN.packS))
    | false => exact .cons .h1 (.cons .h1 zN.packS)
   ·show ∀ ns, _ -> ∀ i, i < (s.nxt 12).k -> _;rw [show (s.nxt 12).k = 2 + 1 by show s.k + 1 = _; omega];exact XX (fun ns h i hi => hwc ns h i za)
   ·show ∀ i, i < (s.nxt 12).k -> _;rw [show (s.nxt 12).k = 2 + 1 by show s.k + 1 = _; omega];exact WC (j := 2) (fun i hi => hlk i za) rfl
  ·-- a closure
   obtain rfl : i = 16 := by omega
   refine ⟨_, false, s.nxt 16, rfl, rfl, hlst, hmu, wK hpk ?_⟩;have hnj := hnb 3 za zb;refine cu (p := []) (q := [zS bX]) (vs := [j7 bF 4]) EG e28 (NX e29) .nil (fun m' _ _ => Eh) rfl ?_;rintro _ _ ⟨k', rfl, rfl⟩
   refine ⟨hok', gg hsub zb, .inr ⟨hff, fun i => if i = 3 then k' else β i, bx ++ [cel k' [j7 bF 4] 144], mb, js, ?_, ?_, ?_, fun h => (fU zb).trans (h18 h), fun h => (fU zb).trans (h34 h), hjs, hbit, hmm⟩⟩
   ·rw [Zo hnj];show zN (cel k' [j7 bF 4] 144 :: ((if s.mm = true then [uF mb (ay (vF bX β js))] else []) ++ [rd b A c ws at_ 0 0, fm, yF bx])) ((if s.mm = true then [uF mb (ay (vF bX β js))] else []) ++ [rd b A c ws at_ 0 0, fm, yF (bx ++ [cel k' [j7 bF 4] 144])]);cases s.mm with
    | true => exact .cons .h1 (.cons .h1 (.cons .h1 zN.packS))
    | false => exact .cons .h1 (.cons .h1 zN.packS)
   ·show ∀ ns, _ -> ∀ i, i < (s.nxt 16).k -> _;rw [show (s.nxt 16).k = 3 + 1 by show s.k + 1 = _; omega];exact XX (fun ns h i hi => hwc ns h i za)
   ·show ∀ i, i < (s.nxt 16).k -> _;rw [show (s.nxt 16).k = 3 + 1 by show s.k + 1 = _; omega];exact WC (j := 3) (fun i hi => hlk i za) rfl
  ·-- a closure
   obtain rfl : i = 20 := by omega
   refine ⟨_, false, s.nxt 20, rfl, rfl, hlst, hmu, wK hpk ?_⟩;have hnj := hnb 4 za zb;refine cu (p := []) (q := [zS bX]) (vs := [j7 bF 5]) EG e31 (NX e32) .nil (fun m' _ _ => Eh) rfl ?_;rintro _ _ ⟨k', rfl, rfl⟩
   refine ⟨hok', gg hsub zb, .inr ⟨hff, fun i => if i = 4 then k' else β i, bx ++ [cel k' [j7 bF 5] 144], mb, js, ?_, ?_, ?_, fun h => (fU zb).trans (h18 h), fun h => (fU zb).trans (h34 h), hjs, hbit, hmm⟩⟩
   ·rw [Zo hnj];show zN (cel k' [j7 bF 5] 144 :: ((if s.mm = true then [uF mb (ay (vF bX β js))] else []) ++ [rd b A c ws at_ 0 0, fm, yF bx])) ((if s.mm = true then [uF mb (ay (vF bX β js))] else []) ++ [rd b A c ws at_ 0 0, fm, yF (bx ++ [cel k' [j7 bF 5] 144])]);cases s.mm with
    | true => exact .cons .h1 (.cons .h1 (.cons .h1 zN.packS))
    | false => exact .cons .h1 (.cons .h1 zN.packS)
   ·show ∀ ns, _ -> ∀ i, i < (s.nxt 20).k -> _;rw [show (s.nxt 20).k = 4 + 1 by show s.k + 1 = _; omega];exact XX (fun ns h i hi => hwc ns h i za)
   ·show ∀ i, i < (s.nxt 20).k -> _;rw [show (s.nxt 20).k = 4 + 1 by show s.k + 1 = _; omega];exact WC (j := 4) (fun i hi => hlk i za) rfl
 ·-- a rule is laid
  refine ⟨_, false, s.nxt 5, rfl, rfl, hlst, hmu, wK hpk ?_⟩;rw [hm1, if_pos rfl];have hnj : 0 ∉ js := fun h => by have h2 : s.b0 = true := (hbit 0 zb).1 h; rw [hb] at h2; cases h2
  refine vJ (k := j8 0) gC (h18 hm1) rfl (hlk 0 hk) .here ?_;rw [Zr zb hjs hnj];refine ⟨hok', hsub, .inr ⟨hff, β, bx, mb, js ++ [0], ?_, hwc, hlk, h18, h34, fun i hi => ?_, ZX (s := s) hbit ?_, fun h => ?_⟩⟩
  ·show zN _ ((if s.mm = true then [uF mb (ay (vF bX β (js ++ [0])))] else []) ++ [rd b A c ws at_ 0 0, fm, yF bx]);rw [hm1, if_pos rfl];exact zN.refl _
  ·rcases List.mem_append.1 hi with h | h
   ·exact hjs i h
   ·rw [List.mem_singleton.1 h]; decide
  ·intro i hi5;have hi : i = 0 \/ i = 1 \/ i = 2 \/ i = 3 \/ i = 4 := by omega
   rcases hi with rfl | rfl | rfl | rfl | rfl <;> simp [fI.bit, fI.nxt]
  ·have h : s.mm = false := h;rw [hm1] at h;cases h
 ·-- a rule is laid
  refine ⟨_, false, s.nxt 9, rfl, rfl, hlst, hmu, wK hpk ?_⟩;rw [hm1, if_pos rfl];have hnj : 1 ∉ js := fun h => by have h2 : s.b1 = true := (hbit 1 zb).1 h; rw [hb] at h2; cases h2
  refine vJ (k := j8 1) gC (h18 hm1) rfl (hlk 1 hk) .here ?_;rw [Zr zb hjs hnj];refine ⟨hok', hsub, .inr ⟨hff, β, bx, mb, js ++ [1], ?_, hwc, hlk, h18, h34, fun i hi => ?_, ZX (s := s) hbit ?_, fun h => ?_⟩⟩
  ·show zN _ ((if s.mm = true then [uF mb (ay (vF bX β (js ++ [1])))] else []) ++ [rd b A c ws at_ 0 0, fm, yF bx]);rw [hm1, if_pos rfl];exact zN.refl _
  ·rcases List.mem_append.1 hi with h | h
   ·exact hjs i h
   ·rw [List.mem_singleton.1 h]; decide
  ·intro i hi5;have hi : i = 0 \/ i = 1 \/ i = 2 \/ i = 3 \/ i = 4 := by omega
   rcases hi with rfl | rfl | rfl | rfl | rfl <;> simp [fI.bit, fI.nxt]
  ·have h : s.mm = false := h;rw [hm1] at h;cases h
 ·-- a rule is laid
  refine ⟨_, false, s.nxt 13, rfl, rfl, hlst, hmu, wK hpk ?_⟩;rw [hm1, if_pos rfl];have hnj : 2 ∉ js := fun h => by have h2 : s.b2 = true := (hbit 2 zb).1 h; rw [hb] at h2; cases h2
  refine vJ (k := j8 2) gC (h18 hm1) rfl (hlk 2 hk) .here ?_;rw [Zr zb hjs hnj];refine ⟨hok', hsub, .inr ⟨hff, β, bx, mb, js ++ [2], ?_, hwc, hlk, h18, h34, fun i hi => ?_, ZX (s := s) hbit ?_, fun h => ?_⟩⟩
  ·show zN _ ((if s.mm = true then [uF mb (ay (vF bX β (js ++ [2])))] else []) ++ [rd b A c ws at_ 0 0, fm, yF bx]);rw [hm1, if_pos rfl];exact zN.refl _
  ·rcases List.mem_append.1 hi with h | h
   ·exact hjs i h
   ·rw [List.mem_singleton.1 h]; decide
  ·intro i hi5;have hi : i = 0 \/ i = 1 \/ i = 2 \/ i = 3 \/ i = 4 := by omega
   rcases hi with rfl | rfl | rfl | rfl | rfl <;> simp [fI.bit, fI.nxt]
  ·have h : s.mm = false := h;rw [hm1] at h;cases h
 ·-- a rule is laid
  refine ⟨_, false, s.nxt 17, rfl, rfl, hlst, hmu, wK hpk ?_⟩;rw [hm1, if_pos rfl];have hnj : 3 ∉ js := fun h => by have h2 : s.b3 = true := (hbit 3 zb).1 h; rw [hb] at h2; cases h2
  refine vJ (k := j8 3) gC (h18 hm1) rfl (hlk 3 hk) .here ?_;rw [Zr zb hjs hnj];refine ⟨hok', hsub, .inr ⟨hff, β, bx, mb, js ++ [3], ?_, hwc, hlk, h18, h34, fun i hi => ?_, ZX (s := s) hbit ?_, fun h => ?_⟩⟩
  ·show zN _ ((if s.mm = true then [uF mb (ay (vF bX β (js ++ [3])))] else []) ++ [rd b A c ws at_ 0 0, fm, yF bx]);rw [hm1, if_pos rfl];exact zN.refl _
  ·rcases List.mem_append.1 hi with h | h
   ·exact hjs i h
   ·rw [List.mem_singleton.1 h]; decide
  ·intro i hi5;have hi : i = 0 \/ i = 1 \/ i = 2 \/ i = 3 \/ i = 4 := by omega
   rcases hi with rfl | rfl | rfl | rfl | rfl <;> simp [fI.bit, fI.nxt]
  ·have h : s.mm = false := h;rw [hm1] at h;cases h
 ·-- a rule is laid
  refine ⟨_, false, s.nxt 21, rfl, rfl, hlst, hmu, wK hpk ?_⟩;rw [hm1, if_pos rfl];have hnj : 4 ∉ js := fun h => by have h2 : s.b4 = true := (hbit 4 zb).1 h; rw [hb] at h2; cases h2
  refine vJ (k := j8 4) gC (h18 hm1) rfl (hlk 4 hk) .here ?_;rw [Zr zb hjs hnj];refine ⟨hok', hsub, .inr ⟨hff, β, bx, mb, js ++ [4], ?_, hwc, hlk, h18, h34, fun i hi => ?_, ZX (s := s) hbit ?_, fun h => ?_⟩⟩
  ·show zN _ ((if s.mm = true then [uF mb (ay (vF bX β (js ++ [4])))] else []) ++ [rd b A c ws at_ 0 0, fm, yF bx]);rw [hm1, if_pos rfl];exact zN.refl _
  ·rcases List.mem_append.1 hi with h | h
   ·exact hjs i h
   ·rw [List.mem_singleton.1 h]; decide
  ·intro i hi5;have hi : i = 0 \/ i = 1 \/ i = 2 \/ i = 3 \/ i = 4 := by omega
   rcases hi with rfl | rfl | rfl | rfl | rfl <;> simp [fI.bit, fI.nxt]
  ·have h : s.mm = false := h;rw [hm1] at h;cases h
 ·-- the map is handed on
  refine ⟨_, true, s.nxt 22, rfl, rfl, hlst, hmu, wK hpk ?_⟩
  have hmm1 : s.mm = true := by
   unfold fI.all at hall;simp only [Bool.and_eq_true] at hall;exact (Wo hok (i := 0) hall.1.1.1.1).2
  refine vg (fun h _ => (z7 (show ev env (.tmp 18) = _ from h18 hmm1)).read) rfl rfl ⟨hok', gg hsub zb, .inr ⟨hff, β, bx, mb, js, zN.refl _, hwc, fun j hj => (fU (by have : s.k <= 5 := hkv.1; have : j < s.k := hj; omega)).trans (hlk j hj), fun h => (fU zb).trans (h18 h), fun _ => Sk, hjs, hbit, hmm⟩⟩
 ·-- the rules are read
  have hall := hkv.2.1 hmv
  have hall5 : ∀ j, j ∈ js ↔ j < 5 := fun j => by
   refine ⟨hjs j, fun h => (hbit j h).2 ?_⟩;unfold fI.all at hall;simp only [Bool.and_eq_true] at hall;obtain ⟨⟨⟨⟨h0, h1⟩, h2⟩, h3⟩, h4⟩ := hall
   match j, h with
   | 0, _ => exact h0
   | 1, _ => exact h1
   | 2, _ => exact h2
   | 3, _ => exact h3
   | 4, _ => exact h4
  have hmm1 : s.mm = true := (Wo hok ((hbit 0 zb).1 ((hall5 0).2 zb))).2
  have hk5 : s.k = 5 := by
   have := (Wo hok ((hbit 4 zb).1 ((hall5 4).2 zb))).1;have := hkv.1;omega
  refine ⟨_, false, s.nxt 23, rfl, rfl, hlst, hmu, wK hpk ?_⟩;rw [hmm1, if_pos rfl];have hKE : ∀ ts', wU ((vF bX β js).map (·.1)) (xJ n0) (fun _ => 0) n0 [] x0 ts' = wU jo (xJ n0) (fun _ => 0) n0 [] x0 ts' := fun ts' => Wg (Ki hall5) n0 [] x0 ts'
  have hFE : ((wi gp ts).bind fun _ ts => wU ((vF bX β js).map (·.1)) (xJ n0) (fun _ => 0) n0 [] x0 ts) = F := by
   rw [<- hF]
   congr 1
   funext _ ts'
   exact hKE ts'
  refine z8 Fb (Ca e17 (h34 hmv)) (.cons .h1 .k1) (fun m' hm he => U5 (n := n0) (parts := fun _ => 0) (read := xJ n0) (I := Ji bF) (keys := vF bX β js) (gG.of (he _ (.head _))) Er (Eq hjs (hbox.mono hm) (fun j hj => hwc m' (he _ (.tail _ (.head _))) j (by have := hjs j hj; omega)) (hT.mono hm) (hw.mono hm)) Ji.pw hfm (hw.mono hm) hp za hn) rfl ?_ ?_
  ·rintro _ _ ⟨e', a', h1, rfl⟩;exact hQp _ _ _ _ (hFE.symm.trans h1)
  ·rintro _ _ ⟨x', ts', at', p', e', seen, h1, hp', h200, hx', rfl, rfl⟩;exact ⟨hok', gg hsub zb, .inl ⟨rfl, x', ts', at', p', e', seen, hFE.symm.trans h1, hp', h200, hx', .cons .here .p0⟩⟩
end
section
open Wd Tp Kd
variable {m : Mp} {b c at_ d p : Nat} {A : Oa} {ws ts : List yf}
variable {n : Nat}
theorem RG {P : Program} {l : List Oper} {k : Nat} {lst lst' : Array Bool} {env : yW} {L : List yb} {Q : yR} (h : lst = lst') (hv : ON P n l k lst' env m L Q) : ON P n l k lst env m L Q := h ▸ hv
theorem ZL {at0 : Int} (hT : xU m) (hw : eu m A ws) (hp : jT ws at_ ts) (hn : ts.length < n) : Vw Tryz.prog 53 [zS b, .int .i64 at0] m [rd b A c ws at_ 0 p]
  (fun v L' => ∃ x ts' at' p' q e, Yf n at0 ts = .ok x ts' /\ jT ws at' ts' /\ p' <= 200 /\ v = .agg (Za.v q x).toArray /\ L' = [rd b A c ws at' 0 p', e] /\ Hz x /\ ∀ ns, e.inv ns -> XB ns q.A q.ca x.banned /\ XB ns q.B q.cb x.single)
  (fun v _ => ∃ e a, Yf n at0 ts = .bad e a /\ v = WO e a) := by
 generalize hF : Yf n at0 ts = F;unfold Yf at hF;have hsm := hp.small;have hlen := hp.len;refine ym [.cell 4 40] Tryz.func53 rfl rfl rfl ?_;refine tr 2 ?_;refine Bx 0 rfl fun b1 => ?_;refine Al 5 Vy fun b2 => ?_;refine Lb 0 qH .h1 ?_;refine Cp Ln rfl .k2 (fun m' hm he => Yg (hT.mono hm) (hw.mono hm) hp) ?_ ?_
 ·rintro _ _ ⟨e', a', h1, rfl⟩;rw [h1] at hF;exact pn ⟨e', a', hF.symm, rfl⟩
 rintro _ _ ⟨s, ts1, at1, _, h1, hp1, ⟨rfl, rfl⟩, rfl⟩;rw [h1] at hF;dsimp only [R.bind] at hF;have hl1 : 1 + ts1.length <= ts.length := (uq (ts := ts)).2 _ _ h1;have hs5 := eL hp h1;clear h1;refine vr 1 ?_;refine Sr 1 fB .h1 .h6 ?_;refine Sr 16 Pm .h1 .here ?_;refine Lb 2 qH .h2 ?_;refine Sr 3 fB .here .h3 ?_;refine zG .h2 (fun ns hi _ hd => ?_)
 have hbx : Wc (yj m ns) ⟨b1, 0, none⟩ (zS b) := (Wc.cel (e := 97) hi rfl).mono (yq hd);have hl2 : Le m (yj m ns) := zU _ _;clear hi hd;refine qS [rd b A c ws at1 0 0, yF [cel b2 (Za.v ⟨none, 0, none, 0⟩ ⟨s, 0, 0, 0, [], [], at0⟩) 40, yF []]] (.cons .here (zN.pack2 (.cons .here (zN.nilE (.nil _))))) ?_;refine OU mixed ?_
 refine OM (i := 0) rfl zi (fun _ _ _ _ hq => hq) (fun h hs => xZ qH rfl hbx h hs) rfl rfl rfl ?_;refine jl (i := 2) rfl zi (fun _ _ _ _ hq => hq) (z7 rfl) rfl rfl rfl ?_;refine jl (i := 3) rfl zi (fun _ _ _ _ hq => hq) (zn TV rfl) rfl rfl rfl ?_
 refine jl (i := 6) rfl zi (fun _ _ _ _ hq => hq) (z7 rfl) rfl rfl rfl ?_;refine jl (i := 7) rfl zi (fun _ _ _ _ hq => hq) (zn TU rfl) rfl rfl rfl ?_;refine jl (i := 10) rfl zi (fun _ _ _ _ hq => hq) (z7 rfl) rfl rfl rfl ?_
 refine jl (i := 11) rfl zi (fun _ _ _ _ hq => hq) (zn TT rfl) rfl rfl rfl ?_;refine jl (i := 14) rfl zi (fun _ _ _ _ hq => hq) (z7 rfl) rfl rfl rfl ?_;refine jl (i := 15) rfl zi (fun _ _ _ _ hq => hq) (zn TR rfl) rfl rfl rfl ?_
 refine jl (i := 18) rfl zi (fun _ _ _ _ hq => hq) (z7 rfl) rfl rfl rfl ?_;refine jl (i := 19) rfl zi (fun _ _ _ _ hq => hq) (zn TQ rfl) rfl rfl rfl ?_;refine RG (lst' := fI.lst ⟨false, 0, false, false, false, false, false, false, false⟩) zi ?_
 refine H7 (x0 := ⟨s, 0, 0, 0, [], [], at0⟩) (n0 := n) hbx (hT.mono hl2) (hw.mono hl2) hp1 za ⟨⟨none, 0, none, 0⟩, yF [], rfl, fun ns _ => ⟨XB.z _, XB.z _⟩, rfl, ⟨hs5, Nat.zero_le _, fun _ h => (by cases h), Nat.zero_le _, fun _ h => (by cases h)⟩⟩ ?_ ?_ SZ
 ·intro env L e' a' h1;exact pW hl2 ⟨e', a', hF.symm.trans h1, rfl⟩
 ·rintro env L hsub ⟨x, ts9, at9, p9, e9, seen, h1, hp9, h200, ⟨q, o, rfl, hes, rfl, hok⟩, hpk⟩;refine qt 1 ?_;refine RJ [(4, zS b2)] ⟨hsub.1, trivial⟩ ?_;refine qS _ hpk ?_;refine qS _ zN.unpack2 ?_;refine tr 2 ?_;refine Lc 0 gx .h1 ?_;refine Sg 3 gx .h1 ?_
  exact z6 hl2 [_] ⟨⟨b2, _, _, _, rfl, .h1, .inr ⟨rfl, rfl⟩⟩, trivial⟩ _ (.cons .here .p1) ⟨x, ts9, at9, _, q, o, hF.symm.trans h1, hp9, h200, rfl, rfl, hok, hes⟩
end
namespace Wd
open Go Go.Eng
def Cb : Bt := [195, 137, 108, 97, 110, 39]
def w1 : List yf := [⟨1, [99, 97, 114, 100], 0, 0⟩, ⟨1, Cb, 0, 5⟩, ⟨2, [], 3, 12⟩, ⟨0, [], 0, 17⟩]
end Wd
namespace Wd
open Go Go.Eng
inductive KU (s : Bt) : Nat -> List yf -> Prop
 | stop {p : Nat} (h : ¬ p < s.length) : KU s p [⟨0, [], 0, s.length⟩]
 | step {p q : Nat} {us ws : List yf} (hp : p < s.length) (h : wA s p = .next q us) (t : KU s q ws) : KU s p (us ++ ws)
variable {s : Bt}
theorem NI : ∀ {p : Nat} {acc ws : List yf}, Xy s p acc = .ok ws -> ∃ r, ws = acc ++ r /\ KU s p r := by
 intro p acc
 fun_induction Xy s p acc with
 | case1 => intro ws h; cases h
 | case2 p acc hp q us h hq ih =>
   intro ws hw;obtain ⟨r, h1, h2⟩ := ih hw;exact ⟨us ++ r, by rw [h1, List.append_assoc], .step hp h h2⟩
 | case3 p acc hp q us h hq => exact absurd (qq hp h).1 hq
 | case4 => intro ws h; cases h; exact ⟨_, rfl, .stop ‹_›⟩
inductive O2 (s : Bt) (p q : Nat) : List yf -> Prop
 | none : O2 s p q []
 | name (h : xN ((rn s p).getD (0, 0)).1 = true) (hq : (yZ s p 0).1 = q) : O2 s p q [⟨1, JD s p q, 0, p⟩]
 | num (n : Nat) (h : vT (xI s p) = true) (hd : q6 s p 0 = (q, n)) (hz : ¬ (xI s p = 48 /\ p + 1 < q)) (hn : n <= 999) : O2 s p q [⟨2, [], n, p⟩]
 | mark (m : Bt) (h : WB (s.drop p) = some m) (hq : q = p + m.length) : O2 s p q [⟨3, m, 0, p⟩]
variable {p : Nat}
theorem V1 {q : Nat} {us : List yf} (h : wA s p = .next q us) : O2 s p q us := by
 unfold wA at h
 split at h
 ·cases h
 ·rename_i x k hr
  split at h
  ·cases h; exact .none
  ·split at h
   ·split at h
    ·cases h
    ·cases h; exact .none
   ·split at h
    ·rename_i hl
     unfold au at h
     split at h
     ·cases h
     ·cases h; exact .name (by rw [hr]; exact hl) rfl
    ·split at h
     ·rename_i hd
      have hx := ZQ hd;have hpos := ue hr;have hxe : x = xI s p := by omega
      unfold ag at h
      split at h
      ·cases h
      ·rename_i hz
       split at h
       ·cases h
       ·cases h; exact .num _ (hxe ▸ hd) rfl hz za
     ·unfold eE at h
      split at h
      ·cases h
      ·rename_i m hm
       cases h; exact .mark m hm rfl
variable {ws : List yf}
theorem KU.len (h : KU s p ws) : ws.length <= s.length - p + 1 := by
 induction h with
 | stop => simp
 | step hp h t ih =>
   have h1 := (qq hp h).1;cases V1 h <;> simp <;> omega
theorem YC (h : gN s = .ok ws) : s.length <= 65536 /\ KU s 0 ws := by
 unfold gN at h
 split at h
 ·cases h
 ·obtain ⟨r, h1, h2⟩ := NI h;exact ⟨by omega, by rw [h1]; exact h2⟩
theorem N5 (h : gN s = .ok ws) : ws.length <= 65537 := by
 obtain ⟨h1, h2⟩ := YC h;have := h2.len;omega
end Wd
section
open Wd Tp Kd
theorem HX : ∀ t ∈ k9, t.length <= 65536 := by decide
variable {p : Nat} {s : Bt}
theorem HV {q : Nat} (h : xN ((rn s p).getD (0, 0)).1 = true) : JD s p q ≠ zL := fun he => by
 have h1 : xI s p = 40 := by
  have h2 : (JD s p q).head? = some 40 := by rw [he]; rfl
  unfold JD at h2;rw [List.head?_take] at h2
  split at h2
  ·cases h2
  ·rw [List.head?_drop] at h2;unfold xI;rw [List.getD_eq_getElem?_getD, h2]
   rfl
 rw [u6 za, h1] at h;exact absurd h zb
theorem VV (hl : s.length <= 65536) : ∀ {p : Nat} {ws : List yf}, KU s p ws -> gm ws
 | _, _, .stop _ => .last rfl
 | _, _, .step hp h t => by
   have ih := VV hl t;cases V1 h with
   | none => exact ih
   | name h1 h2 => exact .cons (show (1 : Int) ≠ 0 by decide) ⟨(by intro h; cases h), fun _ => HV h1⟩ (by show (JD s _ _).length <= _; unfold JD; rw [List.length_take, List.length_drop]; omega) ih
   | num n h1 h2 h3 h4 => exact .cons (show (2 : Int) ≠ 0 by decide) ⟨(by intro h; cases h), (by intro h; cases h)⟩ (Nat.zero_le _) ih
   | mark mk h1 h2 => exact .cons (show (3 : Int) ≠ 0 by decide) ⟨fun _ => List.mem_of_find?_eq_some h1, (by intro h; cases h)⟩ (HX _ (List.mem_of_find?_eq_some h1)) ih
theorem Rb {ws : List yf} (h : gN s = .ok ws) : jT ws 0 ws := ⟨rfl, VV (YC h).1 (YC h).2, N5 h⟩
variable {a : Nat} {e : Int}
theorem My (h : wA s p = .err e a) : e ≠ 0 := by
 unfold wA at h
 split at h
 ·cases h; decide
 ·split at h
  ·cases h
  ·split at h
   ·split at h
    ·cases h; decide
    ·cases h
   ·split at h
    ·unfold au at h
     split at h
     ·cases h; decide
     ·cases h
    ·split at h
     ·unfold ag at h
      split at h
      ·cases h; decide
      ·split at h
       ·cases h; decide
       ·cases h
     ·unfold eE at h
      split at h
      ·cases h; decide
      ·cases h
theorem TC : ∀ {p : Nat} {acc : List yf}, Xy s p acc = .error (e, a) -> e ≠ 0 := by
 intro p acc
 fun_induction Xy s p acc with
 | case1 p acc hp e' a' h => intro hw; cases hw; exact My h
 | case2 p acc hp q us h hq ih => exact ih
 | case3 p acc hp q us h hq => exact absurd (qq hp h).1 hq
 | case4 => intro h; cases h
theorem Rc (h : gN s = .error (e, a)) : e ≠ 0 := by
 unfold gN at h
 split at h
 ·cases h; decide
 ·exact TC h
def jI (s : Bt) : R ew := match gN s with
 | .error (e, a) => .bad e (a : Int)
 | .ok ws => jJ yD ws.length (ws.length + 1) [] [] ws
variable {b2 b3 d : Nat} {h : yB} {m : Mp} {x : Fx}
theorem HD {L : List yb} (hs : HS m L h) :
  CallsD Tryz.prog 49 [zS b2, zS b3].toArray .returning (W x h d) fun e u2 w' => e = .returned (.tuple #[]) /\ u2 = .returning /\ ∃ h' d' L', w' = W x h' d' /\ (L' = L) /\ HS m L' h' := by
 refine HH (post := fun _ L' => L' = L) Tryz.func49 rfl rfl rfl rfl .ret ?_ hs;refine vr 5 ?_;refine pe 7 (K6 zi rfl) ?_;exact eb [] trivial L zx rfl
theorem R0 {v1 v2 v3 v4 v : Value} {a : Int} (hv : v = WO e a) (hs : HS m [cel b3 [v3, v4] 31, cel b2 [v1, v2] 25] h) :
  CallsD Tryz.prog 49 [zS b2, zS b3].toArray (.panicking (pan v)) (W x h d) fun e' u2 w' => e' = .returned (.tuple #[]) /\ u2 = .panicking [{ v := v, recovered := true }] /\ ∃ h' d' L', w' = W x h' d' /\ (L' = [cel b3 [.int .i64 e, .int .i64 a] 31, cel b2 [.slice none 0 0, .slice none 0 0] 25]) /\ HS m L' h' := by
 subst hv;refine HH (post := fun _ L' => L' = [cel b3 [.int .i64 e, .int .i64 a] 31, cel b2 [.slice none 0 0, .slice none 0 0] 25]) Tryz.func49 rfl rfl rfl rfl (.pan _ _) ?_ hs;unfold WO;refine vr 5 ?_;refine pe 5 (Hv zi rfl) ?_;refine pe 7 (gk Ef FZ rfl) ?_;refine Al 0 wR fun b1 => ?_;refine Sg 2 y5 .here ?_
 refine yw (sT [0] (.fork (sT [201, 302, 303] .done) (sT [302, 101, 303] .done))) mixed zi (fun _ _ _ _ hq => hq) ?_;refine Vt 0 rfl (zA Z9 PH rfl rfl) ?_;refine kf ?_ ?_;refine qR rfl (wt y5 rfl .here rfl) rfl rfl rfl ?_;refine zM rfl rfl (zR jB rfl rfl rfl .h2 rfl rfl ?_) rfl
 refine zM rfl rfl (zR y5 rfl rfl rfl .h1 rfl rfl ?_) rfl;refine Vm 1 ?_
 ·exact eb [] trivial _ (.cons .h1 .p1) rfl
 ·refine zM rfl rfl (zR jB rfl rfl rfl .h2 rfl rfl ?_) rfl;refine Vu 0 rfl (wt y5 rfl .here rfl) ?_;refine zM rfl rfl (zR y5 rfl rfl rfl .h1 rfl rfl ?_) rfl;refine Vm 1 ?_;exact eb [] trivial _ (.cons .h1 .p1) rfl
end
section
open Wd Tp Kd
def Gc (m : Mp) (xs : Lv) (l : List zP) : Prop := xs.length = l.length * 12 /\ ∀ (i : Nat) (hi : i < l.length), bi m ((xs.drop (i * 12)).take 12) l[i]
variable {l : List zP} {m m' : Mp} {xs : Lv}
theorem Gc.mono (h : Gc m xs l) (hl : Le m m') : Gc m' xs l := ⟨h.1, fun i hi => (h.2 i hi).mono hl⟩
variable {ys : Lv}
theorem Gc.snoc {x : zP} (h : Gc m xs l) (hx : bi m ys x) (hy : ys.length = 12) : Gc m (xs ++ ys) (l ++ [x]) := by
 obtain ⟨h1, h2⟩ := h;refine ⟨by rw [List.length_append, List.length_append, h1, hy]; show l.length * 12 + 12 = (l.length + 1) * 12; omega, fun i hi => ?_⟩;have hi2 : i < l.length + 1 := by simpa using hi
 by_cases hlt : i < l.length
 ·rw [List.getElem_append_left hlt, List.drop_append_of_le_length za, List.take_append_of_le_length (by rw [List.length_drop]; omega)];exact h2 i hlt
 ·have : i = l.length := by omega
  subst this;rw [<- h1, List.drop_left, <- hy, List.take_length];simp only [List.getElem_concat_length];exact hx
def kM (m : Mp) (A : Oa) (l : List zP) : Prop := ∃ xs, Rd m A xs /\ Gc m xs l
variable {A : Oa}
theorem kM.mono (h : kM m A l) (hl : Le m m') : kM m' A l := by
 obtain ⟨xs, h1, h2⟩ := h;exact ⟨xs, h1.mono hl, h2.mono hl⟩
def K9 (m : Mp) (xs : Lv) (l : List y6) : Prop := xs.length = l.length * 7 /\ ∀ (i : Nat) (hi : i < l.length), K8 m ((xs.drop (i * 7)).take 7) l[i]
theorem K9.mono {l : List y6} (h : K9 m xs l) (hl : Le m m') : K9 m' xs l := ⟨h.1, fun i hi => (h.2 i hi).mono hl⟩
theorem K9.snoc {l : List y6} {x : y6} (h : K9 m xs l) (hx : K8 m ys x) (hy : ys.length = 7) : K9 m (xs ++ ys) (l ++ [x]) := by
 obtain ⟨h1, h2⟩ := h;refine ⟨by rw [List.length_append, List.length_append, h1, hy]; show l.length * 7 + 7 = (l.length + 1) * 7; omega, fun i hi => ?_⟩;have hi2 : i < l.length + 1 := by simpa using hi
 by_cases hlt : i < l.length
 ·rw [List.getElem_append_left hlt, List.drop_append_of_le_length za, List.take_append_of_le_length (by rw [List.length_drop]; omega)];exact h2 i hlt
 ·have : i = l.length := by omega
  subst this;rw [<- h1, List.drop_left, <- hy, List.take_length];simp only [List.getElem_concat_length];exact hx
def am (m : Mp) (A : Oa) (l : List y6) : Prop := ∃ xs, Rd m A xs /\ K9 m xs l
theorem am.mono {l : List y6} (h : am m A l) (hl : Le m m') : am m' A l := by
 obtain ⟨xs, h1, h2⟩ := h;exact ⟨xs, h1.mono hl, h2.mono hl⟩
abbrev DL (K : Oa) (k kc : Nat) (F : Oa) (f fc : Nat) : Value := .agg [.slice K k kc, .slice F f fc].toArray
def Z5 (r : R ew) (v : Value) (L' : List yb) : Prop :=
 (∃ bk ts K kc F fc e, r = .ok bk ts /\ v = .tuple [DL K bk.cards.length kc F bk.fmts.length fc, xb 0 0].toArray /\ L' = [e] /\ bk.cards.length <= 240 /\ bk.fmts.length <= 240 /\ ∀ ns, e.inv ns -> kM ns K bk.cards /\ am ns F bk.fmts) \/
 (∃ e a, r = .bad e a /\ v = .tuple [DL none 0 0 none 0 0, xb e a].toArray /\ L' = [])
structure FE where
 n : Nat
 at_ : Nat
 p : Nat
 ts : List yf
 cs : List zP
 fs : List y6
 K : Oa
 kc : Nat
 xs : Lv
 F : Oa
 fc : Nat
 ys : Lv
 e : yb
abbrev rB (b2 b3 : Nat) : yW := [(2, zS b2), (3, zS b3)]
def IB (b2 b3 : Nat) (s : Bt) (env : yW) (L : List yb) : Prop := ba (rB b2 b3) env /\ ∃ bk ts K kc F fc e, jI s = .ok bk ts /\ L = [cel b3 [.int .i64 0, .int .i64 0] 31, cel b2 [.slice K bk.cards.length kc, .slice F bk.fmts.length fc] 25, e] /\ bk.cards.length <= 240 /\ bk.fmts.length <= 240 /\ ∀ ns, e.inv ns -> kM ns K bk.cards /\ am ns F bk.fmts
def Tc (b2 b3 : Nat) (s : Bt) (env : yW) (v : Value) (L : List yb) : Prop := ba (rB b2 b3) env /\ ∃ e a v1 v2 v3 v4, jI s = .bad e a /\ v = WO e a /\ L = [cel b3 [v3, v4] 31, cel b2 [v1, v2] 25]
theorem RO {m : Mp} (hT : xU m) {s : Bt} (hs : s.length <= 9223372036854775807) : CS Tryz.prog 20 [.string (bs s)] m [] (Z5 (jI s)) := by
 intro h hs0 x0 d0;refine calls_of_wp_defers Tryz.func20 rfl ?_;refine Do (x := ⟨x0.tape, x0.os, x0.out, []⟩) (h := h) (d := d0) rfl (fun a hag => ?_) (Ry (by show 1 <= 102; decide))
 refine Zc (m := m) (L := []) (K := fun env' L' => ∃ b2 b3, L' = [cel b3 [.int .i64 0, .int .i64 0] 31, cel b2 [.slice none 0 0, .slice none 0 0] 25] /\ ba [(0, .string (bs s)), (2, zS b2), (3, zS b3)] env') ?_ hs0 hag ?_
 ·refine tr 1 ?_;refine Al 0 Z9 fun b1 => ?_;refine Al 1 wR fun b2 => ?_;exact Q7 _ zx ⟨b1, b2, rfl, rfl, rfl, rfl, trivial⟩
 rintro env1 _ h1 d1' a1' ⟨b2, b3, rfl, hsub⟩ hs1 hag1;have hag1 := hag1.sub hsub;cases hcut : gN s with
 | error er =>
   obtain ⟨e, a⟩ := er;have he0 := Rc hcut;have hrp : jI s = .bad e (a : Int) := by rw [jI, hcut]
   refine Md (x := ⟨x0.tape, x0.os, x0.out, []⟩) (Qr := GY m (fun env L' => ba (rB b2 b3) env /\ L' = [cel b3 [.int .i64 e, .int .i64 (a : Nat)] 31, cel b2 [.slice none 0 0, .slice none 0 0] 25]) (fun _ _ _ => False)) ?_ hs1 hag1 ?_
   ·refine tr 3 ?_;refine zg ((yK EM rfl (fun m' hm he => Pg (hT.mono hm) hs) rfl ?_)) rfl;rintro _ _ hc;rw [hcut] at hc;obtain ⟨rfl, rfl⟩ := hc;unfold xb;refine vr 4 ?_;refine Sg 6 y5 .here ?_;refine Lb 0 cI .here ?_;refine yr 4 ?_;refine yw (sT [0] (.fork (sT [201, 302, 303] .done) (sT [302, 101, 303] .done))) mixed zi (fun _ _ _ _ hq => hq) ?_
    refine Vt 0 rfl (zA Z9 PH rfl rfl) ?_;refine kf ?_ ?_;refine qR rfl (wt y5 rfl .here rfl) rfl rfl rfl ?_;refine zM rfl rfl (zR jB rfl rfl rfl .h1 rfl rfl ?_) rfl;refine zM rfl rfl (zR y5 rfl rfl rfl .here rfl rfl ?_) rfl;refine Vm 3 ?_
    ·exact Q8 (Le.refl _) [_, _] zx ⟨vv, rfl⟩
    ·refine zM rfl rfl (zR jB rfl rfl rfl .h1 rfl rfl ?_) rfl;refine Vu 0 rfl (wt y5 rfl .here rfl) ?_;refine zM rfl rfl (zR y5 rfl rfl rfl .here rfl rfl ?_) rfl;refine Vm 3 ?_;exact Q8 (Le.refl _) [_, _] zx ⟨vv, rfl⟩
   ·rintro e1 env' h' d' a' hq hag';have hdf : a'.defers = [] := hag'.defers
    have good : ∀ L', (ba (rB b2 b3) env' /\ L' = [cel b3 [.int .i64 e, .int .i64 (a : Nat)] 31, cel b2 [.slice none 0 0, .slice none 0 0] 25]) -> HS m L' h' -> Leaves Tryz.prog Tryz.f20 a'.tmps (fun e w' => ∃ v h' d', e = Ending.returned v /\ w' = W x0 h' d' /\ wB m (Z5 (jI s)) v h') [] .returning (W ⟨x0.tape, x0.os, x0.out, []⟩ h' d') := by
     rintro L' ⟨hsub, rfl⟩ hh;exact ⟨_, qC.results (rs := [.cell 2 25, .cell 3 31]) rfl hag'.toAg (cv.ok hh (vs := [_, _]) ⟨⟨_, _, _, _, hsub.1, .h1, .inr ⟨jB, rfl⟩⟩, ⟨_, _, _, _, hsub.2.1, .here, .inr ⟨y5, rfl⟩⟩, trivial⟩), _, h', d', rfl, rfl, _, .inr ⟨e, a, hrp, rfl, rfl⟩, hh.tail.tail⟩
    cases e1 with
    | normal =>
      obtain ⟨L', hp, hh⟩ := hq;show Leaves _ _ _ _ a'.defers _ _;rw [hdf];exact good _ hp hh
    | ret =>
      obtain ⟨L', hp, hh⟩ := hq;show Leaves _ _ _ _ a'.defers _ _;rw [hdf];exact good _ hp hh
    | panic c => obtain ⟨v, L', _, hf, _⟩ := hq; exact hf.elim
    | exit i => exact hq.elim
    | goto i => exact hq.elim
    | outgrown => exact hq.elim
 | ok ws =>
   have hrp : jI s = jJ yD ws.length (ws.length + 1) [] [] ws := by rw [jI, hcut]
   have hpos := Rb hcut;refine Zc (m := m) (K := fun env' L' => ∃ A c, L' = [cel b3 [.int .i64 0, .int .i64 0] 31, cel b2 [.slice none 0 0, .slice none 0 0] 25, own 101 4 A ws.length c (Ya ws)] /\ ba [(2, zS b2), (3, zS b3), (4, .slice A ws.length c)] env') ?_ hs1 hag1 ?_
   ·refine tr 2 ?_;refine zg ((yK EM rfl (fun m' hm he => Pg (hT.mono hm) hs) rfl ?_)) rfl;rintro _ _ hc;rw [hcut] at hc;obtain ⟨A, c, rfl, rfl⟩ := hc;unfold xb;refine vr 4 ?_;refine Sg 1 y5 .h1 ?_;exact Q7 _ (.cons .h1 (.cons .h1 .p0)) ⟨A, c, rfl, rfl, rfl, rfl, trivial⟩
   rintro env2 _ h2 d2' a2' ⟨A, c, rfl, hsub2⟩ hs2 hag2;have hag2 := hag2.sub hsub2;refine Zc (m := m) (K := fun env' L' => L' = [cel b3 [.int .i64 0, .int .i64 0] 31, cel b2 [.slice none 0 0, .slice none 0 0] 25, own 101 4 A ws.length c (Ya ws)] /\ ba [(2, zS b2), (3, zS b3), (4, .slice A ws.length c)] env') ?_ hs2 hag2 ?_
   ·refine tr 3 ?_;refine Lb 0 cI .here ?_;refine zH 4 ?_;exact Q7 _ zx de
   rintro env3 _ h3 d3' a3' ⟨rfl, hsub3⟩ hs3 hag3;have hag3 := hag3.sub hsub3;refine wp_seq ?_;refine Jn rfl rfl hag3 fun a5' hag5 => ?_;refine Md (x := ⟨x0.tape, x0.os, x0.out, [Pl (.func 49) [zS b2, zS b3]]⟩) (Qr := GY m (IB b2 b3 s) (Tc b2 b3 s)) ?_ hs3 hag5 ?_
   ·refine zG .h2 (fun ns hi _ hd => ?_);have hw : eu (yj m ns) A ws := (Eng.Own.rd hi).mono (yq hd);have hcap : ws.length <= c := Eng.Own.le hi;have hl2 : Le m (yj m ns) := zU _ _;have hT := hT.mono hl2;clear hi hd
    have hQk : ∀ {d : Nat} {c : _} {env : yW} {h : yB}, Nat.blt 3 d = true -> GY m (IB b2 b3 s) (Tc b2 b3 s) (.panic c) env h -> GY m (IB b2 b3 s) (Tc b2 b3 s) (.panic c) (ka d env) h := fun {d c env h} hd ⟨v, L', e, ⟨hsub, r⟩, hh⟩ => by
     rw [Nat.blt_eq] at hd;exact ⟨v, L', e, ⟨⟨(Zy za).trans hsub.1, (Zy za).trans hsub.2.1, trivial⟩, r⟩, hh⟩
    refine tr 3 ?_;refine pe 0 (zA DP D0 rfl rfl) ?_;refine Bx 5 rfl fun b1 => ?_;refine jS 48 12 ?_;refine jS 40 7 ?_
    refine yv (α := FE) (fun y => [(2, zS b2), (3, zS b3), (5, zS b1)]) (fun y => [rd b1 A c ws y.at_ 0 y.p, cel b2 [.slice y.K y.cs.length y.kc, .slice y.F y.fs.length y.fc] 25, cel b3 [.int .i64 0, .int .i64 0] 31, own 48 12 y.K y.cs.length y.kc y.xs, own 40 7 y.F y.fs.length y.fc y.ys, y.e])
     (fun y => jJ yD ws.length y.n y.cs y.fs y.ts = jI s /\ jT ws y.at_ y.ts /\ y.ts.length < y.n /\ y.cs.length <= 240 /\ y.fs.length <= 240 /\ ∀ ns, y.e.inv ns -> Gc ns y.xs y.cs /\ K9 ns y.ys y.fs) (fun y => y.n)
     ⟨ws.length + 1, 0, 0, ws, [], [], none, 0, [], none, 0, [], yF []⟩ YV (.cons .h2 (.cons .h3 (.cons .h2 (.cons .h1 (.cons .here (zN.nilE (.nil _))))))) ⟨hrp.symm, hpos, Nat.lt_succ_self _, Nat.zero_le _, Nat.zero_le _, fun ns _ => ⟨⟨rfl, fun i h => by cases h⟩, ⟨rfl, fun i h => by cases h⟩⟩⟩ ?_
    rintro ⟨j, at_, p, ts, cs, fs, K, kc, xs, F, fc, ys, e⟩ ⟨hF, hp, hj, hcs, hfs, he⟩;dsimp only at hF hp hj hcs hfs he;dsimp only;obtain ⟨j, rfl⟩ : ∃ j', j = j' + 1 := ⟨j - 1, by omega⟩;unfold jJ at hF;have hat := hp.word hw;have hA := hp.isSome hw;have hlt := hp.lt;have hsm := hp.small;have hlen := hp.len;by_cases h0 : (hd ts).kind = 0
    ·rw [if_pos h0] at hF;refine tr 2 ?_;refine co (.step 0 .pure (.step 1 .pure (.step 2 .pure (.step 4 .pure (.step 5 .pure (.step 6 .pure (.step 3 .read (.step 7 .read (.step 8 .pure (.step 9 .pure (.step 10 .read (.step 11 .pure (.done))))))))))))) mixed zi 3 zi (fun _ _ _ _ hd hq => hQk hd hq) ?_;refine vt 6 ?_;refine Vl 0 rfl gu .here ?_
     refine Vl 0 rfl yl .here ?_;refine Vt 1 rfl (zo kC rfl rfl hA za) ?_;refine Vu 0 rfl (zl ze rfl (hat.at_ rfl)) ?_;refine Vt 0 rfl (df (K5 rfl rfl) za) ?_;refine Vm 4 ?_;refine zm ?_;refine zk ?_;refine qt 3 ?_;refine Lc 0 jB .h1 ?_;refine pe 0 (zA wR kx rfl rfl) ?_;refine Sg 0 jB .h1 ?_;refine Sg 3 y5 .h2 ?_
     exact Q8 hl2 [_, _, _] (.cons .h2 (.cons .h1 (zN.pack3 (.cons .h1 (.cons .h1 .p1))))) ⟨vv, ⟨cs, fs⟩, ts, K, kc, F, fc, yF [own 48 12 K cs.length kc xs, own 40 7 F fs.length fc ys, e], hF.symm, rfl, hcs, hfs, fun ns h => ⟨⟨xs, Eng.Own.rd (h.1 _ (.head _)), (he ns (h.1 _ (.tail _ (.tail _ (.head _))))).1⟩, ⟨ys, Eng.Own.rd (h.1 _ (.tail _ (.head _))), (he ns (h.1 _ (.tail _ (.tail _ (.head _))))).2⟩⟩⟩
    rw [if_neg h0] at hF;refine tr 2 ?_;refine co (.step 0 .pure (.step 1 .pure (.step 2 .pure (.step 4 .pure (.step 5 .pure (.step 6 .pure (.step 3 .read (.step 7 .read (.step 8 .pure (.step 9 .pure (.step 10 .read (.step 11 .pure (.done))))))))))))) mixed zi 3 zi (fun _ _ _ _ hd hq => hQk hd hq) ?_;refine vt 6 ?_;refine Vl 0 rfl gu .here ?_
    refine Vl 0 rfl yl .here ?_;refine Vt 1 rfl (zo kC rfl rfl hA za) ?_;refine Vu 0 rfl (zl ze rfl (hat.at_ rfl)) ?_;refine Vt 0 rfl (dt (K5 rfl rfl) xi) ?_;refine Vm 6 ?_
    refine co (.step 0 .pure (.step 1 .pure (.step 2 .pure (.step 4 .pure (.step 5 .pure (.step 6 .pure (.step 3 .read (.step 7 .read (.step 8 .pure (.step 9 .pure (.step 10 .read (.step 11 .pure (.done))))))))))))) mixed zi 3 zi (fun _ _ _ _ hd hq => hQk hd hq) ?_;refine vt 6 ?_;refine Vl 0 rfl gu .here ?_;refine Vl 0 rfl yl .here ?_
    refine Vt 1 rfl (zo kC rfl rfl hA za) ?_;refine Vu 1 rfl (zl yl rfl (hat.at_ rfl)) ?_;refine Vm 5 ?_;refine C1 W3 rfl .here (fun m' hm he => WH (s := fa) (hw.mono hm) hp (qA _ rfl) zb) ?_;rintro _ _ ⟨rfl, rfl⟩;cases hkc : isW fa ts with
    | true =>
      by_cases hf0 : fs.length = 0
      ·rw [if_pos ⟨hkc, hf0⟩] at hF;have hnx := hp.isW hkc
       have htl : ts.tail.length + 1 = ts.length := by
        have := hnx.len;omega
       by_cases h240 : cs.length = 240
       ·rw [if_pos h240] at hF;refine vr 2 ?_;refine Lb 1 cJ .h1 ?_;refine y4 9 ?_;refine Lb 1 b8 .h1 ?_;refine y4 5 ?_;refine Cp eZ rfl .k0 (fun m' hm he => jR 3 (hw.mono hm) hp) ?_ ?_
        ·rintro _ _ rfl;refine yk ?_;refine zC ?_;refine yk ?_;exact jr hl2 [_, _] (zN.app (.cons .h1 .p0)) ⟨vv, 3, _, _, _, _, _, hF.symm, rfl, rfl⟩
        ·rintro _ _ h;exact h.elim
       rw [if_neg h240] at hF;skip;refine vr 2 ?_;refine Lb 1 cJ .h1 ?_;refine y4 9 ?_;refine Lb 1 b8 .h1 ?_;refine zH 10 ?_;refine Lb 0 yl .here ?_;refine Pa 2 ?_;refine Sr 2 fB .here .h1 ?_
       refine co (.step 0 .pure (.step 2 .pure (.step 3 .pure (.fork (.step 1 .kept (.step 4 .wild (.step 5 .kept (.step 6 .wild (.step 7 .pure (.step 8 .wild (.done))))))) (.step 4 .wild (.step 1 .read (.step 5 .kept (.step 6 .wild (.step 7 .pure (.step 8 .wild (.done))))))))))) mixed zi 3 zi (fun _ _ _ _ hd hq => hQk hd hq) ?_;refine vt 3 ?_;refine kf ?_ ?_
       refine qR rfl (yE b8 rfl .h1 rfl) rfl rfl rfl ?_
       ·refine zM rfl rfl (z8 EL rfl .k0 (fun m' hm he => Ou (n := ws.length) (hT.mono hm) (hw.mono hm) hcap hnx za) rfl ?_ ?_) rfl
        ·rintro _ _ ⟨e', a', h1, rfl⟩;rw [h1] at hF;refine yk ?_;refine zC ?_;refine yk ?_;exact jr hl2 [_, _] (zN.app (.cons .h1 .p0)) ⟨vv, e', a', _, _, _, _, hF.symm, rfl, rfl⟩
        rintro _ _ ⟨x, ts2, at2, p2, q, ek, h1, hp2, h200, rfl, rfl, hnm, hwt, hk⟩;rw [h1] at hF;dsimp only [R.bind] at hF;have hlx := (UD (parts := yD) (n := ws.length) (at_ := (hd ts).at_) (ts := ts.tail) za).2 _ _ h1;clear h1;have e1 : cs.length + 1 = (cs ++ [x]).length := by simp
        refine y7 rfl (yi Pw rfl rfl rfl rfl (fun b4 => ?_)) rfl;refine zM rfl rfl (xQ Pw rfl rfl rfl rfl .here (fun _ _ => .h5) rfl rfl (by first | omega | (simp only [maxLen]; omega)) za rfl (fun A1 c1 => ?_)) rfl;refine vt 1 ?_;refine zM rfl rfl (xn ED rfl rfl rfl .h3 .here ?_) rfl;refine Vm 2 ?_;rw [e1]
        exact QR (⟨j, at2, p2, ts2, cs ++ [x], fs, A1, c1, xs ++ q.v x, F, fc, ys, yF [ek, e]⟩ : FE) (.cons .h1 (.cons .h2 (.cons .h2 (.cons .h2 (.cons .h2 (zN.pack2 (.cons .h1 .p1)))))))
         ⟨hF, hp2, by show ts2.length < j; omega, by show (cs ++ [x]).length <= 240; rw [<- e1]; omega, hfs, fun ns h => ⟨(he ns (h.1 _ (.tail _ (.head _)))).1.snoc ⟨q, rfl, hnm, hk ns (h.1 _ (.head _))⟩ rfl, (he ns (h.1 _ (.tail _ (.head _)))).2⟩⟩ (Nat.lt_succ_self _)
       ·skip;refine zM rfl rfl (z8 EL rfl .k0 (fun m' hm he => Ou (n := ws.length) (hT.mono hm) (hw.mono hm) hcap hnx za) rfl ?_ ?_) rfl
        ·rintro _ _ ⟨e', a', h1, rfl⟩;rw [h1] at hF;refine yk ?_;refine zC ?_;refine yk ?_;exact jr hl2 [_, _] (zN.app (.cons .h1 .p0)) ⟨vv, e', a', _, _, _, _, hF.symm, rfl, rfl⟩
        rintro _ _ ⟨x, ts2, at2, p2, q, ek, h1, hp2, h200, rfl, rfl, hnm, hwt, hk⟩;rw [h1] at hF;dsimp only [R.bind] at hF;have hlx := (UD (parts := yD) (n := ws.length) (at_ := (hd ts).at_) (ts := ts.tail) za).2 _ _ h1;clear h1;have e1 : cs.length + 1 = (cs ++ [x]).length := by simp
        refine Vl 0 rfl b8 .h2 ?_;refine y7 rfl (yi Pw rfl rfl rfl rfl (fun b4 => ?_)) rfl;refine zM rfl rfl (xQ Pw rfl rfl rfl rfl .here (fun _ _ => .h5) rfl rfl (by first | omega | (simp only [maxLen]; omega)) za rfl (fun A1 c1 => ?_)) rfl;refine vt 1 ?_;refine zM rfl rfl (xn ED rfl rfl rfl .h3 .here ?_) rfl;refine Vm 2 ?_;rw [e1]
        exact QR (⟨j, at2, p2, ts2, cs ++ [x], fs, A1, c1, xs ++ q.v x, F, fc, ys, yF [ek, e]⟩ : FE) (.cons .h1 (.cons .h2 (.cons .h2 (.cons .h2 (.cons .h2 (zN.pack2 (.cons .h1 .p1)))))))
         ⟨hF, hp2, by show ts2.length < j; omega, by show (cs ++ [x]).length <= 240; rw [<- e1]; omega, hfs, fun ns h => ⟨(he ns (h.1 _ (.tail _ (.head _)))).1.snoc ⟨q, rfl, hnm, hk ns (h.1 _ (.head _))⟩ rfl, (he ns (h.1 _ (.tail _ (.head _)))).2⟩⟩ (Nat.lt_succ_self _)
      rw [if_neg (fun h => hf0 h.2)] at hF;refine vr 2 ?_;refine Lb 1 cJ .h1 ?_;refine zH 8 ?_;refine C1 W3 rfl .here (fun m' hm he => WH (s := vY) (hw.mono hm) hp (qA _ rfl) zb) ?_;rintro _ _ ⟨rfl, rfl⟩;cases hkf : isW vY ts with
      | true =>
        rw [if_pos hkf] at hF;have hnx := hp.isW hkf
        have htl : ts.tail.length + 1 = ts.length := by
         have := hnx.len;omega
        by_cases h240 : fs.length = 240
        ·rw [if_pos h240] at hF;refine vr 8 ?_;refine Lb 1 cJ .h1 ?_;refine y4 5 ?_;refine Cp eZ rfl .k0 (fun m' hm he => jR 3 (hw.mono hm) hp) ?_ ?_
         ·rintro _ _ rfl;refine yk ?_;refine zC ?_;refine yk ?_;exact jr hl2 [_, _] (zN.app (.cons .h1 .p0)) ⟨vv, 3, _, _, _, _, _, hF.symm, rfl, rfl⟩
         ·rintro _ _ h;exact h.elim
        rw [if_neg h240] at hF;skip;refine vr 8 ?_;refine Lb 1 cJ .h1 ?_;refine zH 10 ?_;refine Lb 0 yl .here ?_;refine Pa 2 ?_;refine Sr 2 fB .here .h1 ?_
        refine co (.step 0 .pure (.step 2 .pure (.step 3 .pure (.fork (.step 1 .kept (.step 4 .wild (.step 5 .kept (.step 6 .wild (.step 7 .pure (.step 8 .wild (.done))))))) (.step 4 .wild (.step 1 .read (.step 5 .kept (.step 6 .wild (.step 7 .pure (.step 8 .wild (.done))))))))))) mixed zi 3 zi (fun _ _ _ _ hd hq => hQk hd hq) ?_;refine vt 3 ?_;refine kf ?_ ?_
        refine qR rfl (yE cJ rfl .h1 rfl) rfl rfl rfl ?_
        ·refine zM rfl rfl (z8 Rk rfl .k0 (fun m' hm he => ZL (n := ws.length) (hT.mono hm) (hw.mono hm) hnx za) rfl ?_ ?_) rfl
         ·rintro _ _ ⟨e', a', h1, rfl⟩;rw [h1] at hF;refine yk ?_;refine zC ?_;refine yk ?_;exact jr hl2 [_, _] (zN.app (.cons .h1 .p0)) ⟨vv, e', a', _, _, _, _, hF.symm, rfl, rfl⟩
         rintro _ _ ⟨x, ts2, at2, p2, q, ek, h1, hp2, h200, rfl, rfl, hok, hk⟩;rw [h1] at hF;dsimp only [R.bind] at hF;have hlx := (ZM (n := ws.length) (at_ := (hd ts).at_) (ts := ts.tail) za).2 _ _ h1;clear h1;have e1 : fs.length + 1 = (fs ++ [x]).length := by simp
         refine y7 rfl (yi JA rfl rfl rfl rfl (fun b4 => ?_)) rfl;refine zM rfl rfl (xQ JA rfl rfl rfl rfl .here (fun _ _ => .h6) rfl rfl (by first | omega | (simp only [maxLen]; omega)) za rfl (fun A1 c1 => ?_)) rfl;refine vt 1 ?_;refine zM rfl rfl (xn Rh rfl rfl rfl .h3 .h1 ?_) rfl;refine Vm 2 ?_;rw [e1]
         exact QR (⟨j, at2, p2, ts2, cs, fs ++ [x], K, kc, xs, A1, c1, ys ++ q.v x, yF [ek, e]⟩ : FE) (.cons .h1 (.cons .h2 (.cons .h2 (.cons .h2 (.cons .h2 (zN.pack2 (.cons .h1 .p1)))))))
          ⟨hF, hp2, by show ts2.length < j; omega, hcs, by show (fs ++ [x]).length <= 240; rw [<- e1]; omega, fun ns h => ⟨(he ns (h.1 _ (.tail _ (.head _)))).1, (he ns (h.1 _ (.tail _ (.head _)))).2.snoc ⟨q, rfl, hok, hk ns (h.1 _ (.head _))⟩ rfl⟩⟩ (Nat.lt_succ_self _)
        ·skip;refine zM rfl rfl (z8 Rk rfl .k0 (fun m' hm he => ZL (n := ws.length) (hT.mono hm) (hw.mono hm) hnx za) rfl ?_ ?_) rfl
         ·rintro _ _ ⟨e', a', h1, rfl⟩;rw [h1] at hF;refine yk ?_;refine zC ?_;refine yk ?_;exact jr hl2 [_, _] (zN.app (.cons .h1 .p0)) ⟨vv, e', a', _, _, _, _, hF.symm, rfl, rfl⟩
         rintro _ _ ⟨x, ts2, at2, p2, q, ek, h1, hp2, h200, rfl, rfl, hok, hk⟩;rw [h1] at hF;dsimp only [R.bind] at hF;have hlx := (ZM (n := ws.length) (at_ := (hd ts).at_) (ts := ts.tail) za).2 _ _ h1;clear h1;have e1 : fs.length + 1 = (fs ++ [x]).length := by simp
         refine Vl 0 rfl cJ .h2 ?_;refine y7 rfl (yi JA rfl rfl rfl rfl (fun b4 => ?_)) rfl;refine zM rfl rfl (xQ JA rfl rfl rfl rfl .here (fun _ _ => .h6) rfl rfl (by first | omega | (simp only [maxLen]; omega)) za rfl (fun A1 c1 => ?_)) rfl;refine vt 1 ?_;refine zM rfl rfl (xn Rh rfl rfl rfl .h3 .h1 ?_) rfl;refine Vm 2 ?_;rw [e1]
         exact QR (⟨j, at2, p2, ts2, cs, fs ++ [x], K, kc, xs, A1, c1, ys ++ q.v x, yF [ek, e]⟩ : FE) (.cons .h1 (.cons .h2 (.cons .h2 (.cons .h2 (.cons .h2 (zN.pack2 (.cons .h1 .p1)))))))
          ⟨hF, hp2, by show ts2.length < j; omega, hcs, by show (fs ++ [x]).length <= 240; rw [<- e1]; omega, fun ns h => ⟨(he ns (h.1 _ (.tail _ (.head _)))).1, (he ns (h.1 _ (.tail _ (.head _)))).2.snoc ⟨q, rfl, hok, hk ns (h.1 _ (.head _))⟩ rfl⟩⟩ (Nat.lt_succ_self _)
      | false =>
        rw [if_neg (by rw [hkf]; decide)] at hF;refine vr 6 ?_;refine Cp eZ rfl .k0 (fun m' hm he => jR 120 (hw.mono hm) hp) ?_ ?_
        ·rintro _ _ rfl;refine yk ?_;refine zC ?_;refine yk ?_;exact jr hl2 [_, _] (zN.app (.cons .h1 .p0)) ⟨vv, 120, _, _, _, _, _, hF.symm, rfl, rfl⟩
        ·rintro _ _ h;exact h.elim
    | false =>
      rw [if_neg (fun h => by rw [hkc] at h; cases h.1)] at hF;refine vr 13 ?_;refine C1 W3 rfl .here (fun m' hm he => WH (s := vY) (hw.mono hm) hp (qA _ rfl) zb) ?_;rintro _ _ ⟨rfl, rfl⟩;cases hkf : isW vY ts with
      | true =>
        rw [if_pos hkf] at hF;have hnx := hp.isW hkf
        have htl : ts.tail.length + 1 = ts.length := by
         have := hnx.len;omega
        by_cases h240 : fs.length = 240
        ·rw [if_pos h240] at hF;refine vr 8 ?_;refine Lb 1 cJ .h1 ?_;refine y4 5 ?_;refine Cp eZ rfl .k0 (fun m' hm he => jR 3 (hw.mono hm) hp) ?_ ?_
         ·rintro _ _ rfl;refine yk ?_;refine zC ?_;refine yk ?_;exact jr hl2 [_, _] (zN.app (.cons .h1 .p0)) ⟨vv, 3, _, _, _, _, _, hF.symm, rfl, rfl⟩
         ·rintro _ _ h;exact h.elim
        rw [if_neg h240] at hF;skip;refine vr 8 ?_;refine Lb 1 cJ .h1 ?_;refine zH 10 ?_;refine Lb 0 yl .here ?_;refine Pa 2 ?_;refine Sr 2 fB .here .h1 ?_
        refine co (.step 0 .pure (.step 2 .pure (.step 3 .pure (.fork (.step 1 .kept (.step 4 .wild (.step 5 .kept (.step 6 .wild (.step 7 .pure (.step 8 .wild (.done))))))) (.step 4 .wild (.step 1 .read (.step 5 .kept (.step 6 .wild (.step 7 .pure (.step 8 .wild (.done))))))))))) mixed zi 3 zi (fun _ _ _ _ hd hq => hQk hd hq) ?_;refine vt 3 ?_;refine kf ?_ ?_
        refine qR rfl (yE cJ rfl .h1 rfl) rfl rfl rfl ?_
        ·refine zM rfl rfl (z8 Rk rfl .k0 (fun m' hm he => ZL (n := ws.length) (hT.mono hm) (hw.mono hm) hnx za) rfl ?_ ?_) rfl
         ·rintro _ _ ⟨e', a', h1, rfl⟩;rw [h1] at hF;refine yk ?_;refine zC ?_;refine yk ?_;exact jr hl2 [_, _] (zN.app (.cons .h1 .p0)) ⟨vv, e', a', _, _, _, _, hF.symm, rfl, rfl⟩
         rintro _ _ ⟨x, ts2, at2, p2, q, ek, h1, hp2, h200, rfl, rfl, hok, hk⟩;rw [h1] at hF;dsimp only [R.bind] at hF;have hlx := (ZM (n := ws.length) (at_ := (hd ts).at_) (ts := ts.tail) za).2 _ _ h1;clear h1;have e1 : fs.length + 1 = (fs ++ [x]).length := by simp
         refine y7 rfl (yi JA rfl rfl rfl rfl (fun b4 => ?_)) rfl;refine zM rfl rfl (xQ JA rfl rfl rfl rfl .here (fun _ _ => .h6) rfl rfl (by first | omega | (simp only [maxLen]; omega)) za rfl (fun A1 c1 => ?_)) rfl;refine vt 1 ?_;refine zM rfl rfl (xn Rh rfl rfl rfl .h3 .h1 ?_) rfl;refine Vm 2 ?_;rw [e1]
         exact QR (⟨j, at2, p2, ts2, cs, fs ++ [x], K, kc, xs, A1, c1, ys ++ q.v x, yF [ek, e]⟩ : FE) (.cons .h1 (.cons .h2 (.cons .h2 (.cons .h2 (.cons .h2 (zN.pack2 (.cons .h1 .p1)))))))
          ⟨hF, hp2, by show ts2.length < j; omega, hcs, by show (fs ++ [x]).length <= 240; rw [<- e1]; omega, fun ns h => ⟨(he ns (h.1 _ (.tail _ (.head _)))).1, (he ns (h.1 _ (.tail _ (.head _)))).2.snoc ⟨q, rfl, hok, hk ns (h.1 _ (.head _))⟩ rfl⟩⟩ (Nat.lt_succ_self _)
        ·skip;refine zM rfl rfl (z8 Rk rfl .k0 (fun m' hm he => ZL (n := ws.length) (hT.mono hm) (hw.mono hm) hnx za) rfl ?_ ?_) rfl
         ·rintro _ _ ⟨e', a', h1, rfl⟩;rw [h1] at hF;refine yk ?_;refine zC ?_;refine yk ?_;exact jr hl2 [_, _] (zN.app (.cons .h1 .p0)) ⟨vv, e', a', _, _, _, _, hF.symm, rfl, rfl⟩
         rintro _ _ ⟨x, ts2, at2, p2, q, ek, h1, hp2, h200, rfl, rfl, hok, hk⟩;rw [h1] at hF;dsimp only [R.bind] at hF;have hlx := (ZM (n := ws.length) (at_ := (hd ts).at_) (ts := ts.tail) za).2 _ _ h1;clear h1;have e1 : fs.length + 1 = (fs ++ [x]).length := by simp
         refine Vl 0 rfl cJ .h2 ?_;refine y7 rfl (yi JA rfl rfl rfl rfl (fun b4 => ?_)) rfl;refine zM rfl rfl (xQ JA rfl rfl rfl rfl .here (fun _ _ => .h6) rfl rfl (by first | omega | (simp only [maxLen]; omega)) za rfl (fun A1 c1 => ?_)) rfl;refine vt 1 ?_;refine zM rfl rfl (xn Rh rfl rfl rfl .h3 .h1 ?_) rfl;refine Vm 2 ?_;rw [e1]
         exact QR (⟨j, at2, p2, ts2, cs, fs ++ [x], K, kc, xs, A1, c1, ys ++ q.v x, yF [ek, e]⟩ : FE) (.cons .h1 (.cons .h2 (.cons .h2 (.cons .h2 (.cons .h2 (zN.pack2 (.cons .h1 .p1)))))))
          ⟨hF, hp2, by show ts2.length < j; omega, hcs, by show (fs ++ [x]).length <= 240; rw [<- e1]; omega, fun ns h => ⟨(he ns (h.1 _ (.tail _ (.head _)))).1, (he ns (h.1 _ (.tail _ (.head _)))).2.snoc ⟨q, rfl, hok, hk ns (h.1 _ (.head _))⟩ rfl⟩⟩ (Nat.lt_succ_self _)
      | false =>
        rw [if_neg (by rw [hkf]; decide)] at hF;refine vr 6 ?_;refine Cp eZ rfl .k0 (fun m' hm he => jR 120 (hw.mono hm) hp) ?_ ?_
        ·rintro _ _ rfl;refine yk ?_;refine zC ?_;refine yk ?_;exact jr hl2 [_, _] (zN.app (.cons .h1 .p0)) ⟨vv, 120, _, _, _, _, _, hF.symm, rfl, rfl⟩
        ·rintro _ _ h;exact h.elim
   ·rintro e1 env' h' d' a' hq hag';have hdf : a'.defers = [Pl (.func 49) [zS b2, zS b3]] := hag'.defers
    have good : ∀ L', IB b2 b3 s env' L' -> ∀ h2 d2, HS m L' h2 -> ∃ vs, qC Tryz.prog env' h2 [.cell 2 25, .cell 3 31] vs /\ ∃ v h' d', Ending.returned (ao vs) = .returned v /\ W x0 h2 d2 = W x0 h' d' /\ wB m (Z5 (jI s)) v h' := by
     rintro L' ⟨hsub, bk, ts, K, kc, F, fc, e, hx, rfl, hcs, hfs, he⟩ h2 d2 hh;exact ⟨[_, _], cv.ok hh ⟨⟨_, _, _, _, hsub.1, .h1, .inr ⟨jB, rfl⟩⟩, ⟨_, _, _, _, hsub.2.1, .here, .inr ⟨y5, rfl⟩⟩, trivial⟩, _, h2, d2, rfl, rfl, _, .inl ⟨bk, ts, K, kc, F, fc, e, hx, rfl, rfl, hcs, hfs, he⟩, hh.tail.tail⟩
    have bad : ∀ e a : Int, ba (rB b2 b3) env' -> jI s = .bad e a -> ∀ h2 d2, HS m [cel b3 [.int .i64 e, .int .i64 a] 31, cel b2 [.slice none 0 0, .slice none 0 0] 25] h2 -> ∃ vs, qC Tryz.prog env' h2 [.cell 2 25, .cell 3 31] vs /\ ∃ v h' d', Ending.returned (ao vs) = .returned v /\ W x0 h2 d2 = W x0 h' d' /\ wB m (Z5 (jI s)) v h' := by
     rintro e a hsub hx h2 d2 hh;exact ⟨[_, _], cv.ok hh ⟨⟨_, _, _, _, hsub.1, .h1, .inr ⟨jB, rfl⟩⟩, ⟨_, _, _, _, hsub.2.1, .here, .inr ⟨y5, rfl⟩⟩, trivial⟩, _, h2, d2, rfl, rfl, _, .inr ⟨e, a, hx, rfl, rfl⟩, hh.tail.tail⟩
    cases e1 with
    | normal =>
      obtain ⟨L', hp, hh⟩ := hq;show Leaves _ _ _ _ a'.defers _ _;rw [hdf];exact kz (post := fun _ L2 => L2 = L') (rs := [.cell 2 25, .cell 3 31]) rfl zi yA rfl (HD hh) hag'.toAg (fun h2 d2 L2 e hs2 => by subst e; exact good _ hp h2 d2 hs2)
    | ret =>
      obtain ⟨L', hp, hh⟩ := hq;show Leaves _ _ _ _ a'.defers _ _;rw [hdf];exact kz (post := fun _ L2 => L2 = L') (rs := [.cell 2 25, .cell 3 31]) rfl zi yA rfl (HD hh) hag'.toAg (fun h2 d2 L2 e hs2 => by subst e; exact good _ hp h2 d2 hs2)
    | panic c =>
      obtain ⟨v', L', rfl, ⟨hsub, e, a, v1, v2, v3, v4, hx, hv, rfl⟩, hh⟩ := hq;show Leaves _ _ _ _ a'.defers _ _;rw [hdf]
      exact kz (post := fun _ L2 => L2 = [cel b3 [.int .i64 e, .int .i64 a] 31, cel b2 [.slice none 0 0, .slice none 0 0] 25]) (rs := [.cell 2 25, .cell 3 31]) rfl zi yA rfl (R0 hv hh) hag'.toAg (fun h2 d2 L2 e' hs2 => by subst e'; exact bad e a hsub hx h2 d2 hs2)
    | exit i => exact hq.elim
    | goto i => exact hq.elim
    | outgrown => exact hq.elim
end
section
open Wd Tp Kd
variable {m : Mp}
theorem cy {A : Oa} {c : Nat} {xs : List Bt} (hx : XB m A c xs) (hb : ∀ s ∈ xs, yL s = true) (hn : xs.length <= 1000000000) : CS Tryz.prog 63 [.slice A xs.length c, .string (bs [44, 32])] m [] (vQ (.string (bs (Lib.join xs [44, 32])))) := by
 have h1 := eP (k := 40) (sep := [44, 32]) (l := xs) (fun s hs => xG (hb s hs));have h2 : xs.length * (40 + [44, (32 : UInt8)].length) = xs.length * 42 := rfl;exact RS hx.1 hx.2 za za
variable {n : Int}
theorem Yc (h : yN n = true) : 0 <= n /\ n <= 999 := of_decide_eq_true h
variable {w : Bt}
theorem dM (n : Int) (hw : w.length <= 10) : (qY w n).length <= 20 := by
 have := yS n;unfold qY
 split <;> simp only [List.length_append, List.length_cons, List.length_nil] <;> omega
theorem aG {l : List Bt} (hw : w.length <= 10) (hb : ∀ s ∈ l, yL s = true) (hn : l.length <= 1000000000) : (qx w l).length <= 43000000000 := by
 have h1 := eP (k := 40) (sep := [44, 32]) (l := l) (fun s hs => xG (hb s hs));have h2 : l.length * (40 + [44, (32 : UInt8)].length) = l.length * 42 := rfl;unfold qx
 split <;> simp only [List.length_append, List.length_cons, List.length_nil] <;> omega
inductive FA (H : Bt) (f : y6) : Nat -> Bt -> Prop
 | z {l : Bt} (hl : l = H) : FA H f 0 l
 | a {l : Bt} (hl : l = H ++ qY ud f.least) : FA H f 1 l
 | b {l : Bt} (hl : l = H ++ qY ud f.least ++ qY jG f.most) : FA H f 2 l
 | e {l : Bt} (hl : l = H ++ qY ud f.least ++ qY jG f.most ++ qY vn f.copies) : FA H f 3 l
variable {f : y6} {i : Nat}
theorem FA.len {H : Bt} {l : Bt} (h : FA H f i l) : l.length <= H.length + 60 := by
 have h1 := dM (w := ud) f.least zb;have h2 := dM (w := jG) f.most zb;have h3 := dM (w := vn) f.copies zb;cases h with
 | z hl => rw [hl]; omega
 | a hl => rw [hl]; simp only [List.length_append]; omega
 | b hl => rw [hl]; simp only [List.length_append]; omega
 | e hl => rw [hl]; simp only [List.length_append]; omega
inductive FK (G : Bt) (f : y6) : Nat -> Bt -> Prop
 | z {l : Bt} (hl : l = G) : FK G f 0 l
 | a {l : Bt} (hb : ∀ s ∈ f.banned, yL s = true) (hl : l = G ++ qx wP f.banned) : FK G f 1 l
 | b {l : Bt} (hb : ∀ s ∈ f.banned, yL s = true) (hs : ∀ s ∈ f.single, yL s = true) (hl : l = G ++ qx wP f.banned ++ qx vK f.single) : FK G f 2 l
theorem FK.len {G : Bt} {l : Bt} (hs : K7 f) (h : FK G f i l) : l.length <= G.length + 86000000000 := by
 cases h with
 | z hl => rw [hl]; omega
 | a hb hl => have := aG (w := wP) zb hb hs.lb; rw [hl]; simp only [List.length_append]; omega
 | b hb hb2 hl => have := aG (w := wP) zb hb hs.lb; have := aG (w := vK) zb hb2 hs.ls; rw [hl]; simp only [List.length_append]; omega
variable {l : List Bt}
theorem Wy (h : ¬ 0 < l.length) : qx w l = [] := by unfold qx; rw [if_pos za]
theorem jK (h : 0 < l.length) : qx w l = vy ++ w ++ vy ++ Lib.join l [44, 32] ++ [59, 10] := by unfold qx; rw [if_neg za]
theorem Yd (h : n = 0) : qY w n = [] := by unfold qY; rw [if_pos h]
theorem uG (h : ¬ n = 0) : qY w n = vy ++ w ++ vy ++ qO n ++ [59, 10] := by unfold qY; rw [if_neg h]
def M6 (f : y6) : List Int := [f.least, f.most, f.copies]
theorem V9 : (∀ x ∈ M6 f, yN x = true) ↔ yN f.least = true /\ yN f.most = true /\ yN f.copies = true := by
 unfold M6
 simp
structure Vv where
 i : Nat
 l : Bt
theorem NM (hT : qB m) (hU : xU m) {q : Za} (hB : XB m q.A q.ca f.banned) (hS : XB m q.B q.cb f.single) (hs : K7 f) : Dv 34 [.agg (q.v f).toArray] m (fw f) := by
 have hnl := hs.name;skip;refine ym [.tmp 2] Tryz.func34 rfl rfl rfl ?_;refine tr 2 ?_;refine Bx 4 rfl fun b1 => ?_;refine zG .here (fun ns hi _ hd1 => ?_);have hR : Rd (yj m ns) (some ⟨b1, 0, none⟩) (q.v f) := (Rd.blk hi).mono (yq hd1);have hlm : Le m (yj m ns) := zU _ _;clear hi hd1;generalize yj m ns = m8 at hR hlm;have hT := hT.mono hlm;have hU := hU.mono hlm
 have hB := hB.mono hlm;have hS := hS.mono hlm;have hc0 : mc m8 ⟨b1, 0, none⟩ = some (.string (bs f.name)) := hR.at_ (i := 0) rfl;have hc1 : mc m8 ⟨b1, 1, none⟩ = some (.int .i64 f.least) := hR.at_ (i := 1) rfl;have hc2 : mc m8 ⟨b1, 2, none⟩ = some (.int .i64 f.most) := hR.at_ (i := 2) rfl;have hc3 : mc m8 ⟨b1, 3, none⟩ = some (.int .i64 f.copies) := hR.at_ (i := 3) rfl
 have hc4 : mc m8 ⟨b1, 4, none⟩ = some (.slice q.A f.banned.length q.ca) := hR.at_ (i := 4) rfl;have hc5 : mc m8 ⟨b1, 5, none⟩ = some (.slice q.B f.single.length q.cb) := hR.at_ (i := 5) rfl;cases hnp : yL f.name with
 | false =>
   refine tr 2 ?_;refine Lo 0 yI rfl hc0 ?_;refine Cr YH rfl (fun m' hm he => (qU (hU.mono hm) hnl)) ?_;rintro _ rfl;rw [hnp];skip;refine Cn ye rfl zq ?_ ?_
   ·rintro _ _ ⟨h1, rfl⟩;exact pW hlm ⟨XM (fun h => by rw [hnp] at h; exact absurd h.1 zb), rfl⟩
   rintro _ _ ⟨h1, rfl, rfl⟩;cases h1
 | true =>
 have hn40 := xG hnp;refine tr 2 ?_;refine Lo 0 yI rfl hc0 ?_;refine Cr YH rfl (fun m' hm he => (qU (hU.mono hm) hnl)) ?_;rintro _ rfl;rw [hnp];skip;refine Cn ye rfl zq ?_ ?_
 ·rintro _ _ ⟨h1, rfl⟩;exact absurd rfl h1
 rintro _ _ ⟨h1, rfl, rfl⟩;refine vr 5 ?_;refine Lo 1 yl rfl hc1 ?_;refine Lo 1 yl rfl hc2 ?_;refine Lo 0 yl rfl hc3 ?_;refine Bs 0 MB fun b2 => ?_;refine Cp EK rfl .nil (fun m' hm he => Ua (l := M6 f) (Rd.blk (he _ (.head _))) (by show 3 <= 100; decide)) ?_ ?_
 ·rintro _ _ ⟨h1, rfl⟩;exact pW hlm ⟨XM (fun h => h1 (V9.2 ⟨h.2.1, h.2.2.1, h.2.2.2.1⟩)), rfl⟩
 rintro _ _ ⟨h1, rfl, rfl⟩;have hnm := V9.1 h1;have s1 := Yc hnm.1;have s2 := Yc hnm.2.1;have s3 := Yc hnm.2.2;refine vr 5 ?_;refine Lo 0 yI rfl hc0 ?_;refine Ps 0 ?_;refine Ps 7 ?_;refine Lo 1 yl rfl hc1 ?_;refine Lo 1 yl rfl hc2 ?_;refine Lo 0 yl rfl hc3 ?_;refine Bs 5 MB fun b3 => ?_;refine zG .here (fun ns hi _ hd => ?_)
 have hR3 : Rd (yj m8 ns) (some ⟨b3, 0, none⟩) [.int .i64 f.least, .int .i64 f.most, .int .i64 f.copies] := (Rd.blk hi).mono (yq hd);have hl3 : Le m8 (yj m8 ns) := zU _ _;clear hi hd;have hlm := hlm.trans hl3;generalize yj m8 ns = m9 at hR3 hl3 hlm;have hT := hT.mono hl3;have hU := hU.mono hl3;have hB := hB.mono hl3;have hS := hS.mono hl3;have hc0 := xv hl3 hc0
 have hc1 := xv hl3 hc1;have hc2 := xv hl3 hc2;have hc3 := xv hl3 hc3;have hc4 := xv hl3 hc4;have hc5 := xv hl3 hc5;have hq0 : mc m9 ⟨b3, 0, none⟩ = some (.int .i64 f.least) := hR3.at_ (i := 0) rfl;have hq1 : mc m9 ⟨b3, 1, none⟩ = some (.int .i64 f.most) := hR3.at_ (i := 1) rfl;have hq2 : mc m9 ⟨b3, 2, none⟩ = some (.int .i64 f.copies) := hR3.at_ (i := 2) rfl
 refine yv (α := Vv) (fun y => [(1, zS b1), (3, .string (bs y.l)), (32, .slice (some ⟨b3, 0, none⟩) 3 3), (33, .int .i64 (3 : Nat)), (34, .int .i64 (y.i : Nat))]) (fun _ => []) (fun y => FA (vY ++ vy ++ f.name ++ [32, 123, 10]) f y.i y.l) (fun y => 3 - y.i) ⟨0, _⟩ vX ya (.z yA) ?_
 have hHl : (vY ++ vy ++ f.name ++ [32, 123, 10]).length <= 60 := by simp only [List.length_append, List.length_cons, List.length_nil]; omega
 rintro ⟨i, l⟩ hI;dsimp only at hI;dsimp only;have hlen := hI.len;cases hI with
 | z hl =>
   by_cases h0 : f.least = 0
   ·refine tr 2 ?_;refine y4 11 ?_;refine pe 0 (zw ZP rfl rfl (hR3.isSome xz) za) ?_;refine Lo 7 yl rfl hq0 ?_;refine zH 7 ?_;refine Pa 2 ?_;exact QR (⟨1, l⟩ : Vv) ya (.a (by rw [hl, Yd h0] <;> simp)) yV
   skip;refine tr 2 ?_;refine y4 11 ?_;refine pe 0 (zw ZP rfl rfl (hR3.isSome xz) za) ?_;refine Lo 7 yl rfl hq0 ?_;refine yr 3 ?_;refine Db (sq [0, 2, 7] (.fork (sq [101, 3] (.fork (sq [104, 5, 6, 108, 9, 10, 11, 12] .done) (sq [108, 104, 5, 6, 9, 10, 11, 12] .done))) (sq [108, 101, 3, 104, 5, 6, 9, 10, 11, 12] .done))) ?_;refine vB 3 ?_
   refine xl ?_ ?_;refine zf rfl (yi xH rfl rfl rfl rfl (fun b4 => ?_)) rfl;refine Vb 0 rfl (zw ql rfl rfl (hR3.isSome xz) za) ?_;refine xl ?_ ?_
   ·refine Ve 0 rfl ((yE (b := b4) (i := 0) (l := [.string (bs [108, 101, 97, 115, 116]), .string (bs [109, 111, 115, 116]), .string (bs [99, 111, 112, 105, 101, 115])]) yI rfl .here rfl)) ?_;refine Vs 0 rfl ?_;refine Vs 0 rfl ?_;refine zf rfl (xB em rfl (fun m' hm he => (wQ (hT.mono hm) za za)) rfl ?_) rfl;rintro _ rfl;rw [xx s1.1 s1.2]
    have hd := yS f.least
    iterate 3 (refine Vs 0 rfl ?_)
    refine vB 1 ?_;refine Vn 3 ?_;refine Pa 2 ?_;exact xD (⟨1, _⟩ : Vv) vX ya (.a (by rw [hl, uG h0] <;> simp)) yV
   ·skip;refine zf rfl (xB em rfl (fun m' hm he => (wQ (hT.mono hm) za za)) rfl ?_) rfl;rintro _ rfl;rw [xx s1.1 s1.2];have hd := yS f.least;skip;refine Ve 0 rfl ((yE (b := b4) (i := 0) (l := [.string (bs [108, 101, 97, 115, 116]), .string (bs [109, 111, 115, 116]), .string (bs [99, 111, 112, 105, 101, 115])]) yI rfl .here rfl)) ?_
    iterate 5 (refine Vs 0 rfl ?_)
    refine vB 1 ?_;refine Vn 3 ?_;refine Pa 2 ?_;exact xD (⟨1, _⟩ : Vv) vX ya (.a (by rw [hl, uG h0] <;> simp)) yV
   ·refine zf rfl (xB em rfl (fun m' hm he => (wQ (hT.mono hm) za za)) rfl ?_) rfl;rintro _ rfl;rw [xx s1.1 s1.2];have hd := yS f.least;refine zf rfl (yi xH rfl rfl rfl rfl (fun b4 => ?_)) rfl;refine Vb 0 rfl (zw ql rfl rfl (hR3.isSome xz) za) ?_
    refine Ve 0 rfl ((yE (b := b4) (i := 0) (l := [.string (bs [108, 101, 97, 115, 116]), .string (bs [109, 111, 115, 116]), .string (bs [99, 111, 112, 105, 101, 115])]) yI rfl .here rfl)) ?_
    iterate 5 (refine Vs 0 rfl ?_)
    refine vB 1 ?_;refine Vn 3 ?_;refine Pa 2 ?_;exact xD (⟨1, _⟩ : Vv) vX ya (.a (by rw [hl, uG h0] <;> simp)) yV
 | a hl =>
   by_cases h0 : f.most = 0
   ·refine tr 2 ?_;refine y4 11 ?_;refine pe 0 (zw ZP rfl rfl (hR3.isSome xz) za) ?_;refine Lo 7 yl rfl hq1 ?_;refine zH 7 ?_;refine Pa 2 ?_;exact QR (⟨2, l⟩ : Vv) ya (.b (by rw [hl, Yd h0] <;> simp)) yV
   skip;refine tr 2 ?_;refine y4 11 ?_;refine pe 0 (zw ZP rfl rfl (hR3.isSome xz) za) ?_;refine Lo 7 yl rfl hq1 ?_;refine yr 3 ?_;refine Db (sq [0, 2, 7] (.fork (sq [101, 3] (.fork (sq [104, 5, 6, 108, 9, 10, 11, 12] .done) (sq [108, 104, 5, 6, 9, 10, 11, 12] .done))) (sq [108, 101, 3, 104, 5, 6, 9, 10, 11, 12] .done))) ?_;refine vB 3 ?_
   refine xl ?_ ?_;refine zf rfl (yi xH rfl rfl rfl rfl (fun b4 => ?_)) rfl;refine Vb 0 rfl (zw ql rfl rfl (hR3.isSome xz) za) ?_;refine xl ?_ ?_
   ·refine Ve 0 rfl ((yE (b := b4) (i := 1) (l := [.string (bs [108, 101, 97, 115, 116]), .string (bs [109, 111, 115, 116]), .string (bs [99, 111, 112, 105, 101, 115])]) yI rfl .here rfl)) ?_;refine Vs 0 rfl ?_;refine Vs 0 rfl ?_;refine zf rfl (xB em rfl (fun m' hm he => (wQ (hT.mono hm) za za)) rfl ?_) rfl;rintro _ rfl;rw [xx s2.1 s2.2]
    have hd := yS f.most
    iterate 3 (refine Vs 0 rfl ?_)
    refine vB 1 ?_;refine Vn 3 ?_;refine Pa 2 ?_;exact xD (⟨2, _⟩ : Vv) vX ya (.b (by rw [hl, uG h0] <;> simp)) yV
   ·skip;refine zf rfl (xB em rfl (fun m' hm he => (wQ (hT.mono hm) za za)) rfl ?_) rfl;rintro _ rfl;rw [xx s2.1 s2.2];have hd := yS f.most;skip;refine Ve 0 rfl ((yE (b := b4) (i := 1) (l := [.string (bs [108, 101, 97, 115, 116]), .string (bs [109, 111, 115, 116]), .string (bs [99, 111, 112, 105, 101, 115])]) yI rfl .here rfl)) ?_
    iterate 5 (refine Vs 0 rfl ?_)
    refine vB 1 ?_;refine Vn 3 ?_;refine Pa 2 ?_;exact xD (⟨2, _⟩ : Vv) vX ya (.b (by rw [hl, uG h0] <;> simp)) yV
   ·refine zf rfl (xB em rfl (fun m' hm he => (wQ (hT.mono hm) za za)) rfl ?_) rfl;rintro _ rfl;rw [xx s2.1 s2.2];have hd := yS f.most;refine zf rfl (yi xH rfl rfl rfl rfl (fun b4 => ?_)) rfl;refine Vb 0 rfl (zw ql rfl rfl (hR3.isSome xz) za) ?_
    refine Ve 0 rfl ((yE (b := b4) (i := 1) (l := [.string (bs [108, 101, 97, 115, 116]), .string (bs [109, 111, 115, 116]), .string (bs [99, 111, 112, 105, 101, 115])]) yI rfl .here rfl)) ?_
    iterate 5 (refine Vs 0 rfl ?_)
    refine vB 1 ?_;refine Vn 3 ?_;refine Pa 2 ?_;exact xD (⟨2, _⟩ : Vv) vX ya (.b (by rw [hl, uG h0] <;> simp)) yV
 | b hl =>
   by_cases h0 : f.copies = 0
   ·refine tr 2 ?_;refine y4 11 ?_;refine pe 0 (zw ZP rfl rfl (hR3.isSome xz) za) ?_;refine Lo 7 yl rfl hq2 ?_;refine zH 7 ?_;refine Pa 2 ?_;exact QR (⟨3, l⟩ : Vv) ya (.e (by rw [hl, Yd h0] <;> simp)) yV
   skip;refine tr 2 ?_;refine y4 11 ?_;refine pe 0 (zw ZP rfl rfl (hR3.isSome xz) za) ?_;refine Lo 7 yl rfl hq2 ?_;refine yr 3 ?_;refine Db (sq [0, 2, 7] (.fork (sq [101, 3] (.fork (sq [104, 5, 6, 108, 9, 10, 11, 12] .done) (sq [108, 104, 5, 6, 9, 10, 11, 12] .done))) (sq [108, 101, 3, 104, 5, 6, 9, 10, 11, 12] .done))) ?_;refine vB 3 ?_
   refine xl ?_ ?_;refine zf rfl (yi xH rfl rfl rfl rfl (fun b4 => ?_)) rfl;refine Vb 0 rfl (zw ql rfl rfl (hR3.isSome xz) za) ?_;refine xl ?_ ?_
   ·refine Ve 0 rfl ((yE (b := b4) (i := 2) (l := [.string (bs [108, 101, 97, 115, 116]), .string (bs [109, 111, 115, 116]), .string (bs [99, 111, 112, 105, 101, 115])]) yI rfl .here rfl)) ?_;refine Vs 0 rfl ?_;refine Vs 0 rfl ?_;refine zf rfl (xB em rfl (fun m' hm he => (wQ (hT.mono hm) za za)) rfl ?_) rfl;rintro _ rfl;rw [xx s3.1 s3.2]
    have hd := yS f.copies
    iterate 3 (refine Vs 0 rfl ?_)
    refine vB 1 ?_;refine Vn 3 ?_;refine Pa 2 ?_;exact xD (⟨3, _⟩ : Vv) vX ya (.e (by rw [hl, uG h0] <;> simp)) yV
   ·skip;refine zf rfl (xB em rfl (fun m' hm he => (wQ (hT.mono hm) za za)) rfl ?_) rfl;rintro _ rfl;rw [xx s3.1 s3.2];have hd := yS f.copies;skip;refine Ve 0 rfl ((yE (b := b4) (i := 2) (l := [.string (bs [108, 101, 97, 115, 116]), .string (bs [109, 111, 115, 116]), .string (bs [99, 111, 112, 105, 101, 115])]) yI rfl .here rfl)) ?_
    iterate 5 (refine Vs 0 rfl ?_)
    refine vB 1 ?_;refine Vn 3 ?_;refine Pa 2 ?_;exact xD (⟨3, _⟩ : Vv) vX ya (.e (by rw [hl, uG h0] <;> simp)) yV
   ·refine zf rfl (xB em rfl (fun m' hm he => (wQ (hT.mono hm) za za)) rfl ?_) rfl;rintro _ rfl;rw [xx s3.1 s3.2];have hd := yS f.copies;refine zf rfl (yi xH rfl rfl rfl rfl (fun b4 => ?_)) rfl;refine Vb 0 rfl (zw ql rfl rfl (hR3.isSome xz) za) ?_
    refine Ve 0 rfl ((yE (b := b4) (i := 2) (l := [.string (bs [108, 101, 97, 115, 116]), .string (bs [109, 111, 115, 116]), .string (bs [99, 111, 112, 105, 101, 115])]) yI rfl .here rfl)) ?_
    iterate 5 (refine Vs 0 rfl ?_)
    refine vB 1 ?_;refine Vn 3 ?_;refine Pa 2 ?_;exact xD (⟨3, _⟩ : Vv) vX ya (.e (by rw [hl, uG h0] <;> simp)) yV
 | e hl =>
   skip;refine tr 2 ?_;refine zH 6 ?_;refine zm ?_;refine zk ?_;refine qt 5 ?_;refine Lo 1 Zh rfl hc4 ?_;refine Lo 0 Zh rfl hc5 ?_;refine Bs 5 F5 fun b4 => ?_;refine zG .here (fun ns hi _ hd => ?_);have hR4 : Rd (yj m9 ns) (some ⟨b4, 0, none⟩) [.slice q.A f.banned.length q.ca, .slice q.B f.single.length q.cb] := (Rd.blk hi).mono (yq hd)
   have hl4 : Le m9 (yj m9 ns) := zU _ _;clear hi hd;have hlm := hlm.trans hl4;generalize yj m9 ns = m10 at hR4 hl4 hlm;have hT := hT.mono hl4;have hU := hU.mono hl4;have hB := hB.mono hl4;have hS := hS.mono hl4;have hq0 : mc m10 ⟨b4, 0, none⟩ = some (.slice q.A f.banned.length q.ca) := hR4.at_ (i := 0) rfl
   have hq1 : mc m10 ⟨b4, 1, none⟩ = some (.slice q.B f.single.length q.cb) := hR4.at_ (i := 1) rfl;have hlb : f.banned.length <= 1000000000 := hs.lb;have hls : f.single.length <= 1000000000 := hs.ls
   refine yv (α := Vv) (fun y => [(1, zS b1), (3, .string (bs y.l)), (58, .slice (some ⟨b4, 0, none⟩) 2 2), (59, .int .i64 (2 : Nat)), (60, .int .i64 (y.i : Nat))]) (fun _ => []) (fun y => FK l f y.i y.l) (fun y => 2 - y.i) ⟨0, l⟩ vX ya (.z rfl) ?_;rintro ⟨i, l2⟩ hI;dsimp only at hI;dsimp only;have hlen2 := hI.len hs;cases hI with
   | z hl2 =>
     refine tr 2 ?_;refine y4 11 ?_;refine pe 0 (zw Su rfl rfl (hR4.isSome xz) za) ?_;refine Lo 13 Zh rfl hq0 ?_
     refine yv (α := Nat) (fun j => [(1, zS b1), (3, .string (bs l2)), (6, .int .i64 (0 : Nat)), (7, .slice q.A f.banned.length q.ca), (58, .slice (some ⟨b4, 0, none⟩) 2 2), (59, .int .i64 (2 : Nat)), (60, .int .i64 (0 : Nat)), (65, .slice q.A f.banned.length q.ca), (66, .int .i64 (f.banned.length : Nat)), (67, .int .i64 (j : Nat))]) (fun _ => []) (fun j => j <= f.banned.length /\ ∀ s ∈ f.banned.take j, yL s = true) (fun j => f.banned.length - j) 0 XY ya ⟨Nat.zero_le _, fun s h => by simp at h⟩ ?_
     rintro j ⟨hj, hok⟩;by_cases hlt : j < f.banned.length
     ·have hA : q.A.isSome = true := hB.1.isSome (by rw [List.length_map]; omega);have hcx := hB.1.at_ (show (f.banned.map xm)[j]? = some (xm f.banned[j]) by simp [hlt]);have hmem : f.banned[j] ∈ f.banned := List.getElem_mem hlt;have htl := hs.b _ hmem
      have hnx : yL f.banned[j] = true -> ∀ s ∈ f.banned.take (j + 1), yL s = true := fun h s hx => by
       rw [List.take_add_one, List.getElem?_eq_getElem hlt] at hx;rcases List.mem_append.1 hx with hx | hx
       ·exact hok s hx
       ·simp at hx; rw [hx]; exact h
      generalize f.banned[j] = t at hcx hmem htl hnx;refine tr 2 ?_;refine y4 10 ?_;refine pe 0 (zw ql rfl rfl hA za) ?_;refine Lo 5 yI rfl hcx ?_;refine Cr YH rfl (fun m' hm he => (qU (hU.mono hm) htl)) ?_;rintro _ rfl;cases hnt : yL t with
      | false =>
        skip;refine Cn ye rfl zq ?_ ?_
        ·rintro _ _ ⟨h1, rfl⟩;refine yk ?_;refine zC ?_;refine yk ?_;refine zC ?_;exact pW hlm ⟨XM (fun h => by have h1 := List.all_eq_true.1 h.2.2.2.2.1 _ hmem; rw [hnt] at h1; exact absurd h1 zb), rfl⟩
        rintro _ _ ⟨h1, rfl, rfl⟩;cases h1
      | true =>
        skip;refine Cn ye rfl zq ?_ ?_
        ·rintro _ _ ⟨h1, rfl⟩;exact absurd rfl h1
        rintro _ _ ⟨h1, rfl, rfl⟩;refine vr 4 ?_;refine Pa 2 ?_;exact QR (j + 1) ya ⟨hlt, hnx hnt⟩ za
     have hj2 : j = f.banned.length := by omega
     subst hj2;rw [List.take_length] at hok;have hall := hok;have hjl := eP (k := 40) (sep := [44, 32]) (l := f.banned) (fun s hs => xG (hall s hs));have hjl : (Lib.join f.banned [44, 32]).length <= f.banned.length * 42 := hjl;by_cases hl0 : 0 < f.banned.length
     rotate_left
     ·refine tr 2 ?_;refine zH 6 ?_;refine zm ?_;refine zk ?_;refine qt 5 ?_;refine zH 7 ?_;refine Pa 2 ?_;exact QR (⟨1, l2⟩ : Vv) ya (.a hall (by rw [hl2, Wy hl0] <;> simp)) yV
     skip;refine tr 2 ?_;refine zH 6 ?_;refine zm ?_;refine zk ?_;refine qt 5 ?_;refine y4 3 ?_;refine Db (sq [0, 2, 7] (.fork (sq [101, 3] (.fork (sq [104, 5, 6, 108, 9, 10, 11, 12] .done) (sq [108, 104, 5, 6, 9, 10, 11, 12] .done))) (sq [108, 101, 3, 104, 5, 6, 9, 10, 11, 12] .done))) ?_;refine vB 3 ?_;refine xl ?_ ?_
     refine zf rfl (yi xH rfl rfl rfl rfl (fun b5 => ?_)) rfl;refine Vb 0 rfl (zw ql rfl rfl (hR4.isSome xz) za) ?_;refine xl ?_ ?_
     ·refine Ve 0 rfl ((yE (b := b5) (i := 0) (l := [.string (bs [98, 97, 110, 110, 101, 100]), .string (bs [115, 105, 110, 103, 108, 101])]) yI rfl .here rfl)) ?_;refine Vs 0 rfl ?_;refine Vs 0 rfl ?_;refine zf rfl (xB Lp rfl (fun m' hm he => (cy (hB.mono hm) hall hlb)) rfl ?_) rfl;rintro _ rfl
      iterate 3 (refine Vs 0 rfl ?_)
      refine vB 1 ?_;refine Vn 3 ?_;refine Pa 2 ?_;exact xD (⟨1, _⟩ : Vv) vX ya (.a hall (by rw [hl2, jK hl0] <;> simp)) yV
     ·skip;refine zf rfl (xB Lp rfl (fun m' hm he => (cy (hB.mono hm) hall hlb)) rfl ?_) rfl;rintro _ rfl;skip;refine Ve 0 rfl ((yE (b := b5) (i := 0) (l := [.string (bs [98, 97, 110, 110, 101, 100]), .string (bs [115, 105, 110, 103, 108, 101])]) yI rfl .here rfl)) ?_
      iterate 5 (refine Vs 0 rfl ?_)
      refine vB 1 ?_;refine Vn 3 ?_;refine Pa 2 ?_;exact xD (⟨1, _⟩ : Vv) vX ya (.a hall (by rw [hl2, jK hl0] <;> simp)) yV
     ·refine zf rfl (xB Lp rfl (fun m' hm he => (cy (hB.mono hm) hall hlb)) rfl ?_) rfl;rintro _ rfl;refine zf rfl (yi xH rfl rfl rfl rfl (fun b5 => ?_)) rfl;refine Vb 0 rfl (zw ql rfl rfl (hR4.isSome xz) za) ?_
      refine Ve 0 rfl ((yE (b := b5) (i := 0) (l := [.string (bs [98, 97, 110, 110, 101, 100]), .string (bs [115, 105, 110, 103, 108, 101])]) yI rfl .here rfl)) ?_
      iterate 5 (refine Vs 0 rfl ?_)
      refine vB 1 ?_;refine Vn 3 ?_;refine Pa 2 ?_;exact xD (⟨1, _⟩ : Vv) vX ya (.a hall (by rw [hl2, jK hl0] <;> simp)) yV
   | a hbn hl2 =>
     refine tr 2 ?_;refine y4 11 ?_;refine pe 0 (zw Su rfl rfl (hR4.isSome xz) za) ?_;refine Lo 13 Zh rfl hq1 ?_
     refine yv (α := Nat) (fun j => [(1, zS b1), (3, .string (bs l2)), (6, .int .i64 (1 : Nat)), (7, .slice q.B f.single.length q.cb), (58, .slice (some ⟨b4, 0, none⟩) 2 2), (59, .int .i64 (2 : Nat)), (60, .int .i64 (1 : Nat)), (65, .slice q.B f.single.length q.cb), (66, .int .i64 (f.single.length : Nat)), (67, .int .i64 (j : Nat))]) (fun _ => []) (fun j => j <= f.single.length /\ ∀ s ∈ f.single.take j, yL s = true) (fun j => f.single.length - j) 0 XY ya ⟨Nat.zero_le _, fun s h => by simp at h⟩ ?_
     rintro j ⟨hj, hok⟩;by_cases hlt : j < f.single.length
     ·have hA : q.B.isSome = true := hS.1.isSome (by rw [List.length_map]; omega);have hcx := hS.1.at_ (show (f.single.map xm)[j]? = some (xm f.single[j]) by simp [hlt]);have hmem : f.single[j] ∈ f.single := List.getElem_mem hlt;have htl := hs.s _ hmem
      have hnx : yL f.single[j] = true -> ∀ s ∈ f.single.take (j + 1), yL s = true := fun h s hx => by
       rw [List.take_add_one, List.getElem?_eq_getElem hlt] at hx;rcases List.mem_append.1 hx with hx | hx
       ·exact hok s hx
       ·simp at hx; rw [hx]; exact h
      generalize f.single[j] = t at hcx hmem htl hnx;refine tr 2 ?_;refine y4 10 ?_;refine pe 0 (zw ql rfl rfl hA za) ?_;refine Lo 5 yI rfl hcx ?_;refine Cr YH rfl (fun m' hm he => (qU (hU.mono hm) htl)) ?_;rintro _ rfl;cases hnt : yL t with
      | false =>
        skip;refine Cn ye rfl zq ?_ ?_
        ·rintro _ _ ⟨h1, rfl⟩;refine yk ?_;refine zC ?_;refine yk ?_;refine zC ?_;exact pW hlm ⟨XM (fun h => by have h1 := List.all_eq_true.1 h.2.2.2.2.2 _ hmem; rw [hnt] at h1; exact absurd h1 zb), rfl⟩
        rintro _ _ ⟨h1, rfl, rfl⟩;cases h1
      | true =>
        skip;refine Cn ye rfl zq ?_ ?_
        ·rintro _ _ ⟨h1, rfl⟩;exact absurd rfl h1
        rintro _ _ ⟨h1, rfl, rfl⟩;refine vr 4 ?_;refine Pa 2 ?_;exact QR (j + 1) ya ⟨hlt, hnx hnt⟩ za
     have hj2 : j = f.single.length := by omega
     subst hj2;rw [List.take_length] at hok;have hall := hok;have hjl := eP (k := 40) (sep := [44, 32]) (l := f.single) (fun s hs => xG (hall s hs));have hjl : (Lib.join f.single [44, 32]).length <= f.single.length * 42 := hjl;by_cases hl0 : 0 < f.single.length
     rotate_left
     ·refine tr 2 ?_;refine zH 6 ?_;refine zm ?_;refine zk ?_;refine qt 5 ?_;refine zH 7 ?_;refine Pa 2 ?_;exact QR (⟨2, l2⟩ : Vv) ya (.b hbn hall (by rw [hl2, Wy hl0] <;> simp)) yV
     skip;refine tr 2 ?_;refine zH 6 ?_;refine zm ?_;refine zk ?_;refine qt 5 ?_;refine y4 3 ?_;refine Db (sq [0, 2, 7] (.fork (sq [101, 3] (.fork (sq [104, 5, 6, 108, 9, 10, 11, 12] .done) (sq [108, 104, 5, 6, 9, 10, 11, 12] .done))) (sq [108, 101, 3, 104, 5, 6, 9, 10, 11, 12] .done))) ?_;refine vB 3 ?_;refine xl ?_ ?_
     refine zf rfl (yi xH rfl rfl rfl rfl (fun b5 => ?_)) rfl;refine Vb 0 rfl (zw ql rfl rfl (hR4.isSome xz) za) ?_;refine xl ?_ ?_
     ·refine Ve 0 rfl ((yE (b := b5) (i := 1) (l := [.string (bs [98, 97, 110, 110, 101, 100]), .string (bs [115, 105, 110, 103, 108, 101])]) yI rfl .here rfl)) ?_;refine Vs 0 rfl ?_;refine Vs 0 rfl ?_;refine zf rfl (xB Lp rfl (fun m' hm he => (cy (hS.mono hm) hall hls)) rfl ?_) rfl;rintro _ rfl
      iterate 3 (refine Vs 0 rfl ?_)
      refine vB 1 ?_;refine Vn 3 ?_;refine Pa 2 ?_;exact xD (⟨2, _⟩ : Vv) vX ya (.b hbn hall (by rw [hl2, jK hl0] <;> simp)) yV
     ·skip;refine zf rfl (xB Lp rfl (fun m' hm he => (cy (hS.mono hm) hall hls)) rfl ?_) rfl;rintro _ rfl;skip;refine Ve 0 rfl ((yE (b := b5) (i := 1) (l := [.string (bs [98, 97, 110, 110, 101, 100]), .string (bs [115, 105, 110, 103, 108, 101])]) yI rfl .here rfl)) ?_
      iterate 5 (refine Vs 0 rfl ?_)
      refine vB 1 ?_;refine Vn 3 ?_;refine Pa 2 ?_;exact xD (⟨2, _⟩ : Vv) vX ya (.b hbn hall (by rw [hl2, jK hl0] <;> simp)) yV
     ·refine zf rfl (xB Lp rfl (fun m' hm he => (cy (hS.mono hm) hall hls)) rfl ?_) rfl;rintro _ rfl;refine zf rfl (yi xH rfl rfl rfl rfl (fun b5 => ?_)) rfl;refine Vb 0 rfl (zw ql rfl rfl (hR4.isSome xz) za) ?_
      refine Ve 0 rfl ((yE (b := b5) (i := 1) (l := [.string (bs [98, 97, 110, 110, 101, 100]), .string (bs [115, 105, 110, 103, 108, 101])]) yI rfl .here rfl)) ?_
      iterate 5 (refine Vs 0 rfl ?_)
      refine vB 1 ?_;refine Vn 3 ?_;refine Pa 2 ?_;exact xD (⟨2, _⟩ : Vv) vX ya (.b hbn hall (by rw [hl2, jK hl0] <;> simp)) yV
   | b hbn hsn hl2 =>
     skip;refine tr 2 ?_;refine zH 6 ?_;refine zm ?_;refine zk ?_;refine qt 4 ?_;refine Ps 4 ?_;exact Ta hlm zj ⟨_, by unfold fw; rw [if_pos ⟨hnp, hnm.1, hnm.2.1, hnm.2.2, List.all_eq_true.2 hbn, List.all_eq_true.2 hsn⟩], congrArg (fun t => Value.string (bs t)) (by rw [hl2, hl] <;> simp), rfl⟩
end
section
open Wd Tp Kd
variable {m : Mp}
def bh (m : Mp) (vs : Lv) (c : zP) : Prop := ∃ q : ef, vs = q.v c /\ xV m q.A c.played.length c.played /\ xV m q.B c.dead.length c.dead /\ xV m q.D c.dawn.length c.dawn
def VQ (m : Mp) (vs : Lv) (f : y6) : Prop := ∃ q : Za, vs = q.v f /\ XB m q.A q.ca f.banned /\ XB m q.B q.cb f.single
variable {c : zP} {m' : Mp} {vs : Lv}
theorem bh.mono (h : bh m vs c) (hl : Le m m') : bh m' vs c := by
 obtain ⟨q, h1, h2, h3, h4⟩ := h;exact ⟨q, h1, h2.mono hl, h3.mono hl, h4.mono hl⟩
variable {f : y6}
theorem VQ.mono (h : VQ m vs f) (hl : Le m m') : VQ m' vs f := by
 obtain ⟨q, h1, h2, h3⟩ := h;exact ⟨q, h1, h2.mono hl, h3.mono hl⟩
def jc (m : Mp) (A : Oa) (l : List zP) : Prop := ∃ vs, Rd m A vs /\ vs.length = l.length * 12 /\ ∀ (i : Nat) (hi : i < l.length), bh m ((vs.drop (i * 12)).take 12) l[i]
def gH (m : Mp) (A : Oa) (l : List y6) : Prop := ∃ vs, Rd m A vs /\ vs.length = l.length * 7 /\ ∀ (i : Nat) (hi : i < l.length), VQ m ((vs.drop (i * 7)).take 7) l[i]
variable {A : Oa} {l : List zP}
theorem jc.mono (h : jc m A l) (hl : Le m m') : jc m' A l := by
 obtain ⟨vs, h1, h2, h3⟩ := h;exact ⟨vs, h1.mono hl, h2, fun i hi => (h3 i hi).mono hl⟩
theorem gH.mono {l : List y6} (h : gH m A l) (hl : Le m m') : gH m' A l := by
 obtain ⟨vs, h1, h2, h3⟩ := h;exact ⟨vs, h1.mono hl, h2, fun i hi => (h3 i hi).mono hl⟩
theorem bi.x (h : bi m vs c) : bh m vs c := by
 obtain ⟨q, h1, -, h2, h3, h4⟩ := h;exact ⟨q, h1, h2, h3, h4⟩
theorem K8.x (h : K8 m vs f) : VQ m vs f := by
 obtain ⟨q, h1, -, h2, h3⟩ := h;exact ⟨q, h1, h2, h3⟩
theorem kM.x (h : kM m A l) : jc m A l := by
 obtain ⟨vs, h1, h2, h3⟩ := h;exact ⟨vs, h1, h2, fun i hi => bi.x (h3 i hi)⟩
theorem am.x {l : List y6} (h : am m A l) : gH m A l := by
 obtain ⟨vs, h1, h2, h3⟩ := h;exact ⟨vs, h1, h2, fun i hi => K8.x (h3 i hi)⟩
def V6 (x y : zP) : Prop := x.name = y.name /\ x.unit = y.unit /\ x.cost = y.cost /\ x.power = y.power /\ x.health = y.health /\ x.shield = y.shield /\ x.apow = y.apow /\ x.aheal = y.aheal /\ x.played = y.played /\ x.dead = y.dead /\ x.dawn = y.dawn
def V5 (x y : y6) : Prop := x.name = y.name /\ x.least = y.least /\ x.most = y.most /\ x.copies = y.copies /\ x.banned = y.banned /\ x.single = y.single
structure Iy (a b : ew) : Prop where
 lc : a.cards.length = b.cards.length
 lf : a.fmts.length = b.fmts.length
 c : ∀ (i : Nat) (h : i < a.cards.length) (h' : i < b.cards.length), V6 a.cards[i] b.cards[i]
 f : ∀ (i : Nat) (h : i < a.fmts.length) (h' : i < b.fmts.length), V5 a.fmts[i] b.fmts[i]
theorem Iy.rfl (a : ew) : Iy a a := ⟨_root_.rfl, _root_.rfl, fun _ _ _ => ⟨_root_.rfl, _root_.rfl, _root_.rfl, _root_.rfl, _root_.rfl, _root_.rfl, _root_.rfl, _root_.rfl, _root_.rfl, _root_.rfl, _root_.rfl⟩, fun _ _ _ => ⟨_root_.rfl, _root_.rfl, _root_.rfl, _root_.rfl, _root_.rfl, _root_.rfl⟩⟩
def Dz (b : ew) : Prop := b.cards.length <= 140737488355328 /\ b.fmts.length <= 140737488355328 /\ ∀ f ∈ b.fmts, f.banned.length <= 140737488355328 /\ f.single.length <= 140737488355328
abbrev KP (K : Oa) (n kc : Nat) (F : Oa) (f fc : Nat) : Lv := [.slice K n kc, .slice F f fc]
theorem UM {α : Type} {Q : yR} {S : α -> yW} {LL : α -> List yb} {F : α -> Prop} {μ : α -> Nat} {k : Nat} {env : yW} {L : List yb} {m2 : Mp} (hl : Le m m2) (y : α) (hs : ba (S y) env) (hp : zN L (LL y)) (hF : F y) (hk : μ y < k) : QS (j2 m S LL F μ k Q) .normal env m2 L :=
 fun h hh => ⟨y, hs, ⟨hF, (hp m2 h hh).weaken hl⟩, hk⟩
end
section
open Wd Tp Kd
variable {m : Mp}
theorem Dv.weak {f : FuncId} {args : Lv} {r : Option Bt} (h : Dv f args m r) : Vw Tryz.prog f args m [] (fun v L' => ∃ s, v = .string (bs s) /\ r = some s /\ L' = []) (fun v _ => r = none /\ v = eg) := by
 have e : (fun (v : Value) (L' : List yb) => ∃ s, v = .string (bs s) /\ r = some s /\ L' = []) = fun v L' => ∃ s, r = some s /\ v = .string (bs s) /\ L' = [] := by
  funext v L'
  refine propext ⟨fun ⟨s, h1, h2, h3⟩ => ⟨s, h2, h1, h3⟩, fun ⟨s, h1, h2, h3⟩ => ⟨s, h2, h1, h3⟩⟩
 rw [e];exact h
theorem FC (hT : qB m) (hU : xU m) {c : zP} {vs : Lv} (hx : bh m vs c) (hs : Jf c) : CS Tryz.prog 33 [.agg vs.toArray] m [] (vQ (IH (um c))) := by
 obtain ⟨q, rfl, hpl, hde, hda⟩ := hx;refine yQ [.tmp 2, .tmp 3] Tryz.func33 rfl rfl rfl ?_;refine tr 2 ?_;refine Bx 5 rfl fun b1 => ?_;refine zG .here (fun ns hi _ hd1 => ?_);have hR : Rd (yj m ns) (some ⟨b1, 0, none⟩) (q.v c) := (Rd.blk hi).mono (yq hd1);have hl2 : Le m (yj m ns) := zU _ _;clear hi hd1;refine tr 2 ?_
 refine zg ((yK EQ rfl (fun m' hm he => MI (g := 59) (q := [zS b1]) (pre := []) (N := um c = none) (I := fun s L' => um c = some s /\ L' = []) Cu (fun m2 h2 => have hl := hl2.trans (hm.trans h2); (Fh (hT.mono hl) (hU.mono hl) (hR.mono (hm.trans h2)) (hpl.mono hl) (hde.mono hl) (hda.mono hl) hs).weak)) rfl ?_)) rfl;rintro _ _ hq
 rcases hq with ⟨s, rfl, hs, rfl⟩ | ⟨hs, rfl, rfl⟩
 ·rw [hs];dsimp only [IH];refine vr 7 ?_;exact gT hl2 [_, _] vv [] ya ⟨rfl, rfl⟩
 ·rw [hs];dsimp only [IH];refine vr 7 ?_;exact gT hl2 [_, _] vv [] ya ⟨rfl, rfl⟩
abbrev Sl (bl : Nat) (q : Bool) : yb := cel bl [.bool q] 4
theorem Sc {bl bb c : Nat} {p : Value} {A : Oa} {l s : Bt} {q : Bool} (hp : PB bb p) (hA : Gf A l) (hl : l.length <= 65536) (hs : s.length <= 100000000000) :
  CS Tryz.prog 30 [.string (bs s), zS bl, zS bb] m (Sl bl q :: Lu bb p A c l) (fun v L' => v = U0 /\ (((q = true \/ 65536 < l.length + s.length) /\ L' = Sl bl true :: Lu bb p A c l) \/ (q = false /\ l.length + s.length <= 65536 /\ ∃ A' c', Gf A' (l ++ s) /\ L' = Sl bl false :: Lu bb (zS bb) A' c' (l ++ s)))) := by
 refine yQ [] Tryz.func30 rfl rfl rfl ?_;cases q with
 | true =>
   refine tr 2 ?_;refine Lb 7 cH .here ?_;refine Sr 4 T9 .here .here ?_;refine Lb 5 cH .here ?_;exact eb [] trivial [_, _, _] zx ⟨rfl, .inl ⟨.inl rfl, rfl⟩⟩
 | false =>
   by_cases hlong : 65536 < l.length + s.length
   ·refine tr 2 ?_;refine Lb 1 cH .here ?_;refine zg ((xC EO rfl (.cons .h1 .k1) (fun m' hm he => SO) rfl ?_)) rfl;rintro _ _ ⟨rfl, rfl⟩;refine vr 1 ?_;refine pe 0 (yT rfl ei) ?_;refine pe 0 (xK rfl rfl za) ?_;refine y4 1 ?_;refine Sr 4 T9 .h2 .here ?_;refine Lb 5 cH .h2 ?_;exact eb [] trivial [_, _, _] (.cons .h2 .pp) ⟨rfl, .inl ⟨.inr hlong, rfl⟩⟩
   ·refine tr 2 ?_;refine Lb 1 cH .here ?_;refine zg ((xC EO rfl (.cons .h1 .k1) (fun m' hm he => SO) rfl ?_)) rfl;rintro _ _ ⟨rfl, rfl⟩;refine vr 1 ?_;refine pe 0 (yT rfl ei) ?_;refine pe 0 (xK rfl rfl za) ?_;refine zH 1 ?_;refine Sr 4 T9 .h2 .here ?_;refine Lb 6 cH .h2 ?_
    refine zg ((xC aa rfl (.cons .here .k0) (fun m' hm he => vu hp hA za) rfl ?_)) rfl;rintro _ _ ⟨A2, c2, hB2, rfl, rfl⟩;refine vr 1 ?_;exact eb [] trivial [_, _, _] (.cons .h2 .pp) ⟨rfl, .inr ⟨rfl, by omega, A2, c2, hB2, rfl⟩⟩
end
section
open Wd Tp Kd
variable {m : Mp}
def C7 (bl : Nat) (b : ew) (s : Bt) (L' : List yb) : Prop := ∃ T q, gF b = some T /\ L' = [Sl bl q] /\ ((q = false /\ s = T /\ T.length <= 65536) \/ (q = true /\ 65536 < T.length))
structure Fs where
 i : Nat
 q : Bool
 p : Value
 A : Oa
 c : Nat
 l : Bt
 T : Bt
structure C6 (b : ew) (bb k : Nat) (y : Fs) : Prop where
 cat : jV ((q8 b).take k) = some y.T
 st : (y.q = false /\ y.l = y.T) \/ (y.q = true /\ 65536 < y.T.length)
 len : y.l.length <= 65536
 buf : Gf y.A y.l
 pb : PB bb y.p
variable {F K : Oa} {b : ew} {fc kc : Nat}
theorem S0 (hT : qB m) (hU : xU m) {B bl : Nat} (hR : Rd m (some ⟨B, 0, none⟩) (KP K b.cards.length kc F b.fmts.length fc)) (hC : jc m K b.cards) (hF : gH m F b.fmts) (hs : R2 b) :
  Vw Tryz.prog 28 [zS B, zS bl] m [Sl bl false] (fun v L' => ∃ s, v = .string (bs s) /\ C7 bl b s L') (fun v _ => gF b = none /\ v = eg) := by
 have hc0 : mc m ⟨B, 0, none⟩ = some (.slice K b.cards.length kc) := hR.at_ (i := 0) rfl;have hc1 : mc m ⟨B, 1, none⟩ = some (.slice F b.fmts.length fc) := hR.at_ (i := 1) rfl;have hlc := hs.lc;have hlf := hs.lf;have htl := dE b;refine ym [.tmp 2] Tryz.func28 rfl rfl rfl ?_
 have hno : ¬ (b.cards.length <= 240 /\ b.fmts.length <= 240) -> gF b = none := fun h => by unfold gF; rw [if_neg h]
 by_cases hL1 : b.cards.length <= 240
 rotate_left
 ·refine tr 8 ?_;refine Lo 1 b8 rfl hc0 ?_;refine zH 6 ?_;refine Cn ye rfl zq ?_ ?_
  ·rintro _ _ ⟨h1, rfl⟩;exact pn ⟨hno (fun h => hL1 h.1), rfl⟩
  rintro _ _ ⟨h1, rfl, rfl⟩;cases h1
 by_cases hL2 : b.fmts.length <= 240
 rotate_left
 ·refine tr 8 ?_;refine Lo 1 b8 rfl hc0 ?_;refine y4 2 ?_;refine Lo 1 cJ rfl hc1 ?_;refine zH 1 ?_;refine Cn ye rfl zq ?_ ?_
  ·rintro _ _ ⟨h1, rfl⟩;exact pn ⟨hno (fun h => hL2 h.2), rfl⟩
  rintro _ _ ⟨h1, rfl, rfl⟩;cases h1
 have hbk : gF b = jV (q8 b) := by unfold gF; rw [if_pos ⟨hL1, hL2⟩]; rfl
 refine tr 8 ?_;refine Lo 1 b8 rfl hc0 ?_;refine y4 2 ?_;refine Lo 1 cJ rfl hc1 ?_;refine y4 1 ?_;refine Cn ye rfl zq ?_ ?_
 ·rintro _ _ ⟨h1, rfl⟩;exact absurd rfl h1
 rintro _ _ ⟨h1, rfl, rfl⟩;refine vr 4 ?_;refine Al 10 SQ fun b1 => ?_;refine jS 5 1 ?_;refine tr 2 ?_;refine Lo 5 b8 rfl hc0 ?_
 refine yv (α := Fs) (fun y => [(0, zS B), (1, zS bl), (3, zS b1), (4, .func (.func 30) [].toArray [zS bl, zS b1].toArray), (24, .slice K b.cards.length kc), (25, .int .i64 (b.cards.length : Nat)), (26, .int .i64 (y.i : Nat))]) (fun y => Sl bl y.q :: Lu b1 y.p y.A y.c y.l) (fun y => y.i <= b.cards.length /\ C6 b b1 y.i y) (fun y => b.cards.length - y.i) ⟨0, false, .pointer none, none, 0, [], []⟩ VX (.cons .h2 (.cons .h1 .p0)) ⟨Nat.zero_le _, ⟨rfl, .inl ⟨rfl, rfl⟩, Nat.zero_le _, Gf.nil, .inl rfl⟩⟩ ?_
 rintro ⟨i, q, p, A, c, l, T⟩ ⟨hi, hI⟩;dsimp only at hi;dsimp only;by_cases hlt : i < b.cards.length
 ·have hti : i < (q8 b).length := by omega
  obtain ⟨hstop, hcat2⟩ := XZ hti hI.cat;rw [Js hlt] at hstop hcat2;obtain ⟨vs, hrd, hvl, hel⟩ := hC;have hA : K.isSome = true := hrd.isSome za;have hat := hrd.elem (i * 12) 12;have hx := hel i hlt;have hsm := hs.c _ (List.getElem_mem hlt);have hl12 : ((vs.drop (i * 12)).take 12).length = 12 := by obtain ⟨q, h, -⟩ := hx; rw [h]; rfl
  have hsz : ∀ s, um b.cards[i] = some s -> s.length <= 21000 := fun s h => G6 h;clear hel;generalize b.cards[i] = x at hstop hcat2 hx hsm hsz;have hxq := hx;obtain ⟨cq, hcv, -⟩ := hxq;rw [hcv] at hat hx;clear hcv hl12;refine tr 2 ?_;refine y4 10 ?_;refine pe 0 (zo WS rfl rfl hA za) ?_;refine La 0 kI hat ?_;refine Al 0 Vx fun b2 => ?_;refine Sg 4 kI .here ?_
  refine Lc 0 kI .here ?_;refine Cr CD rfl (fun m' hm he => (FC (hT.mono hm) (hU.mono hm) (hx.mono hm) hsm)) ?_;rintro _ rfl;cases hcp : um x with
  | none =>
    dsimp only [IH];refine vr 10 ?_;refine zH 0 ?_;refine Cn ye rfl zq ?_ ?_
    ·rintro _ _ ⟨h1, rfl⟩;refine yk ?_;refine zC ?_;exact pn ⟨hbk.trans (hstop hcp), rfl⟩
    rintro _ _ ⟨h1, rfl, rfl⟩;cases h1
  | some s =>
    dsimp only [IH];have hsl := hsz s hcp;have hcat2 := hcat2 s hcp;refine vr 10 ?_;refine xf 0 ?_;refine Cn ye rfl zq ?_ ?_
    ·rintro _ _ ⟨h1, rfl⟩;exact absurd rfl h1
    rintro _ _ ⟨h1, rfl, rfl⟩;refine vr 5 ?_;refine zg ((vV (p := []) (q := [zS bl, zS b1]) (vs := [.string (bs s)]) (ppost := fun _ _ => False) EP rfl rfl (.cons .h1 (.cons .h1 .k1)) (fun m' hm he => (Sc hI.pb hI.buf hI.len za).toP) rfl ?_ ?_)) rfl
    ·rintro _ _ h;exact h.elim
    rintro _ _ ⟨rfl, ⟨hlg, rfl⟩ | ⟨hq, hle, A2, c2, hB2, rfl⟩⟩
    ·refine vr 4 ?_;refine Pa 2 ?_;refine QR (⟨i + 1, true, p, A, c, l, T ++ s⟩ : Fs) (.cons .here .pp) ⟨hlt, hcat2, .inr ⟨rfl, ?_⟩, hI.len, hI.buf, hI.pb⟩ yV;show 65536 < (T ++ s).length;rw [List.length_append];rcases hI.st with ⟨g1, g2⟩ | ⟨g1, g2⟩
     ·have g1 : q = false := g1;have g2 : l = T := g2;rcases hlg with h | h
      ·rw [g1] at h; cases h
      ·rw [<- g2]; exact h
     ·have g2 : 65536 < T.length := g2;omega
    ·have hlT : l = T := by
      rcases hI.st with ⟨g1, g2⟩ | ⟨g1, g2⟩
      ·exact g2
      ·have g1 : q = true := g1;rw [hq] at g1;cases g1
     refine vr 4 ?_;refine Pa 2 ?_;exact QR (⟨i + 1, false, zS b1, A2, c2, l ++ s, T ++ s⟩ : Fs) (.cons .here .pp) ⟨hlt, hcat2, .inl ⟨rfl, by show l ++ s = T ++ s; rw [hlT]⟩, by show (l ++ s).length <= _; rw [List.length_append]; exact hle, hB2, .inr rfl⟩ yV
 have hie : i = b.cards.length := by omega
 subst hie;clear hlt hi;refine tr 2 ?_;refine zH 6 ?_;refine zm ?_;refine zk ?_;refine qt 5 ?_;refine Lo 5 cJ rfl hc1 ?_
 refine yv (α := Fs) (fun y => [(0, zS B), (1, zS bl), (3, zS b1), (4, .func (.func 30) [].toArray [zS bl, zS b1].toArray), (43, .slice F b.fmts.length fc), (44, .int .i64 (b.fmts.length : Nat)), (45, .int .i64 (y.i : Nat))]) (fun y => Sl bl y.q :: Lu b1 y.p y.A y.c y.l) (fun y => y.i <= b.fmts.length /\ C6 b b1 (b.cards.length + y.i) y) (fun y => b.fmts.length - y.i) ⟨0, q, p, A, c, l, T⟩ VX zx ⟨Nat.zero_le _, ⟨hI.cat, hI.st, hI.len, hI.buf, hI.pb⟩⟩ ?_
 clear hI;rintro ⟨i, q, p, A, c, l, T⟩ ⟨hi, hI⟩;dsimp only at hi hI;dsimp only;by_cases hlt : i < b.fmts.length
 ·have hti : b.cards.length + i < (q8 b).length := by omega
  obtain ⟨hstop, hcat2⟩ := XZ hti hI.cat;rw [Gj hlt] at hstop hcat2;obtain ⟨vs, hrd, hvl, hel⟩ := hF;have hA : F.isSome = true := hrd.isSome za;have hat := hrd.elem (i * 7) 7;have hx := hel i hlt;have hsm := hs.f _ (List.getElem_mem hlt);have hsz : ∀ s, fw b.fmts[i] = some s -> s.length <= 90000000000 := fun s h => H8 hsm h;clear hel
  generalize b.fmts[i] = x at hstop hcat2 hx hsm hsz;obtain ⟨cq, hcv, hxB, hxS⟩ := hx;rw [hcv] at hat;clear hcv;refine tr 2 ?_;refine y4 10 ?_;refine pe 0 (zo Lg rfl rfl hA za) ?_;refine La 0 gx hat ?_;refine Al 0 Vy fun b2 => ?_;refine Sg 4 gx .here ?_;refine Lc 0 gx .here ?_
  refine Cp CC rfl .nil (fun m' hm he => NM (hT.mono hm) (hU.mono hm) (hxB.mono hm) (hxS.mono hm) hsm) ?_ ?_
  ·rintro _ _ ⟨g1, rfl⟩;refine yk ?_;refine zC ?_;exact pn ⟨hbk.trans (hstop g1), rfl⟩
  rintro _ _ ⟨s, g1, rfl, rfl⟩;have hsl := hsz s g1;have hcat2 := hcat2 s g1;skip;refine zg ((vV (p := []) (q := [zS bl, zS b1]) (vs := [.string (bs s)]) (ppost := fun _ _ => False) EP rfl rfl (.cons .h1 (.cons .h1 .k1)) (fun m' hm he => (Sc hI.pb hI.buf hI.len za).toP) rfl ?_ ?_)) rfl
  ·rintro _ _ h;exact h.elim
  rintro _ _ ⟨rfl, ⟨hlg, rfl⟩ | ⟨hq, hle, A2, c2, hB2, rfl⟩⟩
  ·refine vr 4 ?_;refine Pa 2 ?_;refine QR (⟨i + 1, true, p, A, c, l, T ++ s⟩ : Fs) (.cons .here .pp) ⟨hlt, hcat2, .inr ⟨rfl, ?_⟩, hI.len, hI.buf, hI.pb⟩ yV;show 65536 < (T ++ s).length;rw [List.length_append];rcases hI.st with ⟨g1, g2⟩ | ⟨g1, g2⟩
   ·have g1 : q = false := g1;have g2 : l = T := g2;rcases hlg with h | h
    ·rw [g1] at h; cases h
    ·rw [<- g2]; exact h
   ·have g2 : 65536 < T.length := g2;omega
  ·have hlT : l = T := by
    rcases hI.st with ⟨g1, g2⟩ | ⟨g1, g2⟩
    ·exact g2
    ·have g1 : q = true := g1;rw [hq] at g1;cases g1
   refine vr 4 ?_;refine Pa 2 ?_;exact QR (⟨i + 1, false, zS b1, A2, c2, l ++ s, T ++ s⟩ : Fs) (.cons .here .pp) ⟨hlt, hcat2, .inl ⟨rfl, by show l ++ s = T ++ s; rw [hlT]⟩, by show (l ++ s).length <= _; rw [List.length_append]; exact hle, hB2, .inr rfl⟩ yV
 have hie : i = b.fmts.length := by omega
 subst hie;have hcT := hI.cat;rw [<- htl, List.take_length] at hcT;refine tr 2 ?_;refine zH 6 ?_;refine zm ?_;refine zk ?_;refine qt 3 ?_;refine zg ((xC KB rfl (.cons .h1 .k1) (fun m' hm he => gi hI.buf (Nat.le_trans hI.len zb)) rfl ?_)) rfl;rintro _ _ ⟨rfl, rfl⟩;refine vr 4 ?_
 refine yp [_] zj [_] .p0 ⟨l, rfl, T, q, hbk.trans hcT, rfl, ?_⟩;rcases hI.st with ⟨g1, g2⟩ | ⟨g1, g2⟩
 ·have g2 : l = T := g2;exact .inl ⟨g1, g2, by rw [<- g2]; exact hI.len⟩
 ·exact .inr ⟨g1, g2⟩
theorem Jt {T : Bt} (h : gF b = some T) : gZ b = if 65536 < T.length then ([], 3) else (T, 0) := by unfold gZ; rw [h]
theorem Mw (h : gF b = none) : gZ b = ([], 2) := by unfold gZ; rw [h]
abbrev txV (r : Bt × Int) : Value := .tuple [.string (bs r.1), .int .i64 r.2].toArray
theorem Ft (hT : qB m) (hU : xU m) (hC : jc m K b.cards) (hF : gH m F b.fmts) (hs : R2 b) :
  CS Tryz.prog 11 [.agg (KP K b.cards.length kc F b.fmts.length fc).toArray] m [] (vQ (txV (gZ b))) := by
 refine yQ [.tmp 2, .tmp 3] Tryz.func11 rfl rfl rfl ?_;refine tr 2 ?_;refine Bx 5 rfl fun b1 => ?_;refine zG .here (fun ns hi _ hd1 => ?_);have hR : Rd (yj m ns) (some ⟨b1, 0, none⟩) (KP K b.cards.length kc F b.fmts.length fc) := (Rd.blk hi).mono (yq hd1);have hl2 : Le m (yj m ns) := zU _ _;clear hi hd1;refine tr 1 ?_;refine Al 0 zl4 fun b2 => ?_;refine Sr 5 T9 .here .here ?_
 refine C1 EQ rfl .here (fun m' hm he => MI (g := 28) (q := [zS b1, zS b2]) (pre := [Sl b2 false]) (N := gF b = none) (I := fun s L' => C7 b2 b s L') CE (fun m2 h2 => have hl := hl2.trans (hm.trans h2); S0 (hT.mono hl) (hU.mono hl) (hR.mono (hm.trans h2)) (hC.mono hl) (hF.mono hl) hs)) ?_;rintro _ _ hq
 rcases hq with ⟨s, rfl, T, q, hbT, rfl, ⟨rfl, rfl, hle⟩ | ⟨rfl, hgt⟩⟩ | ⟨hs, rfl, rfl⟩
 ·rw [Jt hbT, if_neg za];dsimp only [IH];refine vr 11 ?_;refine xf 1 ?_;refine Lb 15 cH .here ?_;exact gT hl2 [_, _] vv [] ya ⟨rfl, rfl⟩
 ·rw [Jt hbT, if_pos hgt];dsimp only [IH];refine vr 11 ?_;refine xf 1 ?_;refine Lb 12 cH .here ?_;exact gT hl2 [_, _] vv [] ya ⟨rfl, rfl⟩
 ·rw [Mw hs];dsimp only [IH];refine vr 11 ?_;refine zH 17 ?_;exact gT hl2 [_, _] vv [] ya ⟨rfl, rfl⟩
end
section
open Wd Tp Kd
variable {m : Mp}
abbrev dd : Value := .agg ([] : Lv).toArray
abbrev ZS (f : FuncId) : Value := .func (.func f) [dd].toArray [].toArray
def O7 (cs : Lv) : Prop := ∃ (a1 a2 a3 : Int) (A1 : Oa) (n1 k1 : Nat), cs = [.int .i8 a1, .int .i64 a2, .int .i8 a3, .slice A1 n1 k1]
variable {A A' : Oa} {c c' : Nat} {us vs : Lv}
theorem NZ {R : zY -> zY -> Prop} {l l' : List zY} (hr : Rd m A vs) (hv : vs.length = l.length * 4) (hr' : Rd m A' us) (hv' : us.length = l'.length * 4) (hl : l.length <= 9223372036854775807) (hl' : l'.length <= 9223372036854775807) (hf : ∀ i, i < l.length -> O7 ((vs.drop (i * 4)).take 4)) (hf' : ∀ i, i < l'.length -> O7 ((us.drop (i * 4)).take 4)) (hone : ∀ (i : Nat) (h : i < l.length) (h' : i < l'.length) (m' : Mp), Le m m' -> CS Tryz.prog 67 [dd, .agg ((vs.drop (i * 4)).take 4).toArray, .agg ((us.drop (i * 4)).take 4).toArray] m' [] (qi (R l[i] l'[i]))) :
  CS Tryz.prog 108 [.slice A l.length c, .slice A' l'.length c', ZS 67] m [] (qi (l.length = l'.length /\ ∀ (i : Nat) (h : i < l.length) (h' : i < l'.length), R l[i] l'[i])) := by
 refine yQ [.tmp 6] Tryz.func108 rfl rfl rfl ?_;by_cases g : l.length = l'.length
 rotate_left
 ·refine tr 12 ?_;refine y4 10 ?_;exact xE zj ⟨.inr ⟨rfl, fun h => g h.1⟩, rfl⟩
 refine tr 12 ?_;refine zH 14 ?_
 refine yv (α := Nat) (fun i => [(0, .slice A l.length c), (1, .slice A' l'.length c'), (2, ZS 67), (15, .slice A l.length c), (16, .int .i64 (l.length : Nat)), (17, .int .i64 (i : Nat))]) (fun _ => []) (fun i => i <= l.length /\ ∀ (j : Nat) (h : j < l.length) (h' : j < l'.length), j < i -> R l[j] l'[j]) (fun i => l.length - i) 0 gB ya ⟨Nat.zero_le _, fun _ _ _ h => by cases h⟩ ?_
 rintro i ⟨hi, hall⟩;by_cases hlt : i < l.length
 ·have hlt2 : i < l'.length := by omega
  have hA : A.isSome = true := hr.isSome za;have hA2 : A'.isSome = true := hr'.isSome za;have hat := hr.elem (i * 4) 4;have hat2 := hr'.elem (i * 4) 4;have h1 := hone i hlt hlt2;obtain ⟨a1, a2, a3, A1, n1, k1, e⟩ := hf i hlt;obtain ⟨a1', a2', a3', A1', n1', k1', e2⟩ := hf' i hlt2;rw [e] at hat h1;rw [e2] at hat2 h1;have hal := hall;clear hall hone hf hf';refine tr 2 ?_
  refine y4 11 ?_;refine pe 0 (zo dc rfl rfl hA za) ?_;refine La 0 zT hat ?_;refine Al 1 uw fun b1 => ?_;refine Sg 6 zT .here ?_;refine pe 0 (zo dc rfl rfl hA2 za) ?_;refine La 0 zT hat2 ?_;refine Al 0 uw fun b2 => ?_;refine Sg 5 zT .here ?_;refine Lc 0 zT .h1 ?_;refine Lc 0 zT .here ?_
  refine zg ((uP (p := [dd]) (q := []) EJ rfl rfl (fun m' hm he => h1 m' hm) rfl ?_)) rfl;rintro _ _ ⟨⟨rfl, hq⟩ | ⟨rfl, hq⟩, rfl⟩
  ·refine vr 8 ?_;refine Pa 2 ?_;refine QR (i + 1) ya ⟨hlt, fun j h h' hj => ?_⟩ za;rcases Nat.lt_or_ge j i with h2 | h2
   ·exact hal j h h' h2
   ·obtain rfl : j = i := by omega
    exact hq
  ·refine vr 12 ?_;refine zu ?_;refine zp ?_;refine zD ?_;exact xE zj ⟨.inr ⟨rfl, fun h => hq (h.2 i hlt hlt2)⟩, rfl⟩
 ·refine tr 2 ?_;refine zH 6 ?_;refine zm ?_;refine zk ?_;refine qt 7 ?_;exact xE zj ⟨.inl ⟨rfl, g, fun j h h' => hall j h h' za⟩, rfl⟩
def Pc (cs : Lv) : Prop := ∃ (a1 a2 : Int) (s1 : Bt) (A1 : Oa) (n1 k1 : Nat) (A2 : Oa) (n2 k2 : Nat), cs = [.int .i8 a1, .int .i8 a2, .string (bs s1), .slice A1 n1 k1, .slice A2 n2 k2]
theorem T3 {R : zI -> zI -> Prop} {l l' : List zI} (hr : Rd m A vs) (hv : vs.length = l.length * 5) (hr' : Rd m A' us) (hv' : us.length = l'.length * 5) (hl : l.length <= 9223372036854775807) (hl' : l'.length <= 9223372036854775807) (hf : ∀ i, i < l.length -> Pc ((vs.drop (i * 5)).take 5)) (hf' : ∀ i, i < l'.length -> Pc ((us.drop (i * 5)).take 5)) (hone : ∀ (i : Nat) (h : i < l.length) (h' : i < l'.length) (m' : Mp), Le m m' -> CS Tryz.prog 68 [dd, .agg ((vs.drop (i * 5)).take 5).toArray, .agg ((us.drop (i * 5)).take 5).toArray] m' [] (qi (R l[i] l'[i]))) :
  CS Tryz.prog 109 [.slice A l.length c, .slice A' l'.length c', ZS 68] m [] (qi (l.length = l'.length /\ ∀ (i : Nat) (h : i < l.length) (h' : i < l'.length), R l[i] l'[i])) := by
 refine yQ [.tmp 6] Tryz.func109 rfl rfl rfl ?_;by_cases g : l.length = l'.length
 rotate_left
 ·refine tr 12 ?_;refine y4 10 ?_;exact xE zj ⟨.inr ⟨rfl, fun h => g h.1⟩, rfl⟩
 refine tr 12 ?_;refine zH 14 ?_
 refine yv (α := Nat) (fun i => [(0, .slice A l.length c), (1, .slice A' l'.length c'), (2, ZS 68), (15, .slice A l.length c), (16, .int .i64 (l.length : Nat)), (17, .int .i64 (i : Nat))]) (fun _ => []) (fun i => i <= l.length /\ ∀ (j : Nat) (h : j < l.length) (h' : j < l'.length), j < i -> R l[j] l'[j]) (fun i => l.length - i) 0 gB ya ⟨Nat.zero_le _, fun _ _ _ h => by cases h⟩ ?_
 rintro i ⟨hi, hall⟩;by_cases hlt : i < l.length
 ·have hlt2 : i < l'.length := by omega
  have hA : A.isSome = true := hr.isSome za;have hA2 : A'.isSome = true := hr'.isSome za;have hat := hr.elem (i * 5) 5;have hat2 := hr'.elem (i * 5) 5;have h1 := hone i hlt hlt2;obtain ⟨a1, a2, s1, A1, n1, k1, A2, n2, k2, e⟩ := hf i hlt;obtain ⟨a1', a2', s1', A1', n1', k1', A2', n2', k2', e2⟩ := hf' i hlt2;rw [e] at hat h1;rw [e2] at hat2 h1;have hal := hall;clear hall hone hf hf'
  refine tr 2 ?_;refine y4 11 ?_;refine pe 0 (zo jy rfl rfl hA za) ?_;refine La 0 xP hat ?_;refine Al 1 gr fun b1 => ?_;refine Sg 6 xP .here ?_;refine pe 0 (zo jy rfl rfl hA2 za) ?_;refine La 0 xP hat2 ?_;refine Al 0 gr fun b2 => ?_;refine Sg 5 xP .here ?_;refine Lc 0 xP .h1 ?_;refine Lc 0 xP .here ?_
  refine zg ((uP (p := [dd]) (q := []) EI rfl rfl (fun m' hm he => h1 m' hm) rfl ?_)) rfl;rintro _ _ ⟨⟨rfl, hq⟩ | ⟨rfl, hq⟩, rfl⟩
  ·refine vr 8 ?_;refine Pa 2 ?_;refine QR (i + 1) ya ⟨hlt, fun j h h' hj => ?_⟩ za;rcases Nat.lt_or_ge j i with h2 | h2
   ·exact hal j h h' h2
   ·obtain rfl : j = i := by omega
    exact hq
  ·refine vr 12 ?_;refine zu ?_;refine zp ?_;refine zD ?_;exact xE zj ⟨.inr ⟨rfl, fun h => hq (h.2 i hlt hlt2)⟩, rfl⟩
 ·refine tr 2 ?_;refine zH 6 ?_;refine zm ?_;refine zk ?_;refine qt 7 ?_;exact xE zj ⟨.inl ⟨rfl, g, fun j h h' => hall j h h' za⟩, rfl⟩
def Pb (cs : Lv) : Prop := ∃ (a1 a2 a3 a4 a5 a6 a7 : Int) (s1 s2 : Bt) (A1 : Oa) (n1 k1 : Nat) (A2 : Oa) (n2 k2 : Nat) (A3 : Oa) (n3 k3 : Nat) (A4 : Oa) (n4 k4 : Nat) (A5 : Oa) (n5 k5 : Nat), cs = [.int .i8 a1, .int .i8 a2, .int .i8 a3, .int .i64 a4, .int .i8 a5, .slice A1 n1 k1, .string (bs s1), .int .i8 a6, .int .i8 a7, .string (bs s2), .slice A2 n2 k2, .slice A3 n3 k3, .slice A4 n4 k4, .slice A5 n5 k5]
theorem Eu {R : zW -> zW -> Prop} {l l' : List zW} (hr : Rd m A vs) (hv : vs.length = l.length * 14) (hr' : Rd m A' us) (hv' : us.length = l'.length * 14) (hl : l.length <= 9223372036854775807) (hl' : l'.length <= 9223372036854775807) (hf : ∀ i, i < l.length -> Pb ((vs.drop (i * 14)).take 14)) (hf' : ∀ i, i < l'.length -> Pb ((us.drop (i * 14)).take 14)) (hone : ∀ (i : Nat) (h : i < l.length) (h' : i < l'.length) (m' : Mp), Le m m' -> CS Tryz.prog 44 [dd, .agg ((vs.drop (i * 14)).take 14).toArray, .agg ((us.drop (i * 14)).take 14).toArray] m' [] (qi (R l[i] l'[i]))) :
  CS Tryz.prog 43 [.slice A l.length c, .slice A' l'.length c', ZS 44] m [] (qi (l.length = l'.length /\ ∀ (i : Nat) (h : i < l.length) (h' : i < l'.length), R l[i] l'[i])) := by
 refine yQ [.tmp 6] Tryz.func43 rfl rfl rfl ?_;by_cases g : l.length = l'.length
 rotate_left
 ·refine tr 12 ?_;refine y4 10 ?_;exact xE zj ⟨.inr ⟨rfl, fun h => g h.1⟩, rfl⟩
 refine tr 12 ?_;refine zH 14 ?_
 refine yv (α := Nat) (fun i => [(0, .slice A l.length c), (1, .slice A' l'.length c'), (2, ZS 44), (15, .slice A l.length c), (16, .int .i64 (l.length : Nat)), (17, .int .i64 (i : Nat))]) (fun _ => []) (fun i => i <= l.length /\ ∀ (j : Nat) (h : j < l.length) (h' : j < l'.length), j < i -> R l[j] l'[j]) (fun i => l.length - i) 0 gB ya ⟨Nat.zero_le _, fun _ _ _ h => by cases h⟩ ?_
 rintro i ⟨hi, hall⟩;by_cases hlt : i < l.length
 ·have hlt2 : i < l'.length := by omega
  have hA : A.isSome = true := hr.isSome za;have hA2 : A'.isSome = true := hr'.isSome za;have hat := hr.elem (i * 14) 14;have hat2 := hr'.elem (i * 14) 14;have h1 := hone i hlt hlt2;obtain ⟨a1, a2, a3, a4, a5, a6, a7, s1, s2, A1, n1, k1, A2, n2, k2, A3, n3, k3, A4, n4, k4, A5, n5, k5, e⟩ := hf i hlt
  obtain ⟨a1', a2', a3', a4', a5', a6', a7', s1', s2', A1', n1', k1', A2', n2', k2', A3', n3', k3', A4', n4', k4', A5', n5', k5', e2⟩ := hf' i hlt2;rw [e] at hat h1;rw [e2] at hat2 h1;have hal := hall;clear hall hone hf hf';refine tr 2 ?_;refine y4 11 ?_;refine pe 0 (zo VJ rfl rfl hA za) ?_;refine La 0 wF hat ?_;refine Al 1 qn fun b1 => ?_;refine Sg 6 wF .here ?_
  refine pe 0 (zo VJ rfl rfl hA2 za) ?_;refine La 0 wF hat2 ?_;refine Al 0 qn fun b2 => ?_;refine Sg 5 wF .here ?_;refine Lc 0 wF .h1 ?_;refine Lc 0 wF .here ?_;refine zg ((uP (p := [dd]) (q := []) Cx rfl rfl (fun m' hm he => h1 m' hm) rfl ?_)) rfl;rintro _ _ ⟨⟨rfl, hq⟩ | ⟨rfl, hq⟩, rfl⟩
  ·refine vr 8 ?_;refine Pa 2 ?_;refine QR (i + 1) ya ⟨hlt, fun j h h' hj => ?_⟩ za;rcases Nat.lt_or_ge j i with h2 | h2
   ·exact hal j h h' h2
   ·obtain rfl : j = i := by omega
    exact hq
  ·refine vr 12 ?_;refine zu ?_;refine zp ?_;refine zD ?_;exact xE zj ⟨.inr ⟨rfl, fun h => hq (h.2 i hlt hlt2)⟩, rfl⟩
 ·refine tr 2 ?_;refine zH 6 ?_;refine zm ?_;refine zk ?_;refine qt 7 ?_;exact xE zj ⟨.inl ⟨rfl, g, fun j h h' => hall j h h' za⟩, rfl⟩
def O8 (cs : Lv) : Prop := ∃ (s1 : Bt) (u : Bool) (a1 a2 a3 a4 a5 a6 a7 : Int) (A1 : Oa) (n1 k1 : Nat) (A2 : Oa) (n2 k2 : Nat) (A3 : Oa) (n3 k3 : Nat), cs = [.string (bs s1), .bool u, .int .i64 a1, .int .i64 a2, .int .i64 a3, .int .i64 a4, .int .i64 a5, .int .i64 a6, .slice A1 n1 k1, .slice A2 n2 k2, .slice A3 n3 k3, .int .i64 a7]
theorem Ew {R : zP -> zP -> Prop} {l l' : List zP} (hr : Rd m A vs) (hv : vs.length = l.length * 12) (hr' : Rd m A' us) (hv' : us.length = l'.length * 12) (hl : l.length <= 9223372036854775807) (hl' : l'.length <= 9223372036854775807) (hf : ∀ i, i < l.length -> O8 ((vs.drop (i * 12)).take 12)) (hf' : ∀ i, i < l'.length -> O8 ((us.drop (i * 12)).take 12)) (hone : ∀ (i : Nat) (h : i < l.length) (h' : i < l'.length) (m' : Mp), Le m m' -> CS Tryz.prog 16 [dd, .agg ((vs.drop (i * 12)).take 12).toArray, .agg ((us.drop (i * 12)).take 12).toArray] m' [] (qi (R l[i] l'[i]))) :
  CS Tryz.prog 15 [.slice A l.length c, .slice A' l'.length c', ZS 16] m [] (qi (l.length = l'.length /\ ∀ (i : Nat) (h : i < l.length) (h' : i < l'.length), R l[i] l'[i])) := by
 refine yQ [.tmp 6] Tryz.func15 rfl rfl rfl ?_;by_cases g : l.length = l'.length
 rotate_left
 ·refine tr 12 ?_;refine y4 10 ?_;exact xE zj ⟨.inr ⟨rfl, fun h => g h.1⟩, rfl⟩
 refine tr 12 ?_;refine zH 14 ?_
 refine yv (α := Nat) (fun i => [(0, .slice A l.length c), (1, .slice A' l'.length c'), (2, ZS 16), (15, .slice A l.length c), (16, .int .i64 (l.length : Nat)), (17, .int .i64 (i : Nat))]) (fun _ => []) (fun i => i <= l.length /\ ∀ (j : Nat) (h : j < l.length) (h' : j < l'.length), j < i -> R l[j] l'[j]) (fun i => l.length - i) 0 gB ya ⟨Nat.zero_le _, fun _ _ _ h => by cases h⟩ ?_
 rintro i ⟨hi, hall⟩;by_cases hlt : i < l.length
 ·have hlt2 : i < l'.length := by omega
  have hA : A.isSome = true := hr.isSome za;have hA2 : A'.isSome = true := hr'.isSome za;have hat := hr.elem (i * 12) 12;have hat2 := hr'.elem (i * 12) 12;have h1 := hone i hlt hlt2;obtain ⟨s1, u, a1, a2, a3, a4, a5, a6, a7, A1, n1, k1, A2, n2, k2, A3, n3, k3, e⟩ := hf i hlt
  obtain ⟨s1', u', a1', a2', a3', a4', a5', a6', a7', A1', n1', k1', A2', n2', k2', A3', n3', k3', e2⟩ := hf' i hlt2;rw [e] at hat h1;rw [e2] at hat2 h1;have hal := hall;clear hall hone hf hf';refine tr 2 ?_;refine y4 11 ?_;refine pe 0 (zo WS rfl rfl hA za) ?_;refine La 0 kI hat ?_;refine Al 1 Vx fun b1 => ?_;refine Sg 6 kI .here ?_
  refine pe 0 (zo WS rfl rfl hA2 za) ?_;refine La 0 kI hat2 ?_;refine Al 0 Vx fun b2 => ?_;refine Sg 5 kI .here ?_;refine Lc 0 kI .h1 ?_;refine Lc 0 kI .here ?_;refine zg ((uP (p := [dd]) (q := []) CQ rfl rfl (fun m' hm he => h1 m' hm) rfl ?_)) rfl;rintro _ _ ⟨⟨rfl, hq⟩ | ⟨rfl, hq⟩, rfl⟩
  ·refine vr 8 ?_;refine Pa 2 ?_;refine QR (i + 1) ya ⟨hlt, fun j h h' hj => ?_⟩ za;rcases Nat.lt_or_ge j i with h2 | h2
   ·exact hal j h h' h2
   ·obtain rfl : j = i := by omega
    exact hq
  ·refine vr 12 ?_;refine zu ?_;refine zp ?_;refine zD ?_;exact xE zj ⟨.inr ⟨rfl, fun h => hq (h.2 i hlt hlt2)⟩, rfl⟩
 ·refine tr 2 ?_;refine zH 6 ?_;refine zm ?_;refine zk ?_;refine qt 7 ?_;exact xE zj ⟨.inl ⟨rfl, g, fun j h h' => hall j h h' za⟩, rfl⟩
def O9 (cs : Lv) : Prop := ∃ (s1 : Bt) (a1 a2 a3 a7 : Int) (A1 : Oa) (n1 k1 : Nat) (A2 : Oa) (n2 k2 : Nat), cs = [.string (bs s1), .int .i64 a1, .int .i64 a2, .int .i64 a3, .slice A1 n1 k1, .slice A2 n2 k2, .int .i64 a7]
theorem Ev {R : y6 -> y6 -> Prop} {l l' : List y6} (hr : Rd m A vs) (hv : vs.length = l.length * 7) (hr' : Rd m A' us) (hv' : us.length = l'.length * 7) (hl : l.length <= 9223372036854775807) (hl' : l'.length <= 9223372036854775807) (hf : ∀ i, i < l.length -> O9 ((vs.drop (i * 7)).take 7)) (hf' : ∀ i, i < l'.length -> O9 ((us.drop (i * 7)).take 7)) (hone : ∀ (i : Nat) (h : i < l.length) (h' : i < l'.length) (m' : Mp), Le m m' -> CS Tryz.prog 18 [dd, .agg ((vs.drop (i * 7)).take 7).toArray, .agg ((us.drop (i * 7)).take 7).toArray] m' [] (qi (R l[i] l'[i]))) :
  CS Tryz.prog 17 [.slice A l.length c, .slice A' l'.length c', ZS 18] m [] (qi (l.length = l'.length /\ ∀ (i : Nat) (h : i < l.length) (h' : i < l'.length), R l[i] l'[i])) := by
 refine yQ [.tmp 6] Tryz.func17 rfl rfl rfl ?_;by_cases g : l.length = l'.length
 rotate_left
 ·refine tr 12 ?_;refine y4 10 ?_;exact xE zj ⟨.inr ⟨rfl, fun h => g h.1⟩, rfl⟩
 refine tr 12 ?_;refine zH 14 ?_
 refine yv (α := Nat) (fun i => [(0, .slice A l.length c), (1, .slice A' l'.length c'), (2, ZS 18), (15, .slice A l.length c), (16, .int .i64 (l.length : Nat)), (17, .int .i64 (i : Nat))]) (fun _ => []) (fun i => i <= l.length /\ ∀ (j : Nat) (h : j < l.length) (h' : j < l'.length), j < i -> R l[j] l'[j]) (fun i => l.length - i) 0 gB ya ⟨Nat.zero_le _, fun _ _ _ h => by cases h⟩ ?_
 rintro i ⟨hi, hall⟩;by_cases hlt : i < l.length
 ·have hlt2 : i < l'.length := by omega
  have hA : A.isSome = true := hr.isSome za;have hA2 : A'.isSome = true := hr'.isSome za;have hat := hr.elem (i * 7) 7;have hat2 := hr'.elem (i * 7) 7;have h1 := hone i hlt hlt2;obtain ⟨s1, a1, a2, a3, a7, A1, n1, k1, A2, n2, k2, e⟩ := hf i hlt;obtain ⟨s1', a1', a2', a3', a7', A1', n1', k1', A2', n2', k2', e2⟩ := hf' i hlt2;rw [e] at hat h1;rw [e2] at hat2 h1;have hal := hall
  clear hall hone hf hf';refine tr 2 ?_;refine y4 11 ?_;refine pe 0 (zo Lg rfl rfl hA za) ?_;refine La 0 gx hat ?_;refine Al 1 Vy fun b1 => ?_;refine Sg 6 gx .here ?_;refine pe 0 (zo Lg rfl rfl hA2 za) ?_;refine La 0 gx hat2 ?_;refine Al 0 Vy fun b2 => ?_;refine Sg 5 gx .here ?_;refine Lc 0 gx .h1 ?_;refine Lc 0 gx .here ?_
  refine zg ((uP (p := [dd]) (q := []) CN rfl rfl (fun m' hm he => h1 m' hm) rfl ?_)) rfl;rintro _ _ ⟨⟨rfl, hq⟩ | ⟨rfl, hq⟩, rfl⟩
  ·refine vr 8 ?_;refine Pa 2 ?_;refine QR (i + 1) ya ⟨hlt, fun j h h' hj => ?_⟩ za;rcases Nat.lt_or_ge j i with h2 | h2
   ·exact hal j h h' h2
   ·obtain rfl : j = i := by omega
    exact hq
  ·refine vr 12 ?_;refine zu ?_;refine zp ?_;refine zD ?_;exact xE zj ⟨.inr ⟨rfl, fun h => hq (h.2 i hlt hlt2)⟩, rfl⟩
 ·refine tr 2 ?_;refine zH 6 ?_;refine zm ?_;refine zk ?_;refine qt 7 ?_;exact xE zj ⟨.inl ⟨rfl, g, fun j h h' => hall j h h' za⟩, rfl⟩
end
section
open Wd Tp Kd
variable {m : Mp}
variable {cs : Lv} {x : zY}
theorem I1 (h : xr m cs x) : O7 cs := by
 cases h;exact ⟨_, _, _, _, _, _, rfl⟩
theorem Sp {x : zI} (h : yP m cs x) : Pc cs := by
 cases h;exact ⟨_, _, _, _, _, _, _, _, _, rfl⟩
theorem So {x : zW} (h : un m cs x) : Pb cs := by
 obtain ⟨_, _, _, _, _, _, _, _, _, _, _, _, _, _, _, _, _, _, _, _, _, _, _, _, e⟩ := h.form;exact ⟨_, _, _, _, _, _, _, _, _, _, _, _, _, _, _, _, _, _, _, _, _, _, _, _, e⟩
variable {α : Type} {l l' : List α}
theorem Qx (h : l.length = l'.length /\ ∀ (i : Nat) (h : i < l.length) (h' : i < l'.length), l[i] = l'[i]) : l = l' := List.ext_getElem h.1 h.2
theorem Qd (h : l = l') : l.length = l'.length /\ ∀ (i : Nat) (h : i < l.length) (h' : i < l'.length), l[i] = l'[i] := by
 subst h;exact ⟨rfl, fun _ _ _ => rfl⟩
variable {xs : Lv}
theorem Sh (hx : xr m xs x) : ∀ {ys : Lv} {y : zY}, xr m ys y -> ∀ m0, Le m m0 -> CS Tryz.prog 67 [dd, .agg xs.toArray, .agg ys.toArray] m0 [] (qi (x = y)) := by
 induction hx with
 | @mk op n who kids A len c vs ho hln hmx hr hv hkk ih =>
 subst hln;intro ys y hy;cases hy with
 | @mk op' n' who' kids' A' len' c' us ho' hln' hmx' hr' hv' hkk' =>
 subst hln';intro m0 hm0;have hmx : kids.length <= 9223372036854775807 := hmx;have hmx' : kids'.length <= 9223372036854775807 := hmx';refine yQ [.tmp 6] Tryz.func67 rfl rfl rfl ?_;by_cases g0 : op = op'
 rotate_left
 ·refine tr 2 ?_;refine Bx 0 rfl fun b1 => ?_;refine Bx 0 rfl fun b2 => ?_;refine Bx 6 rfl fun b3 => ?_;refine Lb 1 ze .h1 ?_;refine Lb 0 ze .here ?_;refine zF 27 ?_;exact xE zj ⟨.inr ⟨rfl, fun h => g0 (by cases h; rfl)⟩, rfl⟩
 by_cases g1 : n = n'
 rotate_left
 ·refine tr 2 ?_;refine Bx 0 rfl fun b1 => ?_;refine Bx 0 rfl fun b2 => ?_;refine Bx 6 rfl fun b3 => ?_;refine Lb 1 ze .h1 ?_;refine Lb 0 ze .here ?_;refine yr 2 ?_;refine Lb 1 yl .h1 ?_;refine Lb 0 yl .here ?_;refine zF 21 ?_;exact xE zj ⟨.inr ⟨rfl, fun h => g1 (by cases h; rfl)⟩, rfl⟩
 by_cases g2 : who = who'
 rotate_left
 ·refine tr 2 ?_;refine Bx 0 rfl fun b1 => ?_;refine Bx 0 rfl fun b2 => ?_;refine Bx 6 rfl fun b3 => ?_;refine Lb 1 ze .h1 ?_;refine Lb 0 ze .here ?_;refine yr 2 ?_;refine Lb 1 yl .h1 ?_;refine Lb 0 yl .here ?_;refine yr 3 ?_;refine Lb 1 ze .h1 ?_;refine Lb 0 ze .here ?_;refine zF 14 ?_;exact xE zj ⟨.inr ⟨rfl, fun h => g2 (by cases h; rfl)⟩, rfl⟩
 refine tr 2 ?_;refine Bx 0 rfl fun b1 => ?_;refine Bx 0 rfl fun b2 => ?_;refine Bx 6 rfl fun b3 => ?_;refine Lb 1 ze .h1 ?_;refine Lb 0 ze .here ?_;refine yr 2 ?_;refine Lb 1 yl .h1 ?_;refine Lb 0 yl .here ?_;refine yr 3 ?_;refine Lb 1 ze .h1 ?_;refine Lb 0 ze .here ?_;refine yr 3 ?_;refine Lb 1 xO .h1 ?_;refine Lb 0 xO .here ?_;refine Lc 1 VO .h2 ?_
 refine zg ((yK SC rfl (fun m' hm he => NZ (R := fun a b => a = b) (hr.mono (hm0.trans hm)) hv (hr'.mono (hm0.trans hm)) hv' hmx hmx' (fun i h => I1 (hkk i h)) (fun i h => I1 (hkk' i h)) fun i h h' m2 hm2 => ih i h (hkk' i h') m2 ((hm0.trans hm).trans hm2)) rfl ?_)) rfl;rintro _ _ ⟨⟨rfl, q1⟩ | ⟨rfl, hq⟩, rfl⟩
 rotate_left
 ·refine vr 5 ?_;exact xE zj ⟨.inr ⟨rfl, fun h => hq (by cases h; exact Qd rfl)⟩, rfl⟩
 refine vr 5 ?_;exact xE zj ⟨.inl ⟨rfl, by rw [g0, g1, g2, Qx q1]⟩, rfl⟩
theorem PM {A A' : Oa} {c c' : Nat} {l l' : List zY} {vs us : Lv} (hr : Rd m A vs) (hv : vs.length = l.length * 4) (hr' : Rd m A' us) (hv' : us.length = l'.length * 4) (hl : l.length <= 9223372036854775807) (hl' : l'.length <= 9223372036854775807) (hx : ∀ (i : Nat) (h : i < l.length), xr m ((vs.drop (i * 4)).take 4) l[i]) (hy : ∀ (i : Nat) (h : i < l'.length), xr m ((us.drop (i * 4)).take 4) l'[i]) : CS Tryz.prog 108 [.slice A l.length c, .slice A' l'.length c', ZS 67] m [] (qi (l = l')) := by
 refine (NZ (R := fun a b => a = b) hr hv hr' hv' hl hl' (fun i h => I1 (hx i h)) (fun i h => I1 (hy i h)) fun i h h' m2 hm2 => Sh (hx i h) (hy i h') m2 hm2).mono ?_;rintro v L' ⟨⟨rfl, h⟩ | ⟨rfl, h⟩, rfl⟩
 ·exact ⟨.inl ⟨rfl, Qx h⟩, rfl⟩
 ·exact ⟨.inr ⟨rfl, fun e => h (Qd e)⟩, rfl⟩
theorem T7 {x : zI} (hx : yP m xs x) : ∀ {ys : Lv} {y : zI}, yP m ys y -> ∀ m0, Le m m0 -> CS Tryz.prog 68 [dd, .agg xs.toArray, .agg ys.toArray] m0 [] (qi (x = y)) := by
 induction hx with
 | @mk op who name nums kids A B la ca lb cb vs ws ho hw hn hla hma hra hva hka hlb hmb hrb hvb hkb ih =>
 subst hla hlb;intro ys y hy;cases hy with
 | @mk op' who' name' nums' kids' A' B' la' ca' lb' cb' vs' ws' ho' hw' hn' hla' hma' hra' hva' hka' hlb' hmb' hrb' hvb' hkb' =>
 subst hla' hlb';intro m0 hm0;have hma : nums.length <= 9223372036854775807 := hma;have hma' : nums'.length <= 9223372036854775807 := hma';have hmb : kids.length <= 9223372036854775807 := hmb;have hmb' : kids'.length <= 9223372036854775807 := hmb';refine yQ [.tmp 6] Tryz.func68 rfl rfl rfl ?_;by_cases g0 : op = op'
 rotate_left
 ·refine tr 2 ?_;refine Bx 0 rfl fun b1 => ?_;refine Bx 0 rfl fun b2 => ?_;refine Bx 6 rfl fun b3 => ?_;refine Lb 1 ze .h1 ?_;refine Lb 0 ze .here ?_;refine zF 36 ?_;exact xE zj ⟨.inr ⟨rfl, fun h => g0 (by cases h; rfl)⟩, rfl⟩
 by_cases g1 : who = who'
 rotate_left
 ·refine tr 2 ?_;refine Bx 0 rfl fun b1 => ?_;refine Bx 0 rfl fun b2 => ?_;refine Bx 6 rfl fun b3 => ?_;refine Lb 1 ze .h1 ?_;refine Lb 0 ze .here ?_;refine yr 2 ?_;refine Lb 1 ze .h1 ?_;refine Lb 0 ze .here ?_;refine zF 30 ?_;exact xE zj ⟨.inr ⟨rfl, fun h => g1 (by cases h; rfl)⟩, rfl⟩
 by_cases g2 : name = name'
 rotate_left
 ·refine tr 2 ?_;refine Bx 0 rfl fun b1 => ?_;refine Bx 0 rfl fun b2 => ?_;refine Bx 6 rfl fun b3 => ?_;refine Lb 1 ze .h1 ?_;refine Lb 0 ze .here ?_;refine yr 2 ?_;refine Lb 1 ze .h1 ?_;refine Lb 0 ze .here ?_;refine yr 3 ?_;refine Lb 1 yI .h1 ?_;refine Lb 0 yI .here ?_;refine zF 23 ?_;exact xE zj ⟨.inr ⟨rfl, fun h => g2 (by cases h; rfl)⟩, rfl⟩
 refine tr 2 ?_;refine Bx 0 rfl fun b1 => ?_;refine Bx 0 rfl fun b2 => ?_;refine Bx 6 rfl fun b3 => ?_;refine Lb 1 ze .h1 ?_;refine Lb 0 ze .here ?_;refine yr 2 ?_;refine Lb 1 ze .h1 ?_;refine Lb 0 ze .here ?_;refine yr 3 ?_;refine Lb 1 yI .h1 ?_;refine Lb 0 yI .here ?_;refine yr 3 ?_;refine Lb 1 xO .h1 ?_;refine Lb 0 xO .here ?_;refine Lc 1 VO .h2 ?_
 refine zg ((yK SC rfl (fun m' hm he => PM (hra.mono (hm0.trans hm)) hva (hra'.mono (hm0.trans hm)) hva' hma hma' (fun i h => (hka i h).mono (hm0.trans hm)) fun i h => (hka' i h).mono (hm0.trans hm)) rfl ?_)) rfl;rintro _ _ ⟨⟨rfl, q1⟩ | ⟨rfl, hq⟩, rfl⟩
 rotate_left
 ·refine vr 14 ?_;exact xE zj ⟨.inr ⟨rfl, fun h => hq (by cases h; rfl)⟩, rfl⟩
 refine vr 3 ?_;refine Lb 1 wT .h1 ?_;refine Lb 0 wT .here ?_;refine Lc 1 VO .h2 ?_;refine zg ((yK Df rfl (fun m' hm he => T3 (R := fun a b => a = b) (hrb.mono (hm0.trans hm)) hvb (hrb'.mono (hm0.trans hm)) hvb' hmb hmb' (fun i h => Sp (hkb i h)) (fun i h => Sp (hkb' i h)) fun i h h' m2 hm2 => ih i h (hkb' i h') m2 ((hm0.trans hm).trans hm2)) rfl ?_)) rfl
 rintro _ _ ⟨⟨rfl, q2⟩ | ⟨rfl, hq⟩, rfl⟩
 rotate_left
 ·refine vr 5 ?_;exact xE zj ⟨.inr ⟨rfl, fun h => hq (by cases h; exact Qd rfl)⟩, rfl⟩
 refine vr 5 ?_;exact xE zj ⟨.inl ⟨rfl, by rw [g0, g1, g2, q1, Qx q2]⟩, rfl⟩
def BE (l : List zW) : Prop := ∀ (m : Mp) (A : Oa) (c : Nat) (l2 : List zW) (A2 : Oa) (c2 : Nat), xV m A l.length l -> xV m A2 l2.length l2 -> CS Tryz.prog 43 [.slice A l.length c, .slice A2 l2.length c2, ZS 44] m [] (qi (l = l2))
theorem EA {ys : Lv} {op who : Int} {n : zY} {name : Bt} {c : zI} {a e : List zW} {y : zW} (hx : un m xs (.mk op who n name c a e)) (hy : un m ys y) (kA : BE a) (kE : BE e) : CS Tryz.prog 44 [dd, .agg xs.toArray, .agg ys.toArray] m [] (qi (zW.mk op who n name c a e = y)) := by
 obtain ⟨op, who, nop, nn, nwho, nA, nlen, nc, name, cop, cwho, cname, cA, cla, cca, cB, clb, ccb, TA, la, ca, EB, lb, cb, n, cond, thn, els, rfl, hmk, -, hn, hc, hthn, hels⟩ := un.parts hx
 obtain ⟨op', who', nop', nn', nwho', nA', nlen', nc', name', cop', cwho', cname', cA', cla', cca', cB', clb', ccb', TA', la', ca', EB', lb', cb', n', cond', thn', els', rfl, rfl, -, hn', hc', hthn', hels'⟩ := un.parts hy;cases hmk;have e1 := hthn.1;have e2 := hels.1;have e3 := hthn'.1;have e4 := hels'.1;subst e1 e2 e3 e4;clear hx hy;refine yQ [.tmp 6] Tryz.func44 rfl rfl rfl ?_
 by_cases g0 : op = op'
 rotate_left
 ·refine tr 2 ?_;refine Bx 0 rfl fun b1 => ?_;refine Bx 0 rfl fun b2 => ?_;refine Bx 6 rfl fun b3 => ?_;refine Lb 1 ze .h1 ?_;refine Lb 0 ze .here ?_;refine zF 52 ?_;exact xE zj ⟨.inr ⟨rfl, fun h => g0 (by cases h; rfl)⟩, rfl⟩
 by_cases g1 : who = who'
 rotate_left
 ·refine tr 2 ?_;refine Bx 0 rfl fun b1 => ?_;refine Bx 0 rfl fun b2 => ?_;refine Bx 6 rfl fun b3 => ?_;refine Lb 1 ze .h1 ?_;refine Lb 0 ze .here ?_;refine yr 2 ?_;refine Lb 1 ze .h1 ?_;refine Lb 0 ze .here ?_;refine zF 46 ?_;exact xE zj ⟨.inr ⟨rfl, fun h => g1 (by cases h; rfl)⟩, rfl⟩
 by_cases g2 : name = name'
 rotate_left
 ·refine tr 2 ?_;refine Bx 0 rfl fun b1 => ?_;refine Bx 0 rfl fun b2 => ?_;refine Bx 6 rfl fun b3 => ?_;refine Lb 1 ze .h1 ?_;refine Lb 0 ze .here ?_;refine yr 2 ?_;refine Lb 1 ze .h1 ?_;refine Lb 0 ze .here ?_;refine yr 3 ?_;refine Lb 1 yI .h1 ?_;refine Lb 0 yI .here ?_;refine zF 39 ?_;exact xE zj ⟨.inr ⟨rfl, fun h => g2 (by cases h; rfl)⟩, rfl⟩
 refine tr 2 ?_;refine Bx 0 rfl fun b1 => ?_;refine Bx 0 rfl fun b2 => ?_;refine Bx 6 rfl fun b3 => ?_;refine Lb 1 ze .h1 ?_;refine Lb 0 ze .here ?_;refine yr 2 ?_;refine Lb 1 ze .h1 ?_;refine Lb 0 ze .here ?_;refine yr 3 ?_;refine Lb 1 yI .h1 ?_;refine Lb 0 yI .here ?_;refine yr 2 ?_;refine Lc 1 VO .h2 ?_;refine lr 1 (Z4 zT rfl .h1 rfl) ?_
 refine lr 0 (Z4 zT rfl .here rfl) ?_;refine zg ((yK EJ rfl (fun m' hm he => Sh hn hn' m' hm) rfl ?_)) rfl;rintro _ _ ⟨⟨rfl, q1⟩ | ⟨rfl, hq⟩, rfl⟩
 rotate_left
 ·refine vr 31 ?_;exact xE zj ⟨.inr ⟨rfl, fun h => hq (by cases h; rfl)⟩, rfl⟩
 refine vr 2 ?_;refine Lc 1 VO .h2 ?_;refine lr 1 (Z4 xP rfl .h1 rfl) ?_;refine lr 0 (Z4 xP rfl .here rfl) ?_;refine zg ((yK EI rfl (fun m' hm he => T7 hc hc' m' hm) rfl ?_)) rfl;rintro _ _ ⟨⟨rfl, q2⟩ | ⟨rfl, hq⟩, rfl⟩
 rotate_left
 ·refine vr 23 ?_;exact xE zj ⟨.inr ⟨rfl, fun h => hq (by cases h; rfl)⟩, rfl⟩
 refine vr 3 ?_;refine Lb 1 y8 .h1 ?_;refine Lb 0 y8 .here ?_;refine Lc 1 VO .h2 ?_;refine zg ((yK Fd rfl (fun m' hm he => kA m' TA ca thn' TA' ca' (hthn.mono hm) (hthn'.mono hm)) rfl ?_)) rfl;rintro _ _ ⟨⟨rfl, q3⟩ | ⟨rfl, hq⟩, rfl⟩
 rotate_left
 ·refine vr 14 ?_;exact xE zj ⟨.inr ⟨rfl, fun h => hq (by cases h; rfl)⟩, rfl⟩
 refine vr 3 ?_;refine Lb 1 y8 .h1 ?_;refine Lb 0 y8 .here ?_;refine Lc 1 VO .h2 ?_;refine zg ((yK Fd rfl (fun m' hm he => kE m' EB cb els' EB' cb' (hels.mono hm) (hels'.mono hm)) rfl ?_)) rfl;rintro _ _ ⟨⟨rfl, q4⟩ | ⟨rfl, hq⟩, rfl⟩
 rotate_left
 ·refine vr 5 ?_;exact xE zj ⟨.inr ⟨rfl, fun h => hq (by cases h; rfl)⟩, rfl⟩
 refine vr 5 ?_;exact xE zj ⟨.inl ⟨rfl, by rw [g0, g1, g2, q1, q2, q3, q4]⟩, rfl⟩
theorem Rw {l : List zW} (ih : ∀ (i : Nat) (h : i < l.length) (op who : Int) (n : zY) (name : Bt) (c : zI) (a e : List zW), l[i] = .mk op who n name c a e -> BE a /\ BE e) : BE l := by
 rintro m A c l2 A2 c2 ⟨-, hml, vs, hrd, hvl, hel⟩ ⟨-, hml2, us, hrd2, hul, hel2⟩;refine (Eu (R := fun a b => a = b) hrd hvl hrd2 hul hml hml2 (fun i h => So (hel i h)) (fun i h => So (hel2 i h)) fun i h h' m2 hm2 => ?_).mono ?_
 ·have hx := (hel i h).mono hm2;have hih := ih i h;generalize l[i] = x at hx hih;cases x with
  | mk op who n name c a e =>
  obtain ⟨ha, he⟩ := hih _ _ _ _ _ _ _ rfl;exact EA hx ((hel2 i h').mono hm2) ha he
 ·rintro v L' ⟨⟨rfl, h⟩ | ⟨rfl, h⟩, rfl⟩
  ·exact ⟨.inl ⟨rfl, Qx h⟩, rfl⟩
  ·exact ⟨.inr ⟨rfl, fun e => h (Qd e)⟩, rfl⟩
theorem bE (l : List zW) : BE l := Rw fun i h op who n name c a e he => ⟨bE a, bE e⟩
termination_by SizeOf.sizeOf l
decreasing_by
 all_goals
  have h1 := List.sizeOf_lt_of_mem (List.getElem_mem h);rw [he] at h1;simp only [zW.mk.sizeOf_spec] at h1;omega
end
section
open Wd Tp Kd
variable {m : Mp}
variable {A A' : Oa} {c c' : Nat}
theorem I4 {l l' : List Bt} (hA : Rd m A (l.map xm)) (hA' : Rd m A' (l'.map xm)) (hl : l.length <= 140737488355328) (hl' : l'.length <= 140737488355328) : CS Tryz.prog 45 [.slice A l.length c, .slice A' l'.length c'] m [] (qi (l = l')) := by
 skip;have hl2 := Le.refl m;refine yQ [.tmp 4] Tryz.func45 rfl rfl rfl ?_;by_cases g0 : l.length = l'.length
 rotate_left
 ·refine tr 12 ?_;refine y4 10 ?_;exact JG hl2 zj ⟨.inr ⟨rfl, fun h => g0 (by rw [h])⟩, rfl⟩
 refine tr 12 ?_;refine zH 14 ?_
 refine yv (α := Nat) (fun i => [(0, .slice A l.length c), (1, .slice A' l'.length c'), (11, .slice A l.length c), (12, .int .i64 (l.length : Nat)), (13, .int .i64 (i : Nat))]) (fun _ => []) (fun i => i <= l.length /\ ∀ (j : Nat) (h : j < l.length) (h' : j < l'.length), j < i -> l[j] = l'[j]) (fun i => l.length - i) 0 vX ya ⟨Nat.zero_le _, fun _ _ _ h => by cases h⟩ ?_
 rintro i ⟨hi, hall⟩;by_cases hlt : i < l.length
 ·have hlt2 : i < l'.length := by omega
  have hX : A.isSome = true := hA.isSome (by rw [List.length_map]; omega);have hX2 : A'.isSome = true := hA'.isSome (by rw [List.length_map]; omega);have hcx := hA.at_ (show (l.map xm)[i]? = some (.string (bs l[i])) by simp [hlt, xm]);have hcy := hA'.at_ (show (l'.map xm)[i]? = some (.string (bs l'[i])) by simp [hlt2, xm])
  have hnx : l[i] = l'[i] -> ∀ (j : Nat) (h : j < l.length) (h' : j < l'.length), j < i + 1 -> l[j] = l'[j] := fun hq j h h' hj => by
   by_cases hji : j < i
   ·exact hall j h h' hji
   ·obtain rfl : j = i := by omega
    exact hq
  have hno : l[i] ≠ l'[i] -> l ≠ l' := fun hq h => hq (by subst h; rfl);generalize l[i] = s at hcx hnx hno;generalize l'[i] = t at hcy hnx hno;by_cases hst : s = t
  ·refine tr 2 ?_;refine y4 15 ?_;refine Db (sq [0, 1, 2, 3, 4, 5, 6, 7, 8] .done) ?_;refine vB 2 ?_;refine Vb 0 rfl (zw ql rfl rfl hX za) ?_;refine Vr 2 rfl (zl yI rfl hcx) ?_;refine Vb 0 rfl (zw ql rfl rfl hX2 za) ?_;refine Vr 0 rfl (zl yI rfl hcy) ?_;refine Vb 0 rfl (df (Ij rfl rfl) (fun hx => hx xi)) ?_;refine Vn 6 ?_
   refine Pa 2 ?_;exact UM hl2 (i + 1) vX ya ⟨hlt, hnx hst⟩ za
  ·refine tr 2 ?_;refine y4 15 ?_;refine Db (sq [0, 1, 2, 3, 4, 5, 6, 7, 8] .done) ?_;refine vB 2 ?_;refine Vb 0 rfl (zw ql rfl rfl hX za) ?_;refine Vr 2 rfl (zl yI rfl hcx) ?_;refine Vb 0 rfl (zw ql rfl rfl hX2 za) ?_;refine Vr 0 rfl (zl yI rfl hcy) ?_;refine Vb 0 rfl (dt (Ij rfl rfl) xi) ?_;refine Vn 10 ?_
   refine zu ?_;refine zp ?_;refine zD ?_;exact JG hl2 zj ⟨.inr ⟨rfl, hno hst⟩, rfl⟩
 ·have hi2 : i = l.length := by omega
  subst hi2;have hkk2 : l = l' := List.ext_getElem g0 fun j h h' => hall j h h' h;refine tr 2 ?_;refine zH 6 ?_;refine zm ?_;refine zk ?_;refine qt 7 ?_;exact JG hl2 zj ⟨.inl ⟨rfl, hkk2⟩, rfl⟩
theorem G0 {b : Nat} {l l' : List zW} (hb : At m ⟨b, 0, none⟩ []) (h : xV m A l.length l) (h' : xV m A' l'.length l') : CS Tryz.prog 42 [.slice A l.length c, .slice A' l'.length c', zS b] m [] (qi (l = l')) := by
 refine yQ [.tmp 5] Tryz.func42 rfl rfl rfl ?_;refine tr 9 ?_;refine La 1 VO hb ?_;refine zg ((yK Fd rfl (fun m' hm he => bE l m' A c l' A' c' (h.mono hm) (h'.mono hm)) rfl ?_)) rfl;rintro _ _ ⟨⟨rfl, hq⟩ | ⟨rfl, hq⟩, rfl⟩
 ·refine vr 4 ?_;exact xE zj ⟨.inl ⟨rfl, hq⟩, rfl⟩
 ·refine vr 4 ?_;exact xE zj ⟨.inr ⟨rfl, hq⟩, rfl⟩
variable {env : yW} {p : Bool} {t : TypeId} {x y : Operand}
theorem af {P : Program} {n : Nat} {dst : Option Nat} {yt ty : TypeId} {pos : String} {aft : Array Edge} {gd : Option (Nat × Bool)} (ht : bI P t = true) (hx : ev env x = some (.bool p)) (hy : ev env y = some (.bool p)) : yz P n ⟨dst, .binOp .eql t x y yt, ty, pos, aft, gd⟩ env (.bool true) := by
 have h := O1 (P := P) (n := n) (dst := dst) (yt := yt) (ty := ty) (pos := pos) (aft := aft) (gd := gd) ht hx hy;rwa [beq_self_eq_true] at h
theorem RR {P : Program} {n : Nat} {dst : Option Nat} {yt ty : TypeId} {pos : String} {aft : Array Edge} {gd : Option (Nat × Bool)} {q : Bool} (ht : bI P t = true) (hx : ev env x = some (.bool p)) (hy : ev env y = some (.bool q)) (hne : ¬ p = q) : yz P n ⟨dst, .binOp .eql t x y yt, ty, pos, aft, gd⟩ env (.bool false) := by
 have h := O1 (P := P) (n := n) (dst := dst) (yt := yt) (ty := ty) (pos := pos) (aft := aft) (gd := gd) ht hx hy;rwa [show (p == q) = false from beq_eq_false_iff_ne.2 hne] at h
variable {xs ys : Lv}
theorem Fi {x y : zP} (hx : bh m xs x) (hy : bh m ys y) : CS Tryz.prog 16 [dd, .agg xs.toArray, .agg ys.toArray] m [] (qi (V6 x y)) := by
 obtain ⟨q, rfl, hp, hd, hw⟩ := hx;obtain ⟨r, rfl, hp', hd', hw'⟩ := hy;refine yQ [.tmp 6] Tryz.func16 rfl rfl rfl ?_;refine tr 2 ?_;refine Bx 0 rfl fun b1 => ?_;refine Bx 0 rfl fun b2 => ?_;refine Bx 4 rfl fun b3 => ?_;refine zG .here (fun ns hi _ hd1 => ?_);refine zG .here (fun ns2 hi2 _ hd2 => ?_)
 have hR2 : Rd (yj (yj m ns) ns2) (some ⟨b3, 0, none⟩) (r.v y) := ((Rd.blk hi).mono (yq hd1)).mono (zU _ _);have hR1 : Rd (yj (yj m ns) ns2) (some ⟨b2, 0, none⟩) (q.v x) := (Rd.blk hi2).mono (yq hd2);have hl2 : Le m (yj (yj m ns) ns2) := (zU _ _).trans (zU _ _);clear hi hd1 hi2 hd2;generalize yj (yj m ns) ns2 = m9 at hR1 hR2 hl2
 have ha0 : mc m9 ⟨b2, 0, none⟩ = some (.string (bs x.name)) := hR1.at_ (i := 0) rfl;have ha1 : mc m9 ⟨b2, 1, none⟩ = some (.bool x.unit) := hR1.at_ (i := 1) rfl;have ha2 : mc m9 ⟨b2, 2, none⟩ = some (.int .i64 x.cost) := hR1.at_ (i := 2) rfl;have ha3 : mc m9 ⟨b2, 3, none⟩ = some (.int .i64 x.power) := hR1.at_ (i := 3) rfl
 have ha4 : mc m9 ⟨b2, 4, none⟩ = some (.int .i64 x.health) := hR1.at_ (i := 4) rfl;have ha5 : mc m9 ⟨b2, 5, none⟩ = some (.int .i64 x.shield) := hR1.at_ (i := 5) rfl;have ha6 : mc m9 ⟨b2, 6, none⟩ = some (.int .i64 x.apow) := hR1.at_ (i := 6) rfl;have ha7 : mc m9 ⟨b2, 7, none⟩ = some (.int .i64 x.aheal) := hR1.at_ (i := 7) rfl
 have ha8 : mc m9 ⟨b2, 8, none⟩ = some (.slice q.A x.played.length q.ca) := hR1.at_ (i := 8) rfl;have ha9 : mc m9 ⟨b2, 9, none⟩ = some (.slice q.B x.dead.length q.cb) := hR1.at_ (i := 9) rfl;have ha10 : mc m9 ⟨b2, 10, none⟩ = some (.slice q.D x.dawn.length q.cd) := hR1.at_ (i := 10) rfl;have hb0 : mc m9 ⟨b3, 0, none⟩ = some (.string (bs y.name)) := hR2.at_ (i := 0) rfl
 have hb1 : mc m9 ⟨b3, 1, none⟩ = some (.bool y.unit) := hR2.at_ (i := 1) rfl;have hb2 : mc m9 ⟨b3, 2, none⟩ = some (.int .i64 y.cost) := hR2.at_ (i := 2) rfl;have hb3 : mc m9 ⟨b3, 3, none⟩ = some (.int .i64 y.power) := hR2.at_ (i := 3) rfl;have hb4 : mc m9 ⟨b3, 4, none⟩ = some (.int .i64 y.health) := hR2.at_ (i := 4) rfl
 have hb5 : mc m9 ⟨b3, 5, none⟩ = some (.int .i64 y.shield) := hR2.at_ (i := 5) rfl;have hb6 : mc m9 ⟨b3, 6, none⟩ = some (.int .i64 y.apow) := hR2.at_ (i := 6) rfl;have hb7 : mc m9 ⟨b3, 7, none⟩ = some (.int .i64 y.aheal) := hR2.at_ (i := 7) rfl;have hb8 : mc m9 ⟨b3, 8, none⟩ = some (.slice r.A y.played.length r.ca) := hR2.at_ (i := 8) rfl
 have hb9 : mc m9 ⟨b3, 9, none⟩ = some (.slice r.B y.dead.length r.cb) := hR2.at_ (i := 9) rfl;have hb10 : mc m9 ⟨b3, 10, none⟩ = some (.slice r.D y.dawn.length r.cd) := hR2.at_ (i := 10) rfl;clear hR1 hR2;have hp := hp.mono hl2;have hd := hd.mono hl2;have hw := hw.mono hl2;have hp' := hp'.mono hl2;have hd' := hd'.mono hl2;have hw' := hw'.mono hl2;by_cases g0 : x.name = y.name
 rotate_left
 ·refine tr 8 ?_;refine Lo 1 yI rfl ha0 ?_;refine Lo 0 yI rfl hb0 ?_;refine zF 77 ?_;exact JG hl2 zj ⟨.inr ⟨rfl, fun h => g0 h.1⟩, rfl⟩
 by_cases g1 : x.unit = y.unit
 rotate_left
 ·refine tr 8 ?_;refine Lo 1 yI rfl ha0 ?_;refine Lo 0 yI rfl hb0 ?_;refine yr 2 ?_;refine Lo 1 cH rfl ha1 ?_;refine Lo 0 cH rfl hb1 ?_;refine pe 71 ((RR SG rfl rfl g1)) ?_;exact JG hl2 zj ⟨.inr ⟨rfl, fun h => g1 h.2.1⟩, rfl⟩
 rw [g1] at ha1;by_cases g2 : x.cost = y.cost
 rotate_left
 ·refine tr 8 ?_;refine Lo 1 yI rfl ha0 ?_;refine Lo 0 yI rfl hb0 ?_;refine yr 2 ?_;refine Lo 1 cH rfl ha1 ?_;refine Lo 0 cH rfl hb1 ?_;refine pe 3 ((af SG rfl rfl)) ?_;refine Lo 1 yl rfl ha2 ?_;refine Lo 0 yl rfl hb2 ?_;refine zF 64 ?_;exact JG hl2 zj ⟨.inr ⟨rfl, fun h => g2 h.2.2.1⟩, rfl⟩
 by_cases g3 : x.power = y.power
 rotate_left
 ·refine tr 8 ?_;refine Lo 1 yI rfl ha0 ?_;refine Lo 0 yI rfl hb0 ?_;refine yr 2 ?_;refine Lo 1 cH rfl ha1 ?_;refine Lo 0 cH rfl hb1 ?_;refine pe 3 ((af SG rfl rfl)) ?_;refine Lo 1 yl rfl ha2 ?_;refine Lo 0 yl rfl hb2 ?_;refine yr 3 ?_;refine Lo 1 yl rfl ha3 ?_;refine Lo 0 yl rfl hb3 ?_;refine zF 57 ?_;exact JG hl2 zj ⟨.inr ⟨rfl, fun h => g3 h.2.2.2.1⟩, rfl⟩
 by_cases g4 : x.health = y.health
 rotate_left
 ·refine tr 8 ?_;refine Lo 1 yI rfl ha0 ?_;refine Lo 0 yI rfl hb0 ?_;refine yr 2 ?_;refine Lo 1 cH rfl ha1 ?_;refine Lo 0 cH rfl hb1 ?_;refine pe 3 ((af SG rfl rfl)) ?_;refine Lo 1 yl rfl ha2 ?_;refine Lo 0 yl rfl hb2 ?_;refine yr 3 ?_;refine Lo 1 yl rfl ha3 ?_;refine Lo 0 yl rfl hb3 ?_;refine yr 3 ?_;refine Lo 1 yl rfl ha4 ?_;refine Lo 0 yl rfl hb4 ?_;refine zF 50 ?_
  exact JG hl2 zj ⟨.inr ⟨rfl, fun h => g4 h.2.2.2.2.1⟩, rfl⟩
 by_cases g5 : x.shield = y.shield
 rotate_left
 ·refine tr 8 ?_;refine Lo 1 yI rfl ha0 ?_;refine Lo 0 yI rfl hb0 ?_;refine yr 2 ?_;refine Lo 1 cH rfl ha1 ?_;refine Lo 0 cH rfl hb1 ?_;refine pe 3 ((af SG rfl rfl)) ?_;refine Lo 1 yl rfl ha2 ?_;refine Lo 0 yl rfl hb2 ?_;refine yr 3 ?_;refine Lo 1 yl rfl ha3 ?_;refine Lo 0 yl rfl hb3 ?_;refine yr 3 ?_;refine Lo 1 yl rfl ha4 ?_;refine Lo 0 yl rfl hb4 ?_;refine yr 3 ?_
  refine Lo 1 yl rfl ha5 ?_;refine Lo 0 yl rfl hb5 ?_;refine zF 43 ?_;exact JG hl2 zj ⟨.inr ⟨rfl, fun h => g5 h.2.2.2.2.2.1⟩, rfl⟩
 by_cases g6 : x.apow = y.apow
 rotate_left
 ·refine tr 8 ?_;refine Lo 1 yI rfl ha0 ?_;refine Lo 0 yI rfl hb0 ?_;refine yr 2 ?_;refine Lo 1 cH rfl ha1 ?_;refine Lo 0 cH rfl hb1 ?_;refine pe 3 ((af SG rfl rfl)) ?_;refine Lo 1 yl rfl ha2 ?_;refine Lo 0 yl rfl hb2 ?_;refine yr 3 ?_;refine Lo 1 yl rfl ha3 ?_;refine Lo 0 yl rfl hb3 ?_;refine yr 3 ?_;refine Lo 1 yl rfl ha4 ?_;refine Lo 0 yl rfl hb4 ?_;refine yr 3 ?_
  refine Lo 1 yl rfl ha5 ?_;refine Lo 0 yl rfl hb5 ?_;refine yr 3 ?_;refine Lo 1 yl rfl ha6 ?_;refine Lo 0 yl rfl hb6 ?_;refine zF 36 ?_;exact JG hl2 zj ⟨.inr ⟨rfl, fun h => g6 h.2.2.2.2.2.2.1⟩, rfl⟩
 by_cases g7 : x.aheal = y.aheal
 rotate_left
 ·refine tr 8 ?_;refine Lo 1 yI rfl ha0 ?_;refine Lo 0 yI rfl hb0 ?_;refine yr 2 ?_;refine Lo 1 cH rfl ha1 ?_;refine Lo 0 cH rfl hb1 ?_;refine pe 3 ((af SG rfl rfl)) ?_;refine Lo 1 yl rfl ha2 ?_;refine Lo 0 yl rfl hb2 ?_;refine yr 3 ?_;refine Lo 1 yl rfl ha3 ?_;refine Lo 0 yl rfl hb3 ?_;refine yr 3 ?_;refine Lo 1 yl rfl ha4 ?_;refine Lo 0 yl rfl hb4 ?_;refine yr 3 ?_
  refine Lo 1 yl rfl ha5 ?_;refine Lo 0 yl rfl hb5 ?_;refine yr 3 ?_;refine Lo 1 yl rfl ha6 ?_;refine Lo 0 yl rfl hb6 ?_;refine yr 3 ?_;refine Lo 1 yl rfl ha7 ?_;refine Lo 0 yl rfl hb7 ?_;refine zF 29 ?_;exact JG hl2 zj ⟨.inr ⟨rfl, fun h => g7 h.2.2.2.2.2.2.2.1⟩, rfl⟩
 refine tr 8 ?_;refine Lo 1 yI rfl ha0 ?_;refine Lo 0 yI rfl hb0 ?_;refine yr 2 ?_;refine Lo 1 cH rfl ha1 ?_;refine Lo 0 cH rfl hb1 ?_;refine pe 3 ((af SG rfl rfl)) ?_;refine Lo 1 yl rfl ha2 ?_;refine Lo 0 yl rfl hb2 ?_;refine yr 3 ?_;refine Lo 1 yl rfl ha3 ?_;refine Lo 0 yl rfl hb3 ?_;refine yr 3 ?_;refine Lo 1 yl rfl ha4 ?_;refine Lo 0 yl rfl hb4 ?_;refine yr 3 ?_
 refine Lo 1 yl rfl ha5 ?_;refine Lo 0 yl rfl hb5 ?_;refine yr 3 ?_;refine Lo 1 yl rfl ha6 ?_;refine Lo 0 yl rfl hb6 ?_;refine yr 3 ?_;refine Lo 1 yl rfl ha7 ?_;refine Lo 0 yl rfl hb7 ?_;refine yr 4 ?_;refine Lo 1 y8 rfl ha8 ?_;refine Lo 0 y8 rfl hb8 ?_
 refine zg ((uP (p := []) (q := [zS b1]) Fe rfl rfl (fun m' hm he => G0 (fun i u h => by cases h) (hp.mono hm) (hp'.mono hm)) rfl ?_)) rfl;rintro _ _ ⟨⟨rfl, q0⟩ | ⟨rfl, hq⟩, rfl⟩
 rotate_left
 ·refine vr 21 ?_;exact JG hl2 zj ⟨.inr ⟨rfl, fun h => hq h.2.2.2.2.2.2.2.2.1⟩, rfl⟩
 refine vr 4 ?_;refine Lo 1 y8 rfl ha9 ?_;refine Lo 0 y8 rfl hb9 ?_;refine zg ((uP (p := []) (q := [zS b1]) Fe rfl rfl (fun m' hm he => G0 (fun i u h => by cases h) (hd.mono hm) (hd'.mono hm)) rfl ?_)) rfl;rintro _ _ ⟨⟨rfl, q1⟩ | ⟨rfl, hq⟩, rfl⟩
 rotate_left
 ·refine vr 13 ?_;exact JG hl2 zj ⟨.inr ⟨rfl, fun h => hq h.2.2.2.2.2.2.2.2.2.1⟩, rfl⟩
 refine vr 4 ?_;refine Lo 1 y8 rfl ha10 ?_;refine Lo 0 y8 rfl hb10 ?_;refine zg ((uP (p := []) (q := [zS b1]) Fe rfl rfl (fun m' hm he => G0 (fun i u h => by cases h) (hw.mono hm) (hw'.mono hm)) rfl ?_)) rfl;rintro _ _ ⟨⟨rfl, q2⟩ | ⟨rfl, hq⟩, rfl⟩
 rotate_left
 ·refine vr 5 ?_;exact JG hl2 zj ⟨.inr ⟨rfl, fun h => hq h.2.2.2.2.2.2.2.2.2.2⟩, rfl⟩
 refine vr 5 ?_;exact JG hl2 zj ⟨.inl ⟨rfl, g0, g1, g2, g3, g4, g5, g6, g7, q0, q1, q2⟩, rfl⟩
theorem NN {x y : y6} (hx : VQ m xs x) (hy : VQ m ys y) (hbx : x.banned.length <= 140737488355328 /\ x.single.length <= 140737488355328) (hby : y.banned.length <= 140737488355328 /\ y.single.length <= 140737488355328) : CS Tryz.prog 18 [dd, .agg xs.toArray, .agg ys.toArray] m [] (qi (V5 x y)) := by
 obtain ⟨q, rfl, hp, hd⟩ := hx;obtain ⟨r, rfl, hp', hd'⟩ := hy;refine yQ [.tmp 6] Tryz.func18 rfl rfl rfl ?_;by_cases g0 : x.name = y.name
 rotate_left
 ·refine tr 2 ?_;refine Bx 0 rfl fun b1 => ?_;refine Bx 0 rfl fun b2 => ?_;refine Bx 6 rfl fun b3 => ?_;refine Lb 1 yI .h1 ?_;refine Lb 0 yI .here ?_;refine zF 39 ?_;exact xE zj ⟨.inr ⟨rfl, fun h => g0 h.1⟩, rfl⟩
 by_cases g1 : x.least = y.least
 rotate_left
 ·refine tr 2 ?_;refine Bx 0 rfl fun b1 => ?_;refine Bx 0 rfl fun b2 => ?_;refine Bx 6 rfl fun b3 => ?_;refine Lb 1 yI .h1 ?_;refine Lb 0 yI .here ?_;refine yr 2 ?_;refine Lb 1 yl .h1 ?_;refine Lb 0 yl .here ?_;refine zF 33 ?_;exact xE zj ⟨.inr ⟨rfl, fun h => g1 h.2.1⟩, rfl⟩
 by_cases g2 : x.most = y.most
 rotate_left
 ·refine tr 2 ?_;refine Bx 0 rfl fun b1 => ?_;refine Bx 0 rfl fun b2 => ?_;refine Bx 6 rfl fun b3 => ?_;refine Lb 1 yI .h1 ?_;refine Lb 0 yI .here ?_;refine yr 2 ?_;refine Lb 1 yl .h1 ?_;refine Lb 0 yl .here ?_;refine yr 3 ?_;refine Lb 1 yl .h1 ?_;refine Lb 0 yl .here ?_;refine zF 26 ?_;exact xE zj ⟨.inr ⟨rfl, fun h => g2 h.2.2.1⟩, rfl⟩
 by_cases g3 : x.copies = y.copies
 rotate_left
 ·refine tr 2 ?_;refine Bx 0 rfl fun b1 => ?_;refine Bx 0 rfl fun b2 => ?_;refine Bx 6 rfl fun b3 => ?_;refine Lb 1 yI .h1 ?_;refine Lb 0 yI .here ?_;refine yr 2 ?_;refine Lb 1 yl .h1 ?_;refine Lb 0 yl .here ?_;refine yr 3 ?_;refine Lb 1 yl .h1 ?_;refine Lb 0 yl .here ?_;refine yr 3 ?_;refine Lb 1 yl .h1 ?_;refine Lb 0 yl .here ?_;refine zF 19 ?_
  exact xE zj ⟨.inr ⟨rfl, fun h => g3 h.2.2.2.1⟩, rfl⟩
 refine tr 2 ?_;refine Bx 0 rfl fun b1 => ?_;refine Bx 0 rfl fun b2 => ?_;refine Bx 6 rfl fun b3 => ?_;refine Lb 1 yI .h1 ?_;refine Lb 0 yI .here ?_;refine yr 2 ?_;refine Lb 1 yl .h1 ?_;refine Lb 0 yl .here ?_;refine yr 3 ?_;refine Lb 1 yl .h1 ?_;refine Lb 0 yl .here ?_;refine yr 3 ?_;refine Lb 1 yl .h1 ?_;refine Lb 0 yl .here ?_;refine yr 3 ?_;refine Lb 1 Zh .h1 ?_
 refine Lb 0 Zh .here ?_;refine zg ((yK EN rfl (fun m' hm he => I4 (hp.1.mono hm) (hp'.1.mono hm) hbx.1 hby.1) rfl ?_)) rfl;rintro _ _ ⟨⟨rfl, q0⟩ | ⟨rfl, hq⟩, rfl⟩
 rotate_left
 ·refine vr 12 ?_;exact xE zj ⟨.inr ⟨rfl, fun h => hq h.2.2.2.2.1⟩, rfl⟩
 refine vr 3 ?_;refine Lb 1 Zh .h1 ?_;refine Lb 0 Zh .here ?_;refine zg ((yK EN rfl (fun m' hm he => I4 (hd.1.mono hm) (hd'.1.mono hm) hbx.2 hby.2) rfl ?_)) rfl;rintro _ _ ⟨⟨rfl, q1⟩ | ⟨rfl, hq⟩, rfl⟩
 rotate_left
 ·refine vr 5 ?_;exact xE zj ⟨.inr ⟨rfl, fun h => hq h.2.2.2.2.2⟩, rfl⟩
 refine vr 5 ?_;exact xE zj ⟨.inl ⟨rfl, g0, g1, g2, g3, q0, q1⟩, rfl⟩
end
section
open Wd Tp Kd
variable {m : Mp}
end
section
open Wd Tp Kd
variable {m : Mp}
end
section
open Wd Tp Kd
variable {m : Mp}
end
section
open Wd Tp Kd
variable {m : Mp}
end
section
open Wd Tp Kd
variable {m : Mp}
end
section
open Kd
variable {m : Mp}
theorem WY (op : Int) : CS Tryz.prog 118 [.int .i8 op] m [] (vQ (.bool (yU op))) := by
 refine yQ [.tmp 2] Tryz.func118 rfl rfl rfl ?_;by_cases h0 : op = 0
 ·refine tr 15 ?_;refine yr 15 ?_
  (exact xE zj ⟨congrArg Value.bool (by simp [yU, *]), rfl⟩)
 by_cases h1 : op = 1
 ·refine tr 15 ?_;refine zF 6 ?_;refine yr 15 ?_
  (exact xE zj ⟨congrArg Value.bool (by simp [yU, *]), rfl⟩)
 by_cases h2 : op = 2
 ·refine tr 15 ?_;refine zF 6 ?_;refine zF 6 ?_;refine yr 15 ?_
  (exact xE zj ⟨congrArg Value.bool (by simp [yU, *]), rfl⟩)
 by_cases h3 : op = 3
 ·refine tr 15 ?_;refine zF 6 ?_;refine zF 6 ?_;refine zF 6 ?_;refine yr 15 ?_
  (exact xE zj ⟨congrArg Value.bool (by simp [yU, *]), rfl⟩)
 by_cases h5 : op = 5
 ·refine tr 15 ?_;refine zF 6 ?_;refine zF 6 ?_;refine zF 6 ?_;refine zF 5 ?_;refine yr 12 ?_
  (exact xE zj ⟨congrArg Value.bool (by simp [yU, *]), rfl⟩)
 ·refine tr 15 ?_;refine zF 6 ?_;refine zF 6 ?_;refine zF 6 ?_;refine zF 5 ?_;refine zF 13 ?_
  (exact xE zj ⟨congrArg Value.bool (by simp [yU, *]), rfl⟩)
theorem ej (w : Int) : CS Tryz.prog 120 [.int .i8 w] m [] (vQ (.bool (jD w))) := by
 refine yQ [.tmp 2] Tryz.func120 rfl rfl rfl ?_;by_cases h0 : w = 0
 ·refine tr 8 ?_;refine yr 8 ?_
  (exact xE zj ⟨congrArg Value.bool (by simp [jD, *]), rfl⟩)
 by_cases h1 : w = 1
 ·refine tr 8 ?_;refine zF 2 ?_;refine yr 5 ?_
  (exact xE zj ⟨congrArg Value.bool (by simp [jD, *]), rfl⟩)
 ·refine tr 8 ?_;refine zF 2 ?_;refine zF 5 ?_
  (exact xE zj ⟨congrArg Value.bool (by simp [jD, *]), rfl⟩)
end
namespace Kd
open Go Go.Eng
def w9 (t : Bool) (op n who : Int) (k : Nat) : Bool :=
 if op = 0 then decide (0 <= n) && decide (n <= 999) && decide (who = 0) && decide (k = 0)
 else if op = 1 \/ op = 2 \/ op = 3 \/ op = 4 then decide (n = 0) && jD who && decide (k = 0)
 else if op = 5 \/ op = 6 then decide (n = 0) && decide (who = 0) && decide (k = 0)
 else if op = 7 then decide (n = 0) && (decide (who = 0) && t) && decide (k = 0)
 else if op = 8 \/ op = 9 \/ op = 10 \/ op = 11 \/ op = 12 then decide (n = 0) && decide (who = 0) && decide (k = 2)
 else false
inductive dz (t : Bool) : zY -> Prop
 | mk {op n who : Int} {kids : List zY} (hh : w9 t op n who kids.length = true) (hk : ∀ (i : Nat) (h : i < kids.length), dz t kids[i]) : dz t (.mk op n who kids)
abbrev Us := Bt -> Option Bool
def u0 (u : Us) (op who : Int) (name : Bt) (a b : Nat) : Bool :=
 if op = 0 \/ op = 1 \/ op = 2 then (decide (who = 0) && decide (name = [])) && decide (a = 2) && decide (b = 0)
 else if op = 3 then (decide (who = 0) && decide (name = [])) && decide (a = 0) && decide (b = 1)
 else if op = 4 \/ op = 5 then (decide (who = 0) && decide (name = [])) && decide (a = 0) && decide (b = 2)
 else if op = 6 then ((u name).isSome && jD who) && decide (a = 0) && decide (b = 0)
 else false
inductive bg (u : Us) (t : Bool) : zI -> Prop
 | mk {op who : Int} {name : Bt} {nums : List zY} {kids : List zI} (hh : u0 u op who name nums.length kids.length = true) (hn : ∀ (i : Nat) (h : i < nums.length), dz t nums[i]) (hk : ∀ (i : Nat) (h : i < kids.length), bg u t kids[i]) : bg u t (.mk op who name nums kids)
def Gg (a b c d : Nat) : Int := IntKind.i64.wrap (IntKind.i64.wrap (IntKind.i64.wrap ((a : Int) + b) + c) + d)
def Ir : zW -> Bool
 | .mk op _ (.mk nop nn nwho nk) name (.mk cop cwho cname cns ck) t e =>
   (yU op || (decide (nop = 0) && decide (nn = 0) && decide (nwho = 0) && decide (nk.length = 0))) && (decide (op = 7) || decide (name = [])) &&
   (decide (op = 8) || (decide (cop = 0) && decide (cwho = 0) && decide (cname = []) && decide (Gg cns.length ck.length t.length e.length = 0)))
def xd (u : Us) (t : Bool) (op who : Int) (name : Bt) : Bool :=
 if op = 0 \/ op = 1 then jD who || (decide (who = 2) && t)
 else if op = 2 \/ op = 4 \/ op = 6 then jD who
 else if op = 3 \/ op = 5 then decide (who = 0)
 else if op = 7 then decide (who = 0) && (u name).getD false
 else if op = 8 then decide (who = 0)
 else false
inductive Z8 (u : Us) (t : Bool) : Nat -> zW -> Prop
 | mk {d : Nat} {op who : Int} {n : zY} {name : Bt} {c : zI} {a b : List zW} (hz : Ir (.mk op who n name c a b) = true) (hn : yU op = true -> dz t n) (hw : xd u t op who name = true)
   (hc : op = 8 -> bg u t c) (ha : op = 8 -> a.length <= 16 /\ d + 1 <= 8) (hak : op = 8 -> ∀ (i : Nat) (h : i < a.length), Z8 u t (d + 1) a[i])
   (hb : op = 8 -> b.length <= 16) (hbk : op = 8 -> ∀ (i : Nat) (h : i < b.length), Z8 u t (d + 1) b[i]) : Z8 u t d (.mk op who n name c a b)
def kK (u : Us) (t : Bool) (d : Nat) (l : List zW) : Prop := l.length <= 16 /\ d <= 8 /\ ∀ (i : Nat) (h : i < l.length), Z8 u t d l[i]
end Kd
namespace Kd
open Go Go.Eng
def NY (l : List (Bt × Bool)) : List (Bt × Value) := l.map fun p => (p.1, .bool p.2)
def eC (l : List (Bt × Bool)) : Us := fun s => (l.find? fun p => decide (s = p.1)).map (·.2)
variable {s : Bt}
theorem Yr : ∀ (l : List (Bt × Bool)) (i : Nat), (vb s i (NY l)).map (·.2) = (eC l s).map .bool
 | [], _ => rfl
 | (k, b) :: r, i => by
   show (if s = k then some (i, Value.bool b) else vb s (i + 1) (NY r)).map (·.2) = _;unfold eC;by_cases h : s = k
   ·rw [if_pos h, List.find?_cons_of_pos (by simpa using h)]
    rfl
   ·rw [if_neg h, List.find?_cons_of_neg (by simpa using h)];exact Yr r (i + 1)
variable {l : List (Bt × Bool)}
theorem WM : gv (NY l) s = (eC l s).map .bool := Yr l 0
variable {b : Bool}
theorem MX {s : Bt} (h : eC l s = none) : gK (NY l) s (.bool b) = NY (l ++ [(s, b)]) := by
 have h2 : vb s 0 (NY l) = none := by
  have := Yr (s := s) l 0;rw [h] at this
  simpa using this
 unfold gK;rw [h2]
 simp [NY]
theorem Mo {x : Bt} : eC (l ++ [(x, b)]) s = match eC l s with | some v => some v | none => if s = x then some b else none := by
 unfold eC;rw [List.find?_append];cases h : l.find? (fun p => decide (s = p.1)) with
 | some v => simp
 | none =>
   simp only [Option.none_or, Option.map_none];by_cases hs : s = x <;> simp [hs]
end Kd
section
open Kd
theorem Si {m0 : Mp} {cs : Lv} {x : zY} (hx : xr m0 cs x) : ∀ m, Le m0 m -> ∀ (a : Addr) (b : Nat) (t : Bool), At m a cs -> mc m ⟨b, 1, none⟩ = some (.bool t) ->
  CS Tryz.prog 119 [.pointer (some ⟨b, 0, none⟩), .pointer (some a)] m [] (fun v L' => L' = [] /\ ∃ r, v = .bool r /\ (r = true ↔ dz t x)) := by
 induction hx with
 | @mk op n who kids A len c vs ho hln hmx hr hv hkk ih =>
 subst hln;intro m hm a b t hat hck;refine yQ [.tmp 4] Tryz.func119 rfl rfl rfl ?_;refine tr 11 ?_;refine RL (α := Unit) (fun _ => [(0, .pointer (some ⟨b, 0, none⟩)), (1, .pointer (some a)), (5, .int .i64 0), (6, .bool (decide (n = 0))), (7, .bool (decide (who = 0)))]) (fun _ => []) (fun _ => True) ?_ ?_
 ·by_cases hn : n = 0
  ·rw [decide_eq_true hn];by_cases hw : who = 0
   ·rw [decide_eq_true hw];refine tr 4 ?_;refine Lo 0 yl rfl (hat.at_ rfl) ?_;refine yr 7 ?_;refine Lo 0 ze rfl (hat.at_ rfl) ?_;refine yr 2 ?_;exact QR () zx trivial zb
   ·rw [decide_eq_false hw];refine tr 4 ?_;refine Lo 0 yl rfl (hat.at_ rfl) ?_;refine yr 7 ?_;refine Lo 0 ze rfl (hat.at_ rfl) ?_;refine zF 2 ?_;exact QR () zx trivial zb
  ·rw [decide_eq_false hn];by_cases hw : who = 0
   ·rw [decide_eq_true hw];refine tr 4 ?_;refine Lo 0 yl rfl (hat.at_ rfl) ?_;refine zF 7 ?_;refine Lo 0 ze rfl (hat.at_ rfl) ?_;refine yr 2 ?_;exact QR () zx trivial zb
   ·rw [decide_eq_false hw];refine tr 4 ?_;refine Lo 0 yl rfl (hat.at_ rfl) ?_;refine zF 7 ?_;refine Lo 0 ze rfl (hat.at_ rfl) ?_;refine zF 2 ?_;exact QR () zx trivial zb
 rintro ⟨⟩ -;refine tr 2 ?_;refine ac (α := Nat × Bool × Bool) (fun y => [(0, .pointer (some ⟨b, 0, none⟩)), (1, .pointer (some a)), (5, .int .i64 (y.1 : Nat)), (6, .bool y.2.1), (7, .bool y.2.2)]) (fun _ => []) (fun y => y.1 <= 2 /\ w9 t op n who kids.length = (y.2.1 && y.2.2 && decide (kids.length = y.1))) ?_ ?_
 ·generalize hp : decide (n = 0) = p0;generalize ho' : decide (who = 0) = o0;by_cases e0 : op = 0
  ·by_cases h1 : n ≥ 0
   ·by_cases h2 : n <= 999
    ·refine tr 4 ?_;refine Lo 5 ze rfl (hat.at_ rfl) ?_;refine yr 8 ?_;refine Lo 0 yl rfl (hat.at_ rfl) ?_;refine yr 4 ?_;refine Lo 0 yl rfl (hat.at_ rfl) ?_;refine yr 4 ?_;exact QR (0, true, o0) zx ⟨by dsimp only; omega, by simp [w9, *]⟩ zb
    ·refine tr 4 ?_;refine Lo 5 ze rfl (hat.at_ rfl) ?_;refine yr 8 ?_;refine Lo 0 yl rfl (hat.at_ rfl) ?_;refine yr 4 ?_;refine Lo 0 yl rfl (hat.at_ rfl) ?_;refine zF 4 ?_;exact QR (0, false, o0) zx ⟨by dsimp only; omega, by simp [w9, *]⟩ zb
   ·refine tr 4 ?_;refine Lo 5 ze rfl (hat.at_ rfl) ?_;refine yr 8 ?_;refine Lo 0 yl rfl (hat.at_ rfl) ?_;refine zF 10 ?_;exact QR (0, false, o0) zx ⟨by dsimp only; omega, by simp [w9, *]⟩ zb
  by_cases e1 : op = 1
  ·refine tr 4 ?_;refine Lo 5 ze rfl (hat.at_ rfl) ?_;refine zF 7 ?_;refine yr 11 ?_;refine Lo 0 ze rfl (hat.at_ rfl) ?_;refine Cr dq rfl (fun m' hm he => (ej who)) ?_;rintro _ rfl;refine vr 3 ?_;exact QR (0, p0, jD who) zx ⟨by dsimp only; omega, by simp [w9, *]⟩ zb
  by_cases e2 : op = 2
  ·refine tr 4 ?_;refine Lo 5 ze rfl (hat.at_ rfl) ?_;refine zF 7 ?_;refine zF 6 ?_;refine yr 11 ?_;refine Lo 0 ze rfl (hat.at_ rfl) ?_;refine Cr dq rfl (fun m' hm he => (ej who)) ?_;rintro _ rfl;refine vr 3 ?_;exact QR (0, p0, jD who) zx ⟨by dsimp only; omega, by simp [w9, *]⟩ zb
  by_cases e3 : op = 3
  ·refine tr 4 ?_;refine Lo 5 ze rfl (hat.at_ rfl) ?_;refine zF 7 ?_;refine zF 6 ?_;refine zF 6 ?_;refine yr 11 ?_;refine Lo 0 ze rfl (hat.at_ rfl) ?_;refine Cr dq rfl (fun m' hm he => (ej who)) ?_;rintro _ rfl;refine vr 3 ?_;exact QR (0, p0, jD who) zx ⟨by dsimp only; omega, by simp [w9, *]⟩ zb
  by_cases e4 : op = 4
  ·refine tr 4 ?_;refine Lo 5 ze rfl (hat.at_ rfl) ?_;refine zF 7 ?_;refine zF 6 ?_;refine zF 6 ?_;refine zF 5 ?_;refine yr 8 ?_;refine Lo 0 ze rfl (hat.at_ rfl) ?_;refine Cr dq rfl (fun m' hm he => (ej who)) ?_;rintro _ rfl;refine vr 3 ?_;exact QR (0, p0, jD who) zx ⟨by dsimp only; omega, by simp [w9, *]⟩ zb
  by_cases e5 : op = 5
  ·refine tr 4 ?_;refine Lo 5 ze rfl (hat.at_ rfl) ?_;refine zF 7 ?_;refine zF 6 ?_;refine zF 6 ?_;refine zF 5 ?_;refine zF 7 ?_;refine yr 9 ?_;exact QR (0, p0, o0) zx ⟨by dsimp only; omega, by simp [w9, *]⟩ zb
  by_cases e6 : op = 6
  ·refine tr 4 ?_;refine Lo 5 ze rfl (hat.at_ rfl) ?_;refine zF 7 ?_;refine zF 6 ?_;refine zF 6 ?_;refine zF 5 ?_;refine zF 7 ?_;refine zF 5 ?_;refine yr 6 ?_;exact QR (0, p0, o0) zx ⟨by dsimp only; omega, by simp [w9, *]⟩ zb
  by_cases e7 : op = 7
  ·cases o0 with
   | true =>
     refine tr 4 ?_;refine Lo 5 ze rfl (hat.at_ rfl) ?_;refine zF 7 ?_;refine zF 6 ?_;refine zF 6 ?_;refine zF 5 ?_;refine zF 7 ?_;refine zF 5 ?_;refine zF 6 ?_;refine yr 10 ?_;refine Lo 4 cH rfl hck ?_;exact QR (0, p0, t) zx ⟨by dsimp only; omega, by simp [w9, *]⟩ zb
   | false =>
     refine tr 4 ?_;refine Lo 5 ze rfl (hat.at_ rfl) ?_;refine zF 7 ?_;refine zF 6 ?_;refine zF 6 ?_;refine zF 5 ?_;refine zF 7 ?_;refine zF 5 ?_;refine zF 6 ?_;refine yr 15 ?_;exact QR (0, p0, false) zx ⟨by dsimp only; omega, by simp [w9, *]⟩ zb
  by_cases e8 : op = 8
  ·refine tr 4 ?_;refine Lo 5 ze rfl (hat.at_ rfl) ?_;refine zF 7 ?_;refine zF 6 ?_;refine zF 6 ?_;refine zF 5 ?_;refine zF 7 ?_;refine zF 5 ?_;refine zF 6 ?_;refine zF 7 ?_;refine yr 11 ?_;exact QR (2, p0, o0) zx ⟨by dsimp only; omega, by simp [w9, *]⟩ zb
  by_cases e9 : op = 9
  ·refine tr 4 ?_;refine Lo 5 ze rfl (hat.at_ rfl) ?_;refine zF 7 ?_;refine zF 6 ?_;refine zF 6 ?_;refine zF 5 ?_;refine zF 7 ?_;refine zF 5 ?_;refine zF 6 ?_;refine zF 7 ?_;refine zF 6 ?_;refine yr 11 ?_;exact QR (2, p0, o0) zx ⟨by dsimp only; omega, by simp [w9, *]⟩ zb
  by_cases e10 : op = 10
  ·refine tr 4 ?_;refine Lo 5 ze rfl (hat.at_ rfl) ?_;refine zF 7 ?_;refine zF 6 ?_;refine zF 6 ?_;refine zF 5 ?_;refine zF 7 ?_;refine zF 5 ?_;refine zF 6 ?_;refine zF 7 ?_;refine zF 6 ?_;refine zF 6 ?_;refine yr 11 ?_;exact QR (2, p0, o0) zx ⟨by dsimp only; omega, by simp [w9, *]⟩ zb
  by_cases e11 : op = 11
  ·refine tr 4 ?_;refine Lo 5 ze rfl (hat.at_ rfl) ?_;refine zF 7 ?_;refine zF 6 ?_;refine zF 6 ?_;refine zF 5 ?_;refine zF 7 ?_;refine zF 5 ?_;refine zF 6 ?_;refine zF 7 ?_;refine zF 6 ?_;refine zF 6 ?_;refine zF 6 ?_;refine yr 11 ?_;exact QR (2, p0, o0) zx ⟨by dsimp only; omega, by simp [w9, *]⟩ zb
  by_cases e12 : op = 12
  ·refine tr 4 ?_;refine Lo 5 ze rfl (hat.at_ rfl) ?_;refine zF 7 ?_;refine zF 6 ?_;refine zF 6 ?_;refine zF 5 ?_;refine zF 7 ?_;refine zF 5 ?_;refine zF 6 ?_;refine zF 7 ?_;refine zF 6 ?_;refine zF 6 ?_;refine zF 6 ?_;refine zF 5 ?_;refine yr 8 ?_;exact QR (2, p0, o0) zx ⟨by dsimp only; omega, by simp [w9, *]⟩ zb
  refine tr 4 ?_;refine Lo 5 ze rfl (hat.at_ rfl) ?_;refine zF 7 ?_;refine zF 6 ?_;refine zF 6 ?_;refine zF 5 ?_;refine zF 7 ?_;refine zF 5 ?_;refine zF 6 ?_;refine zF 7 ?_;refine zF 6 ?_;refine zF 6 ?_;refine zF 6 ?_;refine zF 5 ?_;refine zF 11 ?_;refine zu ?_
  exact xE zj ⟨rfl, false, rfl, fun h => (by cases h), fun h => by cases h with | mk hh _ => simp [w9, *] at hh⟩
 rintro ⟨k, p, o⟩ ⟨hk2, hh⟩;dsimp only at hh hk2 ⊢;by_cases hg : w9 t op n who kids.length = true
 ·rw [hg] at hh;have hh2 := hh.symm;simp only [Bool.and_eq_true, decide_eq_true_eq] at hh2;obtain ⟨⟨rfl, rfl⟩, hkl⟩ := hh2;refine tr 13 ?_;refine Lo 2 xO rfl (hat.at_ rfl) ?_;refine zH 12 ?_;refine Lo 5 xO rfl (hat.at_ rfl) ?_
  refine yv (α := Nat) (fun i => [(0, .pointer (some ⟨b, 0, none⟩)), (1, .pointer (some a)), (84, .int .i64 (kids.length : Nat)), (85, .int .i64 (i : Nat))]) (fun _ => []) (fun i => i <= kids.length /\ ∀ (j : Nat) (h : j < kids.length), j < i -> dz t kids[j]) (fun i => kids.length - i) 0 de zx ⟨Nat.zero_le _, fun _ _ h => by cases h⟩ ?_
  rintro i ⟨hi, hdone⟩
  try dsimp only at hi hdone
  try dsimp only
  by_cases hlt : i < kids.length
  ·have hA : A.isSome = true := hr.isSome za;have hc := fun m1 (hm1 : Le m m1) => ih i hlt m1 (hm.trans hm1) ((sa A).add (i * 4)) b t (((hr.elem (i * 4) 4).mono hm).mono hm1) (xv hm1 hck);refine tr 2 ?_;refine y4 20 ?_;refine Lo 1 xO rfl (hat.at_ rfl) ?_;refine pe 0 (zo dc rfl rfl hA za) ?_
   refine zg ((yK Ok rfl (fun m1 hm1 he => hc m1 hm1) rfl ?_)) rfl;rintro _ _ ⟨rfl, r, rfl, hrr⟩;cases r with
   | true =>
     refine vr 8 ?_;refine Pa 2 ?_
     exact QR (i + 1) zx ⟨hlt, fun j h h2 => by
      by_cases hji : j < i
      ·exact hdone j h hji
      ·obtain rfl : j = i := by omega
       exact hrr.1 rfl⟩ za
   | false =>
     refine vr 12 ?_;refine zu ?_;refine zp ?_;refine zD ?_;exact xE zj ⟨rfl, false, rfl, fun h => (by cases h), fun h => by cases h with | mk _ hk => exact absurd (hrr.2 (hk i hlt)) zb⟩
  ·refine tr 2 ?_;refine zH 6 ?_;refine zm ?_;refine zk ?_;refine qt 7 ?_;exact xE zj ⟨rfl, true, rfl, fun _ => .mk hg fun j h => hdone j h za, fun _ => rfl⟩
 ·have hg' := Bool.eq_false_iff.2 hg;rw [hg'] at hh;cases p with
  | false =>
    refine tr 28 ?_;exact xE zj ⟨rfl, false, rfl, fun h => (by cases h), fun h => by cases h with | mk hh _ => exact absurd hh hg⟩
  | true =>
    cases o with
    | false =>
      refine tr 28 ?_;exact xE zj ⟨rfl, false, rfl, fun h => (by cases h), fun h => by cases h with | mk hh _ => exact absurd hh hg⟩
    | true =>
      have hkl : ¬ kids.length = k := fun e => by rw [e] at hh; simp at hh
      have hkl2 : ¬ ((kids.length : Nat) : Int) = (k : Nat) := by omega
      refine tr 13 ?_;refine Lo 2 xO rfl (hat.at_ rfl) ?_;refine yr 11 ?_;exact xE zj ⟨rfl, false, rfl, fun h => (by cases h), fun h => by cases h with | mk hh _ => exact absurd hh hg⟩
end
section
open Kd
def DC (m : Mp) (b : Nat) (l : List (Bt × Bool)) (t : Bool) : Prop := ∃ bm, mc m ⟨b, 0, none⟩ = some (.map (some bm)) /\ mc m ⟨b, 1, none⟩ = some (.bool t) /\ gG m bm (NY l)
theorem DC.mono {m m' : Mp} {b : Nat} {l : List (Bt × Bool)} {t : Bool} (h : DC m b l t) (hl : Le m m') : DC m' b l t := let ⟨bm, h1, h2, h3⟩ := h; ⟨bm, xv hl h1, xv hl h2, h3.mono hl⟩
theorem T8 {m0 : Mp} {cs : Lv} {x : zI} (hx : yP m0 cs x) : ∀ m, Le m0 m -> ∀ (a : Addr) (b : Nat) (l : List (Bt × Bool)) (t : Bool), At m a cs -> DC m b l t ->
  CS Tryz.prog 121 [.pointer (some ⟨b, 0, none⟩), .pointer (some a)] m [] (fun v L' => L' = [] /\ ∃ r, v = .bool r /\ (r = true ↔ bg (eC l) t x)) := by
 induction hx with
 | @mk op who name nums kids A B la ca lb cb vs us ho hw hn hla hma hra hva hka hlb hmb hrb hvb hkb ih =>
 subst hla hlb;intro m hm a b l t hat hck;have hck0 := hck;obtain ⟨bm, hk0, hk1, hmap⟩ := hck;unfold maxLen at hma hmb;refine yQ [.tmp 4] Tryz.func121 rfl rfl rfl ?_;refine tr 12 ?_
 refine d6 (α := Unit) (fun _ => [(0, .pointer (some ⟨b, 0, none⟩)), (1, .pointer (some a)), (5, .int .i64 0), (6, .int .i64 0), (7, .bool (decide (who = 0) && decide (name = [])))]) (fun _ => []) (fun _ => True) ?_ ?_
 ·by_cases hw0 : who = 0
  ·rw [decide_eq_true hw0, Bool.true_and];by_cases hn0 : name = []
   ·rw [decide_eq_true hn0];refine tr 4 ?_;refine Lo 0 ze rfl (hat.at_ rfl) ?_;refine yr 4 ?_;refine Lo 0 yI rfl (hat.at_ rfl) ?_;refine yr 3 ?_;exact QR () zx trivial zb
   ·rw [decide_eq_false hn0];refine tr 4 ?_;refine Lo 0 ze rfl (hat.at_ rfl) ?_;refine yr 4 ?_;refine Lo 0 yI rfl (hat.at_ rfl) ?_;refine zF 3 ?_;exact QR () zx trivial zb
  ·rw [decide_eq_false hw0, Bool.false_and];refine tr 4 ?_;refine Lo 0 ze rfl (hat.at_ rfl) ?_;refine zF 9 ?_;exact QR () zx trivial zb
 rintro ⟨⟩ -;refine tr 2 ?_;refine ac (α := Nat × Nat × Bool) (fun y => [(0, .pointer (some ⟨b, 0, none⟩)), (1, .pointer (some a)), (5, .int .i64 (y.1 : Nat)), (6, .int .i64 (y.2.1 : Nat)), (7, .bool y.2.2)]) (fun _ => []) (fun y => u0 (eC l) op who name nums.length kids.length = (y.2.2 && decide (nums.length = y.1) && decide (kids.length = y.2.1))) ?_ ?_
 ·generalize hz : (decide (who = 0) && decide (name = [])) = z0;by_cases e0 : op = 0
  ·refine tr 4 ?_;refine Lo 6 ze rfl (hat.at_ rfl) ?_;refine yr 11 ?_;exact QR (2, 0, z0) zx (by simp [u0, *]) zb
  by_cases e1 : op = 1
  ·refine tr 4 ?_;refine Lo 6 ze rfl (hat.at_ rfl) ?_;refine zF 6 ?_;refine yr 11 ?_;exact QR (2, 0, z0) zx (by simp [u0, *]) zb
  by_cases e2 : op = 2
  ·refine tr 4 ?_;refine Lo 6 ze rfl (hat.at_ rfl) ?_;refine zF 6 ?_;refine zF 5 ?_;refine yr 8 ?_;exact QR (2, 0, z0) zx (by simp [u0, *]) zb
  by_cases e3 : op = 3
  ·refine tr 4 ?_;refine Lo 6 ze rfl (hat.at_ rfl) ?_;refine zF 6 ?_;refine zF 5 ?_;refine zF 6 ?_;refine yr 8 ?_;exact QR (0, 1, z0) zx (by simp [u0, *]) zb
  by_cases e4 : op = 4
  ·refine tr 4 ?_;refine Lo 6 ze rfl (hat.at_ rfl) ?_;refine zF 6 ?_;refine zF 5 ?_;refine zF 6 ?_;refine zF 7 ?_;refine yr 11 ?_;exact QR (0, 2, z0) zx (by simp [u0, *]) zb
  by_cases e5 : op = 5
  ·refine tr 4 ?_;refine Lo 6 ze rfl (hat.at_ rfl) ?_;refine zF 6 ?_;refine zF 5 ?_;refine zF 6 ?_;refine zF 7 ?_;refine zF 5 ?_;refine yr 8 ?_;exact QR (0, 2, z0) zx (by simp [u0, *]) zb
  by_cases e6 : op = 6
  ·have hgu := WM (s := name) (l := l);cases hu : eC l name with
   | none =>
     rw [hu] at hgu;refine tr 4 ?_;refine Lo 6 ze rfl (hat.at_ rfl) ?_;refine zF 6 ?_;refine zF 5 ?_;refine zF 6 ?_;refine zF 7 ?_;refine zF 5 ?_;refine zF 6 ?_;refine yr 5 ?_;refine yw (sT [0, 1, 2, 4, 5, 6, 103, 107, 108, 9, 10, 11, 12] .done) mixed zi (fun _ _ _ _ hq => hq) ?_;refine vt 6 ?_;refine Vu 0 rfl (zl Ix rfl hk0) ?_
     refine Vu 0 rfl (zl yI rfl (hat.at_ rfl)) ?_;refine Vu 4 rfl (d7 hmap qZ rfl rfl al) ?_;refine Vm 4 ?_;rw [hgu];refine vr 9 ?_;exact QR (0, 0, false) zx (by simp [u0, *]) zb
   | some u =>
     rw [hu] at hgu;refine tr 4 ?_;refine Lo 6 ze rfl (hat.at_ rfl) ?_;refine zF 6 ?_;refine zF 5 ?_;refine zF 6 ?_;refine zF 7 ?_;refine zF 5 ?_;refine zF 6 ?_;refine yr 5 ?_;refine yw (sT [0, 1, 2, 4, 5, 6, 103, 107, 108, 9, 10, 11, 12] .done) mixed zi (fun _ _ _ _ hq => hq) ?_;refine vt 6 ?_;refine Vu 0 rfl (zl Ix rfl hk0) ?_
     refine Vu 0 rfl (zl yI rfl (hat.at_ rfl)) ?_;refine Vu 4 rfl (d7 hmap qZ rfl rfl al) ?_;refine Vm 4 ?_;rw [hgu];refine vr 3 ?_;refine Lo 0 ze rfl (hat.at_ rfl) ?_;refine Cr dq rfl (fun m' hm he => (ej who)) ?_;rintro _ rfl;refine vr 4 ?_;exact QR (0, 0, jD who) zx (by simp [u0, *]) zb
  refine tr 4 ?_;refine Lo 6 ze rfl (hat.at_ rfl) ?_;refine zF 6 ?_;refine zF 5 ?_;refine zF 6 ?_;refine zF 7 ?_;refine zF 5 ?_;refine zF 6 ?_;refine zF 11 ?_;refine zu ?_;exact xE zj ⟨rfl, false, rfl, fun h => (by cases h), fun h => by cases h with | mk hh _ _ => simp [u0, *] at hh⟩
 rintro ⟨k1, k2, o⟩ hh
 try dsimp only at hh
 try dsimp only
 by_cases hg : u0 (eC l) op who name nums.length kids.length = true
 ·rw [hg] at hh;have hh2 := hh.symm;simp only [Bool.and_eq_true, decide_eq_true_eq] at hh2;obtain ⟨⟨rfl, e1⟩, e2⟩ := hh2;have e1' : ((nums.length : Nat) : Int) = (k1 : Nat) := by omega
  have e2' : ((kids.length : Nat) : Int) = (k2 : Nat) := by omega
  refine tr 9 ?_;refine Lo 2 xO rfl (hat.at_ rfl) ?_;refine zH 5 ?_;refine Lo 2 wT rfl (hat.at_ rfl) ?_;refine zH 12 ?_;refine Lo 5 xO rfl (hat.at_ rfl) ?_
  refine yv (α := Nat) (fun i => [(0, .pointer (some ⟨b, 0, none⟩)), (1, .pointer (some a)), (81, .int .i64 (nums.length : Nat)), (82, .int .i64 (i : Nat))]) (fun _ => []) (fun i => i <= nums.length /\ ∀ (j : Nat) (h : j < nums.length), j < i -> dz t nums[j]) (fun i => nums.length - i) 0 de zx ⟨Nat.zero_le _, fun _ _ h => by cases h⟩ ?_
  rintro i ⟨hi, hdone⟩
  try dsimp only at hi hdone
  try dsimp only
  by_cases hlt : i < nums.length
  ·have hA : A.isSome = true := hra.isSome za;have hc := fun m1 (hm1 : Le m m1) => Si (hka i hlt) m1 (hm.trans hm1) ((sa A).add (i * 4)) b t (((hra.elem (i * 4) 4).mono hm).mono hm1) (xv hm1 hk1);refine tr 2 ?_;refine y4 20 ?_;refine Lo 1 xO rfl (hat.at_ rfl) ?_;refine pe 0 (zo dc rfl rfl hA za) ?_
   refine zg ((yK Ok rfl (fun m1 hm1 he => hc m1 hm1) rfl ?_)) rfl;rintro _ _ ⟨rfl, r, rfl, hrr⟩;cases r with
   | true =>
     refine vr 8 ?_;refine Pa 2 ?_
     exact QR (i + 1) zx ⟨hlt, fun j h h2 => by
      by_cases hji : j < i
      ·exact hdone j h hji
      ·obtain rfl : j = i := by omega
       exact hrr.1 rfl⟩ za
   | false =>
     refine vr 12 ?_;refine zu ?_;refine zp ?_;refine zD ?_;exact xE zj ⟨rfl, false, rfl, fun h => (by cases h), fun h => by cases h with | mk _ hk _ => exact absurd (hrr.2 (hk i hlt)) zb⟩
  have hdn : ∀ (j : Nat) (h : j < nums.length), dz t nums[j] := fun j h => hdone j h za;clear hdone;refine tr 2 ?_;refine zH 6 ?_;refine zm ?_;refine zk ?_;refine qt 7 ?_;refine Lo 5 wT rfl (hat.at_ rfl) ?_
  refine yv (α := Nat) (fun i => [(0, .pointer (some ⟨b, 0, none⟩)), (1, .pointer (some a)), (99, .int .i64 (kids.length : Nat)), (100, .int .i64 (i : Nat))]) (fun _ => []) (fun i => i <= kids.length /\ ∀ (j : Nat) (h : j < kids.length), j < i -> bg (eC l) t kids[j]) (fun i => kids.length - i) 0 de zx ⟨Nat.zero_le _, fun _ _ h => by cases h⟩ ?_
  clear hlt hi i;rintro i ⟨hi, hdone⟩
  try dsimp only at hi hdone
  try dsimp only
  by_cases hlt : i < kids.length
  ·have hA : B.isSome = true := hrb.isSome za;have hc := fun m1 (hm1 : Le m m1) => ih i hlt m1 (hm.trans hm1) ((sa B).add (i * 5)) b l t (((hrb.elem (i * 5) 5).mono hm).mono hm1) (hck0.mono hm1);refine tr 2 ?_;refine y4 20 ?_;refine Lo 1 wT rfl (hat.at_ rfl) ?_;refine pe 0 (zo jy rfl rfl hA za) ?_
   refine zg ((yK SB rfl (fun m1 hm1 he => hc m1 hm1) rfl ?_)) rfl;rintro _ _ ⟨rfl, r, rfl, hrr⟩;cases r with
   | true =>
     refine vr 8 ?_;refine Pa 2 ?_
     exact QR (i + 1) zx ⟨hlt, fun j h h2 => by
      by_cases hji : j < i
      ·exact hdone j h hji
      ·obtain rfl : j = i := by omega
       exact hrr.1 rfl⟩ za
   | false =>
     refine vr 12 ?_;refine zu ?_;refine zp ?_;refine zD ?_;exact xE zj ⟨rfl, false, rfl, fun h => (by cases h), fun h => by cases h with | mk _ _ hk => exact absurd (hrr.2 (hk i hlt)) zb⟩
  ·refine tr 2 ?_;refine zH 6 ?_;refine zm ?_;refine zk ?_;refine qt 7 ?_;exact xE zj ⟨rfl, true, rfl, fun _ => .mk hg hdn fun j h => hdone j h za, fun _ => rfl⟩
 ·have hg' := Bool.eq_false_iff.2 hg;rw [hg'] at hh;cases o with
  | false =>
    refine tr 33 ?_;exact xE zj ⟨rfl, false, rfl, fun h => (by cases h), fun h => by cases h with | mk hh _ _ => exact absurd hh hg⟩
  | true =>
    by_cases hk1' : ((nums.length : Nat) : Int) = (k1 : Nat)
    ·have h1 : nums.length = k1 := by omega
     have h2 : ¬ ((kids.length : Nat) : Int) = (k2 : Nat) := fun e => by
      have e' : kids.length = k2 := by omega
      rw [e', h1] at hh
      simp at hh
     refine tr 9 ?_;refine Lo 2 xO rfl (hat.at_ rfl) ?_;refine zH 5 ?_;refine Lo 2 wT rfl (hat.at_ rfl) ?_;refine yr 11 ?_;exact xE zj ⟨rfl, false, rfl, fun h => (by cases h), fun h => by cases h with | mk hh _ _ => exact absurd hh hg⟩
    ·refine tr 9 ?_;refine Lo 2 xO rfl (hat.at_ rfl) ?_;refine yr 20 ?_;exact xE zj ⟨rfl, false, rfl, fun h => (by cases h), fun h => by cases h with | mk hh _ _ => exact absurd hh hg⟩
end
section
open Kd
theorem SR {m : Mp} {cs : Lv} {x : zW} (hx : un m cs x) {a : Addr} (hat : At m a cs) : CS Tryz.prog 117 [.pointer (some a)] m [] (vQ (.bool (Ir x))) := by
 obtain ⟨op, who, nop, nn, nwho, nA, nlen, nc, name, cop, cwho, cname, cA, cla, cca, cB, clb, ccb, A, la, ca, B, lb, cb, n, cond, thn, els, rfl, rfl, -, hn, hc, ⟨ht, ht2, -⟩, ⟨he, he2, -⟩⟩ := un.parts hx;clear hx;cases hn with
 | @mk _ _ _ nk _ _ _ _ _ hnl hnm _ _ _ =>
 cases hc with
 | @mk _ _ _ cns ck _ _ _ _ _ _ _ _ _ _ _ hla hma _ _ _ hlb hmb _ _ _ =>
 subst hnl hla hlb ht he;have hatn := hat.sub 2 4;have hatc := hat.sub 7 5;dsimp only [List.drop, List.take] at hatn hatc
 show CS Tryz.prog 117 [.pointer (some a)] m [] (vQ (.bool ((yU op || (decide (nop = 0) && decide (nn = 0) && decide (nwho = 0) && decide (nk.length = 0))) && (decide (op = 7) || decide (name = [])) && (decide (op = 8) || (decide (cop = 0) && decide (cwho = 0) && decide (cname = []) && decide (Gg cns.length ck.length thn.length els.length = 0))))));unfold maxLen at hnm hma hmb ht2 he2
 refine yQ [.tmp 2] Tryz.func117 rfl rfl rfl ?_;refine tr 6 ?_;refine d6 (α := Unit) (fun _ => [(0, .pointer (some a)), (3, .bool (yU op || (decide (nop = 0) && decide (nn = 0) && decide (nwho = 0) && decide (nk.length = 0))))]) (fun _ => []) (fun _ => True) ?_ ?_
 ·refine tr 4 ?_;refine Lo 0 ze rfl (hat.at_ rfl) ?_;refine Cr Ol rfl (fun m' hm he => (WY op)) ?_;rintro _ rfl;cases hcb : yU op with
  | true =>
    refine vr 35 ?_;exact QR () zx trivial zb
  | false =>
    rw [Bool.false_or];by_cases h1 : nop = 0
    ·rw [decide_eq_true h1, Bool.true_and];by_cases h2 : nn = 0
     ·rw [decide_eq_true h2, Bool.true_and];by_cases h3 : nwho = 0
      ·rw [decide_eq_true h3, Bool.true_and];by_cases h4 : nk.length = 0
       ·rw [decide_eq_true h4];refine vr 5 ?_;refine Lo 0 ze rfl (hatn.at_ rfl) ?_;refine yr 5 ?_;refine Lo 0 yl rfl (hatn.at_ rfl) ?_;refine yr 6 ?_;refine Lo 0 ze rfl (hatn.at_ rfl) ?_;refine yr 6 ?_;refine Lo 1 xO rfl (hatn.at_ rfl) ?_;refine y4 4 ?_;exact QR () zx trivial zb
       ·rw [decide_eq_false h4];refine vr 5 ?_;refine Lo 0 ze rfl (hatn.at_ rfl) ?_;refine yr 5 ?_;refine Lo 0 yl rfl (hatn.at_ rfl) ?_;refine yr 6 ?_;refine Lo 0 ze rfl (hatn.at_ rfl) ?_;refine yr 6 ?_;refine Lo 1 xO rfl (hatn.at_ rfl) ?_;refine zH 4 ?_;exact QR () zx trivial zb
      ·rw [decide_eq_false h3, Bool.false_and];refine vr 5 ?_;refine Lo 0 ze rfl (hatn.at_ rfl) ?_;refine yr 5 ?_;refine Lo 0 yl rfl (hatn.at_ rfl) ?_;refine yr 6 ?_;refine Lo 0 ze rfl (hatn.at_ rfl) ?_;refine zF 13 ?_;exact QR () zx trivial zb
     ·rw [decide_eq_false h2, Bool.false_and];refine vr 5 ?_;refine Lo 0 ze rfl (hatn.at_ rfl) ?_;refine yr 5 ?_;refine Lo 0 yl rfl (hatn.at_ rfl) ?_;refine zF 21 ?_;exact QR () zx trivial zb
    ·rw [decide_eq_false h1, Bool.false_and];refine vr 5 ?_;refine Lo 0 ze rfl (hatn.at_ rfl) ?_;refine zF 28 ?_;exact QR () zx trivial zb
 rintro ⟨⟩ -;generalize (yU op || (decide (nop = 0) && decide (nn = 0) && decide (nwho = 0) && decide (nk.length = 0))) = z1;refine tr 1 ?_;refine d6 (α := Unit) (fun _ => [(0, .pointer (some a)), (3, .bool z1), (4, .bool (decide (op = 7) || decide (name = [])))]) (fun _ => []) (fun _ => True) ?_ ?_
 ·by_cases h7 : op = 7
  ·rw [decide_eq_true h7, Bool.true_or];refine tr 4 ?_;refine Lo 0 ze rfl (hat.at_ rfl) ?_;refine yr 9 ?_;exact QR () zx trivial zb
  ·rw [decide_eq_false h7, Bool.false_or];by_cases h1 : name = []
   ·rw [decide_eq_true h1];refine tr 4 ?_;refine Lo 0 ze rfl (hat.at_ rfl) ?_;refine zF 4 ?_;refine Lo 0 yI rfl (hat.at_ rfl) ?_;refine yr 3 ?_;exact QR () zx trivial zb
   ·rw [decide_eq_false h1];refine tr 4 ?_;refine Lo 0 ze rfl (hat.at_ rfl) ?_;refine zF 4 ?_;refine Lo 0 yI rfl (hat.at_ rfl) ?_;refine zF 3 ?_;exact QR () zx trivial zb
 rintro ⟨⟩ -;generalize (decide (op = 7) || decide (name = [])) = z2;refine tr 9 ?_;refine d6 (α := Unit) (fun _ => [(0, .pointer (some a)), (3, .bool z1), (4, .bool z2), (6, .bool (decide (op = 8) || (decide (cop = 0) && decide (cwho = 0) && decide (cname = []) && decide (Gg cns.length ck.length thn.length els.length = 0))))]) (fun _ => []) (fun _ => True) ?_ ?_
 ·by_cases h8 : op = 8
  ·rw [decide_eq_true h8, Bool.true_or];refine yw (sT [0, 1, 2, 103, 4, 5, 6, 7, 8, 109, 10, 11, 12, 13, 14, 115, 16, 17, 18, 19, 20, 21, 122, 23, 24, 25, 26, 27, 28, 31, 32, 33, 37, 38, 39, 43, 44, 45, 129, 30, 134, 35, 36, 140, 41, 42, 146, 47, 48, 49, 50, 51, 52] .done) mixed zi (fun _ _ _ _ hq => hq) ?_;refine vt 3 ?_;refine Vu 0 rfl (zl ze rfl (hat.at_ rfl)) ?_
   refine Vt 48 rfl (dt (y3 rfl rfl) xi) ?_;refine Vm 0 ?_;exact QR () zx trivial zb
  ·rw [decide_eq_false h8, Bool.false_or];by_cases h1 : cop = 0
   ·rw [decide_eq_true h1, Bool.true_and];by_cases h2 : cwho = 0
    ·rw [decide_eq_true h2, Bool.true_and];by_cases h3 : cname = []
     ·rw [decide_eq_true h3, Bool.true_and];by_cases h4 : Gg cns.length ck.length thn.length els.length = 0
      ·rw [decide_eq_true h4];unfold Gg at h4;refine yw (sT [0, 1, 2, 103, 4, 5, 6, 7, 8, 109, 10, 11, 12, 13, 14, 115, 16, 17, 18, 19, 20, 21, 122, 23, 24, 25, 26, 27, 28, 31, 32, 33, 37, 38, 39, 43, 44, 45, 129, 30, 134, 35, 36, 140, 41, 42, 146, 47, 48, 49, 50, 51, 52] .done) mixed zi (fun _ _ _ _ hq => hq) ?_;refine vt 3 ?_;refine Vu 0 rfl (zl ze rfl (hat.at_ rfl)) ?_
       refine Vt 4 rfl (df (y3 rfl rfl) xi) ?_;refine Vu 0 rfl (zl ze rfl (hatc.at_ rfl)) ?_;refine Vt 4 rfl (dt (y3 rfl rfl) xi) ?_;refine Vu 0 rfl (zl ze rfl (hatc.at_ rfl)) ?_;refine Vt 5 rfl (dt (y3 rfl rfl) xi) ?_;refine Vu 0 rfl (zl yI rfl (hatc.at_ rfl)) ?_;refine Vt 14 rfl (dt (YR rfl rfl) xi) ?_
       refine Vu 1 rfl (zl xO rfl (hatc.at_ rfl)) ?_;refine Vu 1 rfl (zl wT rfl (hatc.at_ rfl)) ?_;refine Vt 0 rfl (wO rfl rfl rfl) ?_;refine Vu 1 rfl (zl y8 rfl (hat.at_ rfl)) ?_;refine Vt 0 rfl (wO rfl rfl rfl) ?_;refine Vu 1 rfl (zl y8 rfl (hat.at_ rfl)) ?_;refine Vt 0 rfl (wO rfl rfl rfl) ?_;refine Vt 3 rfl (dt (y3 rfl rfl) xi) ?_;refine Vm 0 ?_
       exact QR () zx trivial zb
      ·rw [decide_eq_false h4];unfold Gg at h4;refine yw (sT [0, 1, 2, 103, 4, 5, 6, 7, 8, 109, 10, 11, 12, 13, 14, 115, 16, 17, 18, 19, 20, 21, 122, 23, 24, 25, 26, 27, 28, 31, 32, 33, 37, 38, 39, 43, 44, 45, 129, 30, 134, 35, 36, 140, 41, 42, 146, 47, 48, 49, 50, 51, 52] .done) mixed zi (fun _ _ _ _ hq => hq) ?_;refine vt 3 ?_;refine Vu 0 rfl (zl ze rfl (hat.at_ rfl)) ?_
       refine Vt 4 rfl (df (y3 rfl rfl) xi) ?_;refine Vu 0 rfl (zl ze rfl (hatc.at_ rfl)) ?_;refine Vt 4 rfl (dt (y3 rfl rfl) xi) ?_;refine Vu 0 rfl (zl ze rfl (hatc.at_ rfl)) ?_;refine Vt 5 rfl (dt (y3 rfl rfl) xi) ?_;refine Vu 0 rfl (zl yI rfl (hatc.at_ rfl)) ?_;refine Vt 14 rfl (dt (YR rfl rfl) xi) ?_
       refine Vu 1 rfl (zl xO rfl (hatc.at_ rfl)) ?_;refine Vu 1 rfl (zl wT rfl (hatc.at_ rfl)) ?_;refine Vt 0 rfl (wO rfl rfl rfl) ?_;refine Vu 1 rfl (zl y8 rfl (hat.at_ rfl)) ?_;refine Vt 0 rfl (wO rfl rfl rfl) ?_;refine Vu 1 rfl (zl y8 rfl (hat.at_ rfl)) ?_;refine Vt 0 rfl (wO rfl rfl rfl) ?_;refine Vt 3 rfl (df (y3 rfl rfl) xi) ?_;refine Vm 0 ?_
       exact QR () zx trivial zb
     ·rw [decide_eq_false h3, Bool.false_and];refine yw (sT [0, 1, 2, 103, 4, 5, 6, 7, 8, 109, 10, 11, 12, 13, 14, 115, 16, 17, 18, 19, 20, 21, 122, 23, 24, 25, 26, 27, 28, 31, 32, 33, 37, 38, 39, 43, 44, 45, 129, 30, 134, 35, 36, 140, 41, 42, 146, 47, 48, 49, 50, 51, 52] .done) mixed zi (fun _ _ _ _ hq => hq) ?_;refine vt 3 ?_;refine Vu 0 rfl (zl ze rfl (hat.at_ rfl)) ?_
      refine Vt 4 rfl (df (y3 rfl rfl) xi) ?_;refine Vu 0 rfl (zl ze rfl (hatc.at_ rfl)) ?_;refine Vt 4 rfl (dt (y3 rfl rfl) xi) ?_;refine Vu 0 rfl (zl ze rfl (hatc.at_ rfl)) ?_;refine Vt 5 rfl (dt (y3 rfl rfl) xi) ?_;refine Vu 0 rfl (zl yI rfl (hatc.at_ rfl)) ?_;refine Vt 29 rfl (df (YR rfl rfl) xi) ?_;refine Vm 0 ?_
      exact QR () zx trivial zb
    ·rw [decide_eq_false h2, Bool.false_and];refine yw (sT [0, 1, 2, 103, 4, 5, 6, 7, 8, 109, 10, 11, 12, 13, 14, 115, 16, 17, 18, 19, 20, 21, 122, 23, 24, 25, 26, 27, 28, 31, 32, 33, 37, 38, 39, 43, 44, 45, 129, 30, 134, 35, 36, 140, 41, 42, 146, 47, 48, 49, 50, 51, 52] .done) mixed zi (fun _ _ _ _ hq => hq) ?_;refine vt 3 ?_;refine Vu 0 rfl (zl ze rfl (hat.at_ rfl)) ?_
     refine Vt 4 rfl (df (y3 rfl rfl) xi) ?_;refine Vu 0 rfl (zl ze rfl (hatc.at_ rfl)) ?_;refine Vt 4 rfl (dt (y3 rfl rfl) xi) ?_;refine Vu 0 rfl (zl ze rfl (hatc.at_ rfl)) ?_;refine Vt 36 rfl (df (y3 rfl rfl) xi) ?_;refine Vm 0 ?_;exact QR () zx trivial zb
   ·rw [decide_eq_false h1, Bool.false_and];refine yw (sT [0, 1, 2, 103, 4, 5, 6, 7, 8, 109, 10, 11, 12, 13, 14, 115, 16, 17, 18, 19, 20, 21, 122, 23, 24, 25, 26, 27, 28, 31, 32, 33, 37, 38, 39, 43, 44, 45, 129, 30, 134, 35, 36, 140, 41, 42, 146, 47, 48, 49, 50, 51, 52] .done) mixed zi (fun _ _ _ _ hq => hq) ?_;refine vt 3 ?_;refine Vu 0 rfl (zl ze rfl (hat.at_ rfl)) ?_
    refine Vt 4 rfl (df (y3 rfl rfl) xi) ?_;refine Vu 0 rfl (zl ze rfl (hatc.at_ rfl)) ?_;refine Vt 42 rfl (df (y3 rfl rfl) xi) ?_;refine Vm 0 ?_;exact QR () zx trivial zb
 rintro ⟨⟩ -;generalize (decide (op = 8) || (decide (cop = 0) && decide (cwho = 0) && decide (cname = []) && decide (Gg cns.length ck.length thn.length els.length = 0))) = z3;cases z1 with
 | false =>
   refine tr 13 ?_;exact xE zj ⟨rfl, rfl⟩
 | true =>
   cases z2 with
   | false =>
     refine tr 13 ?_;exact xE zj ⟨rfl, rfl⟩
   | true =>
     refine tr 13 ?_;exact xE zj ⟨rfl, rfl⟩
end
section
open Wd Kd
theorem LX {u : Us} {t : Bool} {d : Nat} {op who : Int} {n : zY} {name : Bt} {c : zI} {a b : List zW} : Z8 u t d (.mk op who n name c a b) ↔
  (Ir (.mk op who n name c a b) = true /\ (yU op = true -> dz t n)) /\ xd u t op who name = true /\ (op = 8 -> bg u t c /\ kK u t (d + 1) a /\ kK u t (d + 1) b) := by
 constructor
 ·intro h;cases h with
  | mk hz hn hw hc ha hak hb hbk => exact ⟨⟨hz, hn⟩, hw, fun h8 => ⟨hc h8, ⟨(ha h8).1, (ha h8).2, hak h8⟩, ⟨hb h8, (ha h8).2, hbk h8⟩⟩⟩
 ·rintro ⟨⟨hz, hn⟩, hw, h8⟩;exact .mk hz hn hw (fun e => (h8 e).1) (fun e => ⟨(h8 e).2.1.1, (h8 e).2.1.2.1⟩) (fun e => (h8 e).2.1.2.2) (fun e => (h8 e).2.2.1) (fun e => (h8 e).2.2.2.2)
def LC (l : List zW) : Prop := ∀ (m : Mp) (A : Oa) (cap b d : Nat) (ul : List (Bt × Bool)) (t : Bool), xV m A l.length l -> DC m b ul t -> d <= 9 ->
  CS Tryz.prog 93 [.pointer (some ⟨b, 0, none⟩), .slice A l.length cap, .int .i64 (d : Nat)] m [] (fun v L' => L' = [] /\ ∃ r, v = .bool r /\ (r = true ↔ kK (eC ul) t d l))
theorem J2 {l : List zW} (ih : ∀ (i : Nat) (h : i < l.length) (op who : Int) (n : zY) (name : Bt) (c : zI) (a e : List zW), l[i] = .mk op who n name c a e -> LC a /\ LC e) : LC l := by
 rintro m A cap b d ul t ⟨-, hml, vs, hrd, hvl, hel⟩ hck hd9;have hck0 := hck;obtain ⟨bm, hk0, hk1, hmap⟩ := hck;unfold maxLen at hml;refine yQ [.tmp 6] Tryz.func93 rfl rfl rfl ?_;by_cases h16 : l.length <= 16
 rotate_left
 ·refine tr 10 ?_;refine y4 14 ?_;exact xE zj ⟨rfl, false, rfl, fun h => (by cases h), fun h => absurd h.1 h16⟩
 by_cases h8 : d <= 8
 rotate_left
 ·refine tr 10 ?_;refine zH 2 ?_;refine y4 11 ?_;exact xE zj ⟨rfl, false, rfl, fun h => (by cases h), fun h => absurd h.2.1 h8⟩
 refine tr 10 ?_;refine zH 2 ?_;refine zH 15 ?_
 refine yv (α := Nat) (fun i => [(0, .pointer (some ⟨b, 0, none⟩)), (1, .slice A l.length cap), (2, .int .i64 (d : Nat)), (18, .int .i64 (l.length : Nat)), (19, .int .i64 (i : Nat))]) (fun _ => []) (fun i => i <= l.length /\ ∀ (j : Nat) (h : j < l.length), j < i -> Z8 (eC ul) t d l[j]) (fun i => l.length - i) 0 vX zx ⟨Nat.zero_le _, fun _ _ h => by cases h⟩ ?_
 rintro i ⟨hi, hdone⟩
 try dsimp only at hi hdone
 try dsimp only
 by_cases hlt : i < l.length
 rotate_left
 ·refine tr 2 ?_;refine zH 6 ?_;refine zm ?_;refine zk ?_;refine qt 7 ?_;exact xE zj ⟨rfl, true, rfl, fun _ => ⟨h16, h8, fun j h => hdone j h za⟩, fun _ => rfl⟩
 have hA : A.isSome = true := hrd.isSome za;have hx := hel i hlt;have hat := hrd.elem (i * 14) 14;have hih := ih i hlt;have hfin : ¬ Z8 (eC ul) t d l[i] -> ¬ kK (eC ul) t d l := fun h1 h2 => h1 (h2.2.2 i hlt)
 have hnext : Z8 (eC ul) t d l[i] -> ∀ (j : Nat) (h : j < l.length), j < i + 1 -> Z8 (eC ul) t d l[j] := fun h1 j h h2 => by
  by_cases hji : j < i
  ·exact hdone j h hji
  ·obtain rfl : j = i := by omega
   exact h1
 generalize l[i] = x at hx hih hfin hnext;generalize (vs.drop (i * 14)).take 14 = cs at hx hat;have hx0 := hx;obtain ⟨op, who, nop, nn, nwho, nA, nlen, nc, name, cop, cwho, cname, cA, cla, cca, cB, clb, ccb, TA, la, ca, EB, lb, cb, n, cond, thn, els, rfl, rfl, -, hn, hc, hthn, hels⟩ := un.parts hx;obtain ⟨ihT, ihE⟩ := hih _ _ _ _ _ _ _ rfl;have elen := hthn.1;have elen2 := hels.1;subst elen elen2
 rw [LX] at hfin hnext;have hatn := hat.sub 2 4;have hatc := hat.sub 7 5;dsimp only [List.drop, List.take] at hatn hatc;have hzero := fun m1 (hm1 : Le m m1) => SR (hx0.mono hm1) (hat.mono hm1);generalize Ir (.mk op who n name cond thn els) = z at hfin hnext hzero;clear hx hx0 hdone;refine tr 2 ?_;refine y4 18 ?_;refine pe 4 (zo VJ rfl rfl hA za) ?_
 refine d6 (α := Bool) (fun y => [(0, .pointer (some ⟨b, 0, none⟩)), (1, .slice A l.length cap), (2, .int .i64 (d : Nat)), (18, .int .i64 (l.length : Nat)), (19, .int .i64 (i : Nat)), (8, .pointer (some ((sa A).add (i * 14)))), (9, .bool y)]) (fun _ => []) (fun y => y = true ↔ (z = true /\ (yU op = true -> dz t n))) ?_ ?_
 ·refine tr 2 ?_;refine Cr E9 rfl (fun m' hm he => (hzero m' hm)) ?_;rintro _ rfl;cases z with
  | false =>
    refine vr 17 ?_;exact QR false zx yA zb
  | true =>
    refine vr 4 ?_;refine Lo 0 ze rfl (hat.at_ rfl) ?_;refine Cr Ol rfl (fun m' hm he => (WY op)) ?_;rintro _ rfl;cases hcb : yU op with
    | false =>
      refine vr 11 ?_;exact QR true zx yA zb
    | true =>
      refine vr 6 ?_;refine zg ((yK Ok rfl (fun m1 hm1 he => Si hn m1 hm1 _ b t (hatn.mono hm1) (xv hm1 hk1)) rfl ?_)) rfl;rintro _ _ ⟨rfl, r, rfl, hrr⟩;refine vr 4 ?_;exact QR r zx (by simp [hrr]) zb
 intro y hy;rw [<- hy] at hfin hnext;clear hzero hy;refine tr 2 ?_
 refine ac (α := Bool) (fun y => [(0, .pointer (some ⟨b, 0, none⟩)), (1, .slice A l.length cap), (2, .int .i64 (d : Nat)), (18, .int .i64 (l.length : Nat)), (19, .int .i64 (i : Nat)), (9, .bool y)]) (fun _ => []) (fun z => z = true ↔ (y = true /\ xd (eC ul) t op who name = true /\ (op = 8 -> bg (eC ul) t cond /\ kK (eC ul) t (d + 1) thn /\ kK (eC ul) t (d + 1) els))) ?_ ?_
 ·refine tr 4 ?_;refine Lo 5 ze rfl (hat.at_ rfl) ?_;by_cases e0 : op = 0
  ·cases y with
   | false =>
     refine tr 1 ?_;refine yr 32 ?_;exact QR false zx (by simp [xd, *]) zb
   | true =>
     refine tr 1 ?_;refine yr 13 ?_;refine Lo 0 ze rfl (hat.at_ rfl) ?_;refine Cr dq rfl (fun m' hm he => (ej who)) ?_;rintro _ rfl;cases hsd : jD who with
     | true =>
       refine vr 17 ?_;exact QR true zx (by simp [xd, *]) zb
     | false =>
       by_cases hw2 : who = 2
       ·have h20 : jD 2 = false := rfl;refine vr 4 ?_;refine Lo 0 ze rfl (hat.at_ rfl) ?_;refine yr 4 ?_;refine Lo 6 cH rfl hk1 ?_;exact QR t zx (by simp [xd, *]) zb
       ·refine vr 4 ?_;refine Lo 0 ze rfl (hat.at_ rfl) ?_;refine zF 11 ?_;exact QR false zx (by simp [xd, *]) zb
  by_cases e1 : op = 1
  ·cases y with
   | false =>
     refine tr 1 ?_;refine zF 5 ?_;refine yr 29 ?_;exact QR false zx (by simp [xd, *]) zb
   | true =>
     refine tr 1 ?_;refine zF 5 ?_;refine yr 10 ?_;refine Lo 0 ze rfl (hat.at_ rfl) ?_;refine Cr dq rfl (fun m' hm he => (ej who)) ?_;rintro _ rfl;cases hsd : jD who with
     | true =>
       refine vr 17 ?_;exact QR true zx (by simp [xd, *]) zb
     | false =>
       by_cases hw2 : who = 2
       ·have h20 : jD 2 = false := rfl;refine vr 4 ?_;refine Lo 0 ze rfl (hat.at_ rfl) ?_;refine yr 4 ?_;refine Lo 6 cH rfl hk1 ?_;exact QR t zx (by simp [xd, *]) zb
       ·refine vr 4 ?_;refine Lo 0 ze rfl (hat.at_ rfl) ?_;refine zF 11 ?_;exact QR false zx (by simp [xd, *]) zb
  by_cases e2 : op = 2
  ·cases y with
   | false =>
     refine tr 1 ?_;refine zF 5 ?_;refine zF 7 ?_;refine yr 19 ?_;exact QR false zx (by simp [xd, *]) zb
   | true =>
     refine tr 1 ?_;refine zF 5 ?_;refine zF 7 ?_;refine yr 13 ?_;refine Lo 0 ze rfl (hat.at_ rfl) ?_;refine Cr dq rfl (fun m' hm he => (ej who)) ?_;rintro _ rfl;refine vr 4 ?_;exact QR (jD who) zx (by simp [xd, *]) zb
  by_cases e4 : op = 4
  ·cases y with
   | false =>
     refine tr 1 ?_;refine zF 5 ?_;refine zF 7 ?_;refine zF 6 ?_;refine yr 19 ?_;exact QR false zx (by simp [xd, *]) zb
   | true =>
     refine tr 1 ?_;refine zF 5 ?_;refine zF 7 ?_;refine zF 6 ?_;refine yr 13 ?_;refine Lo 0 ze rfl (hat.at_ rfl) ?_;refine Cr dq rfl (fun m' hm he => (ej who)) ?_;rintro _ rfl;refine vr 4 ?_;exact QR (jD who) zx (by simp [xd, *]) zb
  by_cases e6 : op = 6
  ·cases y with
   | false =>
     refine tr 1 ?_;refine zF 5 ?_;refine zF 7 ?_;refine zF 6 ?_;refine zF 5 ?_;refine yr 16 ?_;exact QR false zx (by simp [xd, *]) zb
   | true =>
     refine tr 1 ?_;refine zF 5 ?_;refine zF 7 ?_;refine zF 6 ?_;refine zF 5 ?_;refine yr 10 ?_;refine Lo 0 ze rfl (hat.at_ rfl) ?_;refine Cr dq rfl (fun m' hm he => (ej who)) ?_;rintro _ rfl;refine vr 4 ?_;exact QR (jD who) zx (by simp [xd, *]) zb
  by_cases e3 : op = 3
  ·cases y with
   | false =>
     refine tr 1 ?_;refine zF 5 ?_;refine zF 7 ?_;refine zF 6 ?_;refine zF 5 ?_;refine zF 7 ?_;refine yr 19 ?_;exact QR false zx (by simp [xd, *]) zb
   | true =>
     by_cases hw0 : who = 0
     ·refine tr 1 ?_;refine zF 5 ?_;refine zF 7 ?_;refine zF 6 ?_;refine zF 5 ?_;refine zF 7 ?_;refine yr 13 ?_;refine Lo 0 ze rfl (hat.at_ rfl) ?_;refine yr 4 ?_;exact QR true zx (by simp [xd, *]) zb
     ·refine tr 1 ?_;refine zF 5 ?_;refine zF 7 ?_;refine zF 6 ?_;refine zF 5 ?_;refine zF 7 ?_;refine yr 13 ?_;refine Lo 0 ze rfl (hat.at_ rfl) ?_;refine zF 4 ?_;exact QR false zx (by simp [xd, *]) zb
  by_cases e5 : op = 5
  ·cases y with
   | false =>
     refine tr 1 ?_;refine zF 5 ?_;refine zF 7 ?_;refine zF 6 ?_;refine zF 5 ?_;refine zF 7 ?_;refine zF 5 ?_;refine yr 16 ?_;exact QR false zx (by simp [xd, *]) zb
   | true =>
     by_cases hw0 : who = 0
     ·refine tr 1 ?_;refine zF 5 ?_;refine zF 7 ?_;refine zF 6 ?_;refine zF 5 ?_;refine zF 7 ?_;refine zF 5 ?_;refine yr 10 ?_;refine Lo 0 ze rfl (hat.at_ rfl) ?_;refine yr 4 ?_;exact QR true zx (by simp [xd, *]) zb
     ·refine tr 1 ?_;refine zF 5 ?_;refine zF 7 ?_;refine zF 6 ?_;refine zF 5 ?_;refine zF 7 ?_;refine zF 5 ?_;refine yr 10 ?_;refine Lo 0 ze rfl (hat.at_ rfl) ?_;refine zF 4 ?_;exact QR false zx (by simp [xd, *]) zb
  by_cases e7 : op = 7
  ·cases y with
   | false =>
     refine tr 1 ?_;refine zF 5 ?_;refine zF 7 ?_;refine zF 6 ?_;refine zF 5 ?_;refine zF 7 ?_;refine zF 5 ?_;refine zF 6 ?_;refine yr 4 ?_;refine yw (sT [0, 1, 2, 3, 4, 105, 6, 7, 8, 9, 10, 11, 13, 14, 15, 112, 116, 117, 18, 19] .done) mixed zi (fun _ _ _ _ hq => hq) ?_;refine vt 20 ?_;refine Vm 1 ?_;exact QR false zx (by simp [xd, *]) zb
   | true =>
     by_cases hw0 : who = 0
     ·have hgu := WM (s := name) (l := ul);cases hu : eC ul name with
      | none =>
        rw [hu] at hgu;refine tr 1 ?_;refine zF 5 ?_;refine zF 7 ?_;refine zF 6 ?_;refine zF 5 ?_;refine zF 7 ?_;refine zF 5 ?_;refine zF 6 ?_;refine yr 4 ?_;refine yw (sT [0, 1, 2, 3, 4, 105, 6, 7, 8, 9, 10, 11, 13, 14, 15, 112, 116, 117, 18, 19] .done) mixed zi (fun _ _ _ _ hq => hq) ?_;refine vt 5 ?_;refine Vu 0 rfl (zl ze rfl (hat.at_ rfl)) ?_
        refine Vt 8 rfl (dt (y3 rfl rfl) xi) ?_;refine Vu 0 rfl (zl Ix rfl hk0) ?_;refine Vu 0 rfl (zl yI rfl (hat.at_ rfl)) ?_;refine Vu 2 rfl (UI hmap qZ rfl rfl al) ?_;refine Vm 1 ?_;rw [hgu];skip;exact QR false zx (by simp [xd, *]) zb
      | some u =>
        rw [hu] at hgu;refine tr 1 ?_;refine zF 5 ?_;refine zF 7 ?_;refine zF 6 ?_;refine zF 5 ?_;refine zF 7 ?_;refine zF 5 ?_;refine zF 6 ?_;refine yr 4 ?_;refine yw (sT [0, 1, 2, 3, 4, 105, 6, 7, 8, 9, 10, 11, 13, 14, 15, 112, 116, 117, 18, 19] .done) mixed zi (fun _ _ _ _ hq => hq) ?_;refine vt 5 ?_;refine Vu 0 rfl (zl ze rfl (hat.at_ rfl)) ?_
        refine Vt 8 rfl (dt (y3 rfl rfl) xi) ?_;refine Vu 0 rfl (zl Ix rfl hk0) ?_;refine Vu 0 rfl (zl yI rfl (hat.at_ rfl)) ?_;refine Vu 2 rfl (UI hmap qZ rfl rfl al) ?_;refine Vm 1 ?_;rw [hgu];skip;exact QR u zx (by simp [xd, *]) zb
     ·refine tr 1 ?_;refine zF 5 ?_;refine zF 7 ?_;refine zF 6 ?_;refine zF 5 ?_;refine zF 7 ?_;refine zF 5 ?_;refine zF 6 ?_;refine yr 4 ?_;refine yw (sT [0, 1, 2, 3, 4, 105, 6, 7, 8, 9, 10, 11, 13, 14, 15, 112, 116, 117, 18, 19] .done) mixed zi (fun _ _ _ _ hq => hq) ?_;refine vt 5 ?_;refine Vu 0 rfl (zl ze rfl (hat.at_ rfl)) ?_
      refine Vt 13 rfl (df (y3 rfl rfl) xi) ?_;refine Vm 1 ?_;exact QR false zx (by simp [xd, *]) zb
  by_cases e8 : op = 8
  ·cases y with
   | false =>
     refine tr 1 ?_;refine zF 5 ?_;refine zF 7 ?_;refine zF 6 ?_;refine zF 5 ?_;refine zF 7 ?_;refine zF 5 ?_;refine zF 6 ?_;refine zF 6 ?_;refine yr 43 ?_;exact QR false zx (by simp [xd, *]) zb
   | true =>
     by_cases hw0 : who = 0
     ·refine tr 1 ?_;refine zF 5 ?_;refine zF 7 ?_;refine zF 6 ?_;refine zF 5 ?_;refine zF 7 ?_;refine zF 5 ?_;refine zF 6 ?_;refine zF 6 ?_;refine yr 10 ?_;refine Lo 0 ze rfl (hat.at_ rfl) ?_;refine yr 6 ?_;refine zg ((yK SB rfl (fun m1 hm1 he => T8 hc m1 hm1 _ b ul t (hatc.mono hm1) (hck0.mono hm1)) rfl ?_)) rfl;rintro _ _ ⟨rfl, r, rfl, hrr⟩;cases r with
      | false =>
        have hno : ¬ bg (eC ul) t cond := fun h => absurd (hrr.2 h) zb;clear hrr;refine vr 24 ?_;exact QR false zx (by simp [xd, *]) zb
      | true =>
        have hyes := hrr.1 rfl;clear hrr;refine vr 6 ?_;refine Lo 1 y8 rfl (hat.at_ rfl) ?_;refine Pa 0 ?_;refine zg ((yK KA rfl (fun m1 hm1 he => ihT m1 TA ca b (d + 1) ul t (hthn.mono hm1) (hck0.mono hm1) za) rfl ?_)) rfl;rintro _ _ ⟨rfl, r1, rfl, hr1⟩;cases r1 with
        | false =>
          have hno : ¬ kK (eC ul) t (d + 1) thn := fun h => absurd (hr1.2 h) zb;clear hr1;refine vr 14 ?_;exact QR false zx (by simp [xd, *]) zb
        | true =>
          have hyes1 := hr1.1 rfl;clear hr1;refine vr 6 ?_;refine Lo 1 y8 rfl (hat.at_ rfl) ?_;refine Pa 0 ?_;refine zg ((yK KA rfl (fun m1 hm1 he => ihE m1 EB cb b (d + 1) ul t (hels.mono hm1) (hck0.mono hm1) za) rfl ?_)) rfl;rintro _ _ ⟨rfl, r2, rfl, hr2⟩;refine vr 4 ?_;exact QR r2 zx (by simp [xd, *]) zb
     ·refine tr 1 ?_;refine zF 5 ?_;refine zF 7 ?_;refine zF 6 ?_;refine zF 5 ?_;refine zF 7 ?_;refine zF 5 ?_;refine zF 6 ?_;refine zF 6 ?_;refine yr 10 ?_;refine Lo 0 ze rfl (hat.at_ rfl) ?_;refine zF 31 ?_;exact QR false zx (by simp [xd, *]) zb
  refine tr 1 ?_;refine zF 5 ?_;refine zF 7 ?_;refine zF 6 ?_;refine zF 5 ?_;refine zF 7 ?_;refine zF 5 ?_;refine zF 6 ?_;refine zF 6 ?_;refine zF 11 ?_;refine zu ?_;refine zp ?_;refine zD ?_;refine zu ?_;refine zp ?_;refine zD ?_
  exact xE zj ⟨rfl, false, rfl, fun h => (by cases h), fun h => absurd h (hfin (by simp [xd, *]))⟩
 intro z hz;rw [<- hz] at hfin hnext;cases z with
 | false =>
   refine tr 15 ?_;refine zu ?_;refine zp ?_;refine zD ?_;exact xE zj ⟨rfl, false, rfl, fun h => (by cases h), fun h => absurd h (hfin zb)⟩
 | true =>
   refine tr 11 ?_;refine Pa 2 ?_;exact QR (i + 1) zx ⟨hlt, hnext rfl⟩ za
theorem aK (l : List zW) : LC l := J2 fun i h op who n name c a e he => ⟨aK a, aK e⟩
termination_by SizeOf.sizeOf l
decreasing_by
 all_goals
  have h1 := List.sizeOf_lt_of_mem (List.getElem_mem h);rw [he] at h1;simp only [zW.mk.sizeOf_spec] at h1;omega
end
end Go.Proofs.YtgohljjedlpccaaGreatDoor
