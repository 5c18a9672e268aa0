/- Parts of the proof: contracts of functions of the program, and plain lemmas. No condition. -/
import Derived.Test.YtpgiokjfkcddeaaGreatDoorTbE
import Derived.Test.YtpgiokjfkcddeaaGreatDoorTrI
import Derived.Test.YtpgiokjfkcddeaaGreatDoorFacts
import Derived.Test.YtpgiokjfkcddeaaGreatDoorEng2
set_option maxHeartbeats 64000000
set_option maxRecDepth 100000
namespace Go.Proofs.YtpgiokjfkcddeaaGreatDoor
open Go.Eng
section
open Wd Tp Kd
theorem ZX {L es r : List Ent} {a : Ent} (h : Tks L es r) : Tks (a :: L) es (a :: r) := by
 induction h with
 | nil => exact .nil
 | cons h1 _ ih => exact .cons (.there h1) ih
theorem Yr : ∀ es : List Ent, Tks es es []
 | [] => .nil
 | _ :: es => .cons .here (Yr es)
abbrev sB (b2 b3 : Nat) : Env := [(2, ptr b2), (3, ptr b3)]
def sGood (b2 b3 : Nat) (I : List UInt8 → List Ent → Prop) (env : Env) (L : List Ent) : Prop := Sub (sB b2 b3) env ∧ ∃ s L1, I s L1 ∧ L = [cel b3 [.int .i64 0] 27, cel b2 [.string (bs s)] 9, pack L1]
def sBad (b2 b3 : Nat) (N : Prop) (env : Env) (v : Value) (L : List Ent) : Prop := Sub (sB b2 b3) env ∧ ∃ v1 v2, N ∧ v = wrongV ∧ L = [cel b3 [v2] 27, cel b2 [v1] 9]
theorem safe31 {m : Mp} {g : FuncId} {q : List Value} {pre : List Ent} {N : Prop} {I : List UInt8 → List Ent → Prop} (hcl : callable Tryz.prog g = true)
  (hc : ∀ m', Le m m' → CSP Tryz.prog g q m' pre (fun v L' => ∃ s, v = .string (bs s) ∧ I s L') (fun v _ => N ∧ v = wrongV)) :
  CS Tryz.prog 31 [.func (.func g) [].toArray q.toArray] m pre (fun v L' => (∃ s, v = okT (some s) ∧ I s L') ∨ (N ∧ v = okT none ∧ L' = [])) := by
 intro h hs0 x0 d0;refine calls_of_wp_defers Tryz.func31 rfl ?_;refine at_W (x := ⟨x0.tape, x0.os, x0.out, []⟩) (h := h) (d := d0) rfl (fun a hag => ?_) (agD0 (by show 1 ≤ 7; decide))
 refine uW (m := m) (L := pre) (K := fun env' L' => ∃ b2 b3, L' = cel b3 [.int .i64 0] 27 :: cel b2 [.string (bs [])] 9 :: pre ∧ Sub [(0, .func (.func g) [].toArray q.toArray), (2, ptr b2), (3, ptr b3)] env') ?_ hs0 hag ?_
 ·refine tr 1 ?_;refine Al 0 zl9 fun b1 => ?_;refine Al 1 zl27 fun b2 => ?_;exact kV _ (Pick.refl _) ⟨b1, b2, rfl, rfl, rfl, rfl, trivial⟩
 rintro env1 _ h1 d1' a1' ⟨b2, b3, rfl, hsub⟩ hs1 hag1;have hag1 := hag1.sub hsub;refine wp_seq ?_;refine kf rfl rfl hag1 fun a5' hag5 => ?_;refine X1 (x := ⟨x0.tape, x0.os, x0.out, [dfr (.func 87) [ptr b2, ptr b3]]⟩) (Qr := endQ m (sGood b2 b3 I) (sBad b2 b3 N)) ?_ hs1 hag5 ?_
 ·refine tr 3 ?_;refine zC ((yh (p := []) (q := q) (vs := []) hcl rfl rfl (ZX (ZX (Yr pre))) (fun m' hm he => hc m' hm) rfl ?_ ?_)) rfl
  ·rintro _ _ ⟨h1, rfl⟩;refine vd ?_;exact xL (Le.refl _) [_, _] (Pick.app .pp) ⟨⟨rfl, rfl, trivial⟩, _, _, h1, rfl, rfl⟩
  rintro _ L1 ⟨s, rfl, hI⟩;refine uv [pack L1, cel b3 [.int .i64 0] 27, cel b2 [.string (bs [])] 9] (fun m h hs => HS.pack_iff.1 hs) ?_;refine Sr 0 co9 .h2 .here ?_;refine Sr 3 co27 .h1 .here ?_;exact kW (Le.refl _) [_, _, _] (.cons .h1 (.cons .h1 .p0)) ⟨⟨rfl, rfl, trivial⟩, s, L1, hI, rfl⟩
 ·rintro e1 env' h' d' a' hq hag';have hdf : a'.defers = [dfr (.func 87) [ptr b2, ptr b3]] := hag'.defers
  have good : ∀ L', sGood b2 b3 I env' L' → ∀ h2 d2, HS m L' h2 → ∃ vs, RvsOk Tryz.prog env' h2 [.cell 2 9, .cell 3 27] vs ∧ ∃ v h' d', Ending.returned (tup vs) = .returned v ∧ W x0 h2 d2 = W x0 h' d' ∧ postS m (fun v L' => (∃ s, v = okT (some s) ∧ I s L') ∨ (N ∧ v = okT none ∧ L' = [])) v h' := by
   rintro L' ⟨hsub, s, L1, hI, rfl⟩ h2 d2 hh;refine ⟨[_, _], RvsS.ok hh ⟨⟨_, _, _, _, hsub.1, .h1, .inl ⟨sg9, rfl⟩⟩, ⟨_, _, _, _, hsub.2.1, .here, .inl ⟨sg27, rfl⟩⟩, trivial⟩, _, h2, d2, rfl, rfl, L1, .inl ⟨s, rfl, hI⟩, ?_⟩;have := HS.pack_iff.2 hh.tail.tail;rwa [List.append_nil] at this
  have bad : Sub (sB b2 b3) env' → N → ∀ h2 d2, HS m [cel b3 [.int .i64 2] 27, cel b2 [.string (bs [])] 9] h2 → ∃ vs, RvsOk Tryz.prog env' h2 [.cell 2 9, .cell 3 27] vs ∧ ∃ v h' d', Ending.returned (tup vs) = .returned v ∧ W x0 h2 d2 = W x0 h' d' ∧ postS m (fun v L' => (∃ s, v = okT (some s) ∧ I s L') ∨ (N ∧ v = okT none ∧ L' = [])) v h' := by
   rintro hsub hr h2 d2 hh;exact ⟨[_, _], RvsS.ok hh ⟨⟨_, _, _, _, hsub.1, .h1, .inl ⟨sg9, rfl⟩⟩, ⟨_, _, _, _, hsub.2.1, .here, .inl ⟨sg27, rfl⟩⟩, trivial⟩, _, h2, d2, rfl, rfl, [], .inr ⟨hr, rfl, rfl⟩, hh.tail.tail⟩
  cases e1 with
  | normal =>
    obtain ⟨L', hp, hh⟩ := hq;show Leaves _ _ _ _ a'.defers _ _;rw [hdf];exact xk (post := fun _ L2 => L2 = L') (rs := [.cell 2 9, .cell 3 27]) rfl (by kernel_rfl) (by simp) rfl (Y0 hh) hag'.toAg (fun h2 d2 L2 e hs2 => by subst e; exact good _ hp h2 d2 hs2)
  | ret =>
    obtain ⟨L', hp, hh⟩ := hq;show Leaves _ _ _ _ a'.defers _ _;rw [hdf];exact xk (post := fun _ L2 => L2 = L') (rs := [.cell 2 9, .cell 3 27]) rfl (by kernel_rfl) (by simp) rfl (Y0 hh) hag'.toAg (fun h2 d2 L2 e hs2 => by subst e; exact good _ hp h2 d2 hs2)
  | panic c =>
    obtain ⟨v', L', rfl, ⟨hsub, v1, v2, hr, hv, rfl⟩, hh⟩ := hq;show Leaves _ _ _ _ a'.defers _ _;rw [hdf];exact xk (post := fun _ L2 => L2 = [cel b3 [.int .i64 2] 27, cel b2 [.string (bs [])] 9]) (rs := [.cell 2 9, .cell 3 27]) rfl (by kernel_rfl) (by simp) rfl (D87_pan hv hh) hag'.toAg (fun h2 d2 L2 e' hs2 => by subst e'; exact bad hsub hr h2 d2 hs2)
  | exit i => exact hq.elim
  | goto i => exact hq.elim
  | outgrown => exact hq.elim
end
section
open Wd Tp Kd
variable {m : Mp}
inductive CaI (H : List UInt8) (c : CardT) : Nat → List UInt8 → Nat → Prop
 | z {l : List UInt8} (hl : l = H) : CaI H c 0 l 0
 | a {l s : List UInt8} {p : Nat} (h1 : secP sPlayed c.played = some s) (hl : l = H ++ s) (hp : p = effsW c.played) : CaI H c 1 l p
 | b {l s t : List UInt8} {p : Nat} (h1 : secP sPlayed c.played = some s) (h2 : secP sDead c.dead = some t) (hl : l = H ++ s ++ t) (hp : p = effsW c.played + effsW c.dead) : CaI H c 2 l p
 | e {l s t u : List UInt8} {p : Nat} (h1 : secP sPlayed c.played = some s) (h2 : secP sDead c.dead = some t) (h3 : secP sDawn c.dawn = some u) (hl : l = H ++ s ++ t ++ u) (hp : p = effsW c.played + effsW c.dead + effsW c.dawn) : CaI H c 3 l p
theorem CaI.len {H : List UInt8} {c : CardT} {i p : Nat} {l : List UInt8} (h : CaI H c i l p) : l.length ≤ H.length + 100 * p + 60 := by
 cases h with
 | z hl => rw [hl]; omega
 | a h1 hl hp => have := y8 (by decide) h1; rw [hl, List.length_append]; omega
 | b h1 h2 hl hp => have := y8 (by decide) h1; have := y8 (by decide) h2; rw [hl, List.length_append, List.length_append]; omega
 | e h1 h2 h3 hl hp => have := y8 (by decide) h1; have := y8 (by decide) h2; have := y8 (by decide) h3; rw [hl, List.length_append, List.length_append, List.length_append]; omega
structure CaS where
 i : Nat
 p : Nat
 A : Option Addr
 c : Nat
 l : List UInt8
theorem wh {w : List UInt8} {l : List EffT} (h : ¬ 0 < l.length) : secP w l = some [] ∧ effsW l = 0 := by
 have : l = [] := List.eq_nil_of_length_eq_zero (by omega);subst this;exact ⟨rfl, rfl⟩
theorem yJ {w : List UInt8} {l : List EffT} {s : List UInt8} (h : 0 < l.length) (hs : blkP l 0 = some s) : secP w l = some (sSp ++ w ++ [32, 123] ++ s ++ [32, 125, 10]) := by
 unfold secP;rw [if_neg (by omega), hs]
 rfl
theorem yI {w : List UInt8} {l : List EffT} (h : 0 < l.length) (hs : blkP l 0 = none) : secP w l = none := by
 unfold secP;rw [if_neg (by omega), hs]
 rfl
theorem yw {c : CardT} {a b e : List UInt8} (hn : nameP c.name = true) (hk : kindB c = true) (hm : numsB c = true) (hw : cardWt c ≤ 200) (h1 : secP sPlayed c.played = some a) (h2 : secP sDead c.dead = some b) (h3 : secP sDawn c.dawn = some e) :
  cardP c = some (sCard ++ sSp ++ c.name ++ headT c ++ (a ++ b ++ e) ++ auraT c ++ shldT c ++ [125, 10]) := by
 unfold cardP secsP;rw [if_pos ⟨hn, hk, hm, hw⟩, h1, h2, h3]
 rfl
theorem zw {c : CardT} (h : ¬ (nameP c.name = true ∧ kindB c = true ∧ numsB c = true ∧ cardWt c ≤ 200)) : cardP c = none := by unfold cardP; rw [if_neg h]
theorem yK {c : CardT} (h : secP sPlayed c.played = none ∨ secP sDead c.dead = none ∨ secP sDawn c.dawn = none) : cardP c = none := by
 unfold cardP secsP
 split
 ·rcases h with h | h | h
  ·rw [h]; rfl
  ·rw [h]; cases secP sPlayed c.played <;> rfl
  ·rw [h]; cases secP sPlayed c.played <;> cases secP sDead c.dead <;> rfl
 ·rfl
theorem yL {n : Int} (h : smallB n = true) : 0 ≤ n ∧ n ≤ 999 := of_decide_eq_true h
def numsL (c : CardT) : List Int := [c.cost, c.power, c.health, c.shield, c.apow, c.aheal]
theorem ug {c : CardT} : (∀ x ∈ numsL c, smallB x = true) ↔ numsB c = true := by
 unfold numsL numsB
 simp [and_assoc]
theorem Yf {c : CardT} (h : numsB c = true) : smallB c.cost = true ∧ smallB c.power = true ∧ smallB c.health = true ∧ smallB c.shield = true ∧ smallB c.apow = true ∧ smallB c.aheal = true := by
 unfold numsB at h;simp only [Bool.and_eq_true] at h;obtain ⟨⟨⟨⟨⟨h1, h2⟩, h3⟩, h4⟩, h5⟩, h6⟩ := h;exact ⟨h1, h2, h3, h4, h5, h6⟩
theorem card40 (hT : TabI m) (hU : Tabs m) {B : Nat} {c : CardT} {q : CardC} (hR : Rd m (some ⟨B, 0, none⟩) (q.v c)) (hpl : EffsR m q.A c.played.length c.played) (hde : EffsR m q.B c.dead.length c.dead) (hda : EffsR m q.D c.dawn.length c.dawn) (hs : CardSm c) : TxC 40 [ptr B] m (cardP c) := by
 have hnl := hs.name;have hc0 : mc m ⟨B, 0, none⟩ = some (.string (bs c.name)) := hR.at_ (i := 0) rfl;have hc1 : mc m ⟨B, 1, none⟩ = some (.bool c.unit) := hR.at_ (i := 1) rfl;have hc2 : mc m ⟨B, 2, none⟩ = some (.int .i64 c.cost) := hR.at_ (i := 2) rfl;have hc3 : mc m ⟨B, 3, none⟩ = some (.int .i64 c.power) := hR.at_ (i := 3) rfl
 have hc4 : mc m ⟨B, 4, none⟩ = some (.int .i64 c.health) := hR.at_ (i := 4) rfl;have hc5 : mc m ⟨B, 5, none⟩ = some (.int .i64 c.shield) := hR.at_ (i := 5) rfl;have hc6 : mc m ⟨B, 6, none⟩ = some (.int .i64 c.apow) := hR.at_ (i := 6) rfl;have hc7 : mc m ⟨B, 7, none⟩ = some (.int .i64 c.aheal) := hR.at_ (i := 7) rfl
 have hc8 : mc m ⟨B, 8, none⟩ = some (.slice q.A c.played.length q.ca) := hR.at_ (i := 8) rfl;have hc9 : mc m ⟨B, 9, none⟩ = some (.slice q.B c.dead.length q.cb) := hR.at_ (i := 9) rfl;have hc10 : mc m ⟨B, 10, none⟩ = some (.slice q.D c.dawn.length q.cd) := hR.at_ (i := 10) rfl;skip;refine zg [.tmp 1] Tryz.func40 rfl rfl rfl ?_;cases hnp : nameP c.name with
 | false =>
   refine tr 8 ?_;refine Lo 0 sg9 rfl hc0 ?_;refine Cr cl41 rfl (fun m' hm he => (xf (hU.mono hm) hnl)) ?_;rintro _ rfl;rw [hnp];refine vr 14 ?_;refine Mf fun _ => ?_;exact pn ⟨zw (fun h => by rw [hnp] at h; exact absurd h.1 (by decide)), rfl⟩
 | true =>
 have hn40 := yF hnp;cases hun : c.unit with
 | true =>
   rw [hun] at hc1;have hkb : kindB c = true := by unfold kindB; rw [hun]; rfl
   refine tr 8 ?_;refine Lo 0 sg9 rfl hc0 ?_;refine Cr cl41 rfl (fun m' hm he => (xf (hU.mono hm) hnl)) ?_;rintro _ rfl;rw [hnp];refine vr 2 ?_;refine Lo 11 sg4 rfl hc1 ?_;refine Mt 5 ?_;refine Lo 1 sg3 rfl hc2 ?_;refine Lo 1 sg3 rfl hc3 ?_;refine Lo 1 sg3 rfl hc4 ?_;refine Lo 1 sg3 rfl hc5 ?_;refine Lo 1 sg3 rfl hc6 ?_;refine Lo 0 sg3 rfl hc7 ?_;refine Bs 0 sl121 fun b1 => ?_
   refine Cp cl42 rfl .nil (fun m' hm he => numbers42 (l := numsL c) (Rd.blk (he _ (.head _))) (by show 6 ≤ 100; decide)) ?_ ?_
   ·rintro _ _ ⟨h1, rfl⟩;exact pn ⟨zw (fun h => h1 (ug.2 h.2.2.1)), rfl⟩
   rintro _ _ ⟨h1, rfl, rfl⟩;have hnm := ug.1 h1;have hsm := Yf hnm;obtain ⟨s1, s2, s3, s4, s5, s6⟩ := hsm;have s1 := yL s1;have s2 := yL s2;have s3 := yL s3;have s4 := yL s4;have s5 := yL s5;have s6 := yL s6;refine vr 4 ?_;refine Al 3 zl76 fun b2 => ?_;refine xC 5 1 ?_;refine tr 2 ?_;refine Lo 0 sg9 rfl hc0 ?_;refine Ps 0 ?_
   refine zC ((zF cl36 rfl (.cons .h1 .k0) (fun m' hm he => Write36 (s := [99, 97, 114, 100, 32] ++ c.name) (.inl rfl) Buf.nil (by simp only [List.length_append, List.length_cons, List.length_nil]; omega)) rfl ?_)) rfl;rintro _ _ ⟨A1, c1, hB1, rfl, rfl⟩;refine vr 6 ?_;refine Lo 3 sg4 rfl hc1 ?_;refine Db (sq [0, 1, 5, 6, 10, 11, 102, 3, 4, 107, 8, 9, 112, 13, 14, 115] .done) ?_
   refine vB 1 ?_;refine Vr 1 rfl (zG sg3 rfl hc2) ?_;refine Vr 1 rfl (zG sg3 rfl hc3) ?_;refine Vr 0 rfl (zG sg3 rfl hc4) ?_;refine zA rfl (zU cl43 rfl (fun m' hm he => (yG (hT.mono hm) (by omega) (by omega))) rfl ?_) rfl;rintro _ rfl;rw [zy s1.1 s1.2];have hd_cost := ze c.cost;refine Vs 0 rfl ?_;refine Vs 0 rfl ?_
   refine zA rfl (zU cl43 rfl (fun m' hm he => (yG (hT.mono hm) (by omega) (by omega))) rfl ?_) rfl;rintro _ rfl;rw [zy s2.1 s2.2];have hd_power := ze c.power;refine Vs 0 rfl ?_;refine Vs 0 rfl ?_;refine zA rfl (zU cl43 rfl (fun m' hm he => (yG (hT.mono hm) (by omega) (by omega))) rfl ?_) rfl;rintro _ rfl;rw [zy s3.1 s3.2]
   have hd_health := ze c.health;refine Vs 0 rfl ?_;refine Vs 0 rfl ?_;refine zA rfl ((zF cl36 rfl (.cons .here .k0) (fun m' hm he => Write36 (s := [32, 117, 110, 105, 116, 32] ++ decP c.cost ++ [32] ++ decP c.power ++ [47] ++ decP c.health ++ [32, 123, 10]) (.inr rfl) hB1 (by simp only [List.length_append, List.length_cons, List.length_nil]; omega)) rfl ?_)) rfl
   rintro _ _ ⟨A2, c2, hB2, rfl, rfl⟩;refine Vn 3 ?_;refine pe 0 (zV zl91 pl91 rfl rfl) ?_;refine Bx 7 rfl fun b3 => ?_;refine Lo 1 sg38 rfl hc8 ?_;refine Lo 1 sg38 rfl hc9 ?_;refine Lo 0 sg38 rfl hc10 ?_;refine Bs 5 sl92 fun b4 => ?_;refine zI .here (fun ns hi _ hd => ?_)
   have hR4 : Rd (uni m ns) (some ⟨b4, 0, none⟩) [.slice q.A c.played.length q.ca, .slice q.B c.dead.length q.cb, .slice q.D c.dawn.length q.cd] := (Rd.blk hi).mono (zP hd);have hl2 : Le m (uni m ns) := zN _ _;clear hi hd;generalize uni m ns = m9 at hR4 hl2;have hT := hT.mono hl2;have hU := hU.mono hl2;have hc0 := zq hl2 hc0;have hc1 := zq hl2 hc1;have hc2 := zq hl2 hc2
   have hc3 := zq hl2 hc3;have hc4 := zq hl2 hc4;have hc5 := zq hl2 hc5;have hc6 := zq hl2 hc6;have hc7 := zq hl2 hc7;have hc8 := zq hl2 hc8;have hc9 := zq hl2 hc9;have hc10 := zq hl2 hc10;have hb1 : BlkOk m9 b3 q.A c.played.length q.ca c.played := blk44 c.played hs.p m9 hT hU b3 q.A q.ca (hpl.mono hl2) hs.lp
   have hb2 : BlkOk m9 b3 q.B c.dead.length q.cb c.dead := blk44 c.dead hs.d m9 hT hU b3 q.B q.cb (hde.mono hl2) hs.ld;have hb3 : BlkOk m9 b3 q.D c.dawn.length q.cd c.dawn := blk44 c.dawn hs.w m9 hT hU b3 q.D q.cd (hda.mono hl2) hs.lw;have hq0 : mc m9 ⟨b4, 0, none⟩ = some (.slice q.A c.played.length q.ca) := hR4.at_ (i := 0) rfl
   have hq1 : mc m9 ⟨b4, 1, none⟩ = some (.slice q.B c.dead.length q.cb) := hR4.at_ (i := 1) rfl;have hq2 : mc m9 ⟨b4, 2, none⟩ = some (.slice q.D c.dawn.length q.cd) := hR4.at_ (i := 2) rfl;have hlp : c.played.length ≤ 9223372036854775807 := Nat.le_trans hs.lp (by decide);have hld : c.dead.length ≤ 9223372036854775807 := Nat.le_trans hs.ld (by decide)
   have hlw : c.dawn.length ≤ 9223372036854775807 := Nat.le_trans hs.lw (by decide)
   refine zu (α := CaS) (fun y => [(0, ptr B), (2, ptr b2), (3, ptr b3), (74, .slice (some ⟨b4, 0, none⟩) 3 3), (75, .int .i64 (3 : Nat)), (76, .int .i64 (y.i : Nat))]) (fun y => buL b2 (ptr b2) y.A y.c y.l ++ [pr b3 y.p 0])
    (fun y => CaI (sCard ++ sSp ++ c.name ++ headT c) c y.i y.l y.p ∧ Buf y.A y.l ∧ y.p ≤ 200) (fun y => 3 - y.i) ⟨0, 0, A2, c2, _⟩ ⟨rfl, rfl, rfl, rfl, rfl, rfl, trivial⟩ (.cons .h1 (.cons .h1 .p0)) ⟨.z (by unfold headT; simp [hun]), hB2, Nat.zero_le _⟩ ?_
   have hHl : (sCard ++ sSp ++ c.name ++ headT c).length ≤ 100 := by
    have h1 := yF hnp;have h2 := vC c;simp only [List.length_append, List.length_cons, List.length_nil];omega
   rintro ⟨i, p, A3, c3, l⟩ ⟨hI, hB3, hp⟩;dsimp only at hI hB3 hp;dsimp only;have hlen := hI.len;cases hI with
   | z hl =>
     by_cases hlen0 : 0 < c.played.length
     rotate_left
     ·obtain ⟨e1, e2⟩ := wh (w := sPlayed) hlen0;refine tr 2 ?_;refine cto 11 ?_;refine pe 0 (zH ez92 rfl rfl (hR4.isSome (by simp <;> omega)) (by omega)) ?_;refine Lo 8 sg38 rfl hq0 ?_;refine cfo 7 ?_;refine Pa 2 ?_;exact QR (⟨1, _, A3, c3, l⟩ : CaS) (Pick.refl _) ⟨.a (s := []) (by exact e1) (by rw [hl]; simp) (by dsimp only; omega), hB3, hp⟩ (by dsimp only; omega)
     skip;refine tr 2 ?_;refine cto 11 ?_;refine pe 0 (zH ez92 rfl rfl (hR4.isSome (by simp <;> omega)) (by omega)) ?_;refine Lo 8 sg38 rfl hq0 ?_;refine cto 3 ?_;refine Db (sq [1, 6, 7] (.fork (sq [100, 2] (.fork (sq [103, 4, 5, 108, 9, 10, 111] .done) (sq [108, 103, 4, 5, 9, 10, 111] .done))) (sq [108, 100, 2, 103, 4, 5, 9, 10, 111] .done))) ?_;refine vB 3 ?_;refine zt ?_ ?_
     refine zA rfl (zR sl61 rfl rfl rfl rfl (fun b5 => ?_)) rfl;refine Vb 0 rfl (zH ez61 rfl rfl (hR4.isSome (by simp <;> omega)) (by omega)) ?_;refine zt ?_ ?_
     ·refine Ve 0 rfl ((zf (b := b5) (i := 0) (l := [.string (bs [112, 108, 97, 121, 101, 100]), .string (bs [100, 101, 97, 100]), .string (bs [100, 97, 119, 110])]) sg9 rfl .here rfl)) ?_;refine Vs 0 rfl ?_;refine Vs 0 rfl ?_;refine zA rfl ((zW cl44 rfl .k3 (fun m' hm he => hb1 m' hm _ 0 hp (by decide)) rfl ?_ ?_)) rfl
      ·rintro _ _ ⟨g1, rfl⟩;refine zX ?_;refine zK ?_;exact pW hl2 ⟨g1.elim (fun g => yK (Or.inl (yI hlen0 g))) (fun g => zw (fun h => by have hw := h.2.2.2; unfold cardWt at hw; omega)), rfl⟩
      rintro _ _ ⟨s, g1, g2, rfl, rfl⟩;have gl := z1 g1;refine Vs 0 rfl ?_;refine Vs 0 rfl ?_;refine zA rfl ((zF cl36 rfl (.cons .h2 .k2) (fun m' hm he => Write36 (s := [32] ++ [112, 108, 97, 121, 101, 100] ++ [32, 123] ++ s ++ [32, 125, 10]) (.inr rfl) hB3 (by simp only [List.length_append, List.length_cons, List.length_nil]; omega)) rfl ?_)) rfl
      rintro _ _ ⟨A4, c4, hB4, rfl, rfl⟩;refine Vn 3 ?_;refine Pa 2 ?_;exact QR (⟨1, _, A4, c4, _⟩ : CaS) (.cons .here .pp) ⟨.a (s := _) (by exact yJ hlen0 g1) (by rw [hl]) (by dsimp only; omega), hB4, g2⟩ (by dsimp only; omega)
     ·skip;refine zA rfl ((zW cl44 rfl .k3 (fun m' hm he => hb1 m' hm _ 0 hp (by decide)) rfl ?_ ?_)) rfl
      ·rintro _ _ ⟨g1, rfl⟩;refine zX ?_;refine zK ?_;exact pW hl2 ⟨g1.elim (fun g => yK (Or.inl (yI hlen0 g))) (fun g => zw (fun h => by have hw := h.2.2.2; unfold cardWt at hw; omega)), rfl⟩
      rintro _ _ ⟨s, g1, g2, rfl, rfl⟩;have gl := z1 g1;skip;refine Ve 0 rfl ((zf (b := b5) (i := 0) (l := [.string (bs [112, 108, 97, 121, 101, 100]), .string (bs [100, 101, 97, 100]), .string (bs [100, 97, 119, 110])]) sg9 rfl .h1 rfl)) ?_
      iterate 4 (refine Vs 0 rfl ?_)
      refine zA rfl ((zF cl36 rfl (.cons .h2 .k2) (fun m' hm he => Write36 (s := [32] ++ [112, 108, 97, 121, 101, 100] ++ [32, 123] ++ s ++ [32, 125, 10]) (.inr rfl) hB3 (by simp only [List.length_append, List.length_cons, List.length_nil]; omega)) rfl ?_)) rfl;rintro _ _ ⟨A4, c4, hB4, rfl, rfl⟩;refine Vn 3 ?_;refine Pa 2 ?_
      exact QR (⟨1, _, A4, c4, _⟩ : CaS) (.cons .here .pp) ⟨.a (s := _) (by exact yJ hlen0 g1) (by rw [hl]) (by dsimp only; omega), hB4, g2⟩ (by dsimp only; omega)
     ·refine zA rfl ((zW cl44 rfl .k2 (fun m' hm he => hb1 m' hm _ 0 hp (by decide)) rfl ?_ ?_)) rfl
      ·rintro _ _ ⟨g1, rfl⟩;refine zX ?_;refine zK ?_;exact pW hl2 ⟨g1.elim (fun g => yK (Or.inl (yI hlen0 g))) (fun g => zw (fun h => by have hw := h.2.2.2; unfold cardWt at hw; omega)), rfl⟩
      rintro _ _ ⟨s, g1, g2, rfl, rfl⟩;have gl := z1 g1;refine zA rfl (zR sl61 rfl rfl rfl rfl (fun b5 => ?_)) rfl;refine Vb 0 rfl (zH ez61 rfl rfl (hR4.isSome (by simp <;> omega)) (by omega)) ?_
      refine Ve 0 rfl ((zf (b := b5) (i := 0) (l := [.string (bs [112, 108, 97, 121, 101, 100]), .string (bs [100, 101, 97, 100]), .string (bs [100, 97, 119, 110])]) sg9 rfl .here rfl)) ?_
      iterate 4 (refine Vs 0 rfl ?_)
      refine zA rfl ((zF cl36 rfl (.cons .h2 .k2) (fun m' hm he => Write36 (s := [32] ++ [112, 108, 97, 121, 101, 100] ++ [32, 123] ++ s ++ [32, 125, 10]) (.inr rfl) hB3 (by simp only [List.length_append, List.length_cons, List.length_nil]; omega)) rfl ?_)) rfl;rintro _ _ ⟨A4, c4, hB4, rfl, rfl⟩;refine Vn 3 ?_;refine Pa 2 ?_
      exact QR (⟨1, _, A4, c4, _⟩ : CaS) (.cons .here (.cons .here .p1)) ⟨.a (s := _) (by exact yJ hlen0 g1) (by rw [hl]) (by dsimp only; omega), hB4, g2⟩ (by dsimp only; omega)
   | a h1 hl hpe =>
     by_cases hlen0 : 0 < c.dead.length
     rotate_left
     ·obtain ⟨e1, e2⟩ := wh (w := sDead) hlen0;refine tr 2 ?_;refine cto 11 ?_;refine pe 0 (zH ez92 rfl rfl (hR4.isSome (by simp <;> omega)) (by omega)) ?_;refine Lo 8 sg38 rfl hq1 ?_;refine cfo 7 ?_;refine Pa 2 ?_;exact QR (⟨2, _, A3, c3, l⟩ : CaS) (Pick.refl _) ⟨.b (t := []) h1 (by exact e1) (by rw [hl]; simp) (by dsimp only; omega), hB3, hp⟩ (by dsimp only; omega)
     skip;refine tr 2 ?_;refine cto 11 ?_;refine pe 0 (zH ez92 rfl rfl (hR4.isSome (by simp <;> omega)) (by omega)) ?_;refine Lo 8 sg38 rfl hq1 ?_;refine cto 3 ?_;refine Db (sq [1, 6, 7] (.fork (sq [100, 2] (.fork (sq [103, 4, 5, 108, 9, 10, 111] .done) (sq [108, 103, 4, 5, 9, 10, 111] .done))) (sq [108, 100, 2, 103, 4, 5, 9, 10, 111] .done))) ?_;refine vB 3 ?_;refine zt ?_ ?_
     refine zA rfl (zR sl61 rfl rfl rfl rfl (fun b5 => ?_)) rfl;refine Vb 0 rfl (zH ez61 rfl rfl (hR4.isSome (by simp <;> omega)) (by omega)) ?_;refine zt ?_ ?_
     ·refine Ve 0 rfl ((zf (b := b5) (i := 1) (l := [.string (bs [112, 108, 97, 121, 101, 100]), .string (bs [100, 101, 97, 100]), .string (bs [100, 97, 119, 110])]) sg9 rfl .here rfl)) ?_;refine Vs 0 rfl ?_;refine Vs 0 rfl ?_;refine zA rfl ((zW cl44 rfl .k3 (fun m' hm he => hb2 m' hm _ 0 hp (by decide)) rfl ?_ ?_)) rfl
      ·rintro _ _ ⟨g1, rfl⟩;refine zX ?_;refine zK ?_;exact pW hl2 ⟨g1.elim (fun g => yK (Or.inr <| Or.inl (yI hlen0 g))) (fun g => zw (fun h => by have hw := h.2.2.2; unfold cardWt at hw; omega)), rfl⟩
      rintro _ _ ⟨s, g1, g2, rfl, rfl⟩;have gl := z1 g1;refine Vs 0 rfl ?_;refine Vs 0 rfl ?_;refine zA rfl ((zF cl36 rfl (.cons .h2 .k2) (fun m' hm he => Write36 (s := [32] ++ [100, 101, 97, 100] ++ [32, 123] ++ s ++ [32, 125, 10]) (.inr rfl) hB3 (by simp only [List.length_append, List.length_cons, List.length_nil]; omega)) rfl ?_)) rfl;rintro _ _ ⟨A4, c4, hB4, rfl, rfl⟩
      refine Vn 3 ?_;refine Pa 2 ?_;exact QR (⟨2, _, A4, c4, _⟩ : CaS) (.cons .here .pp) ⟨.b (t := _) h1 (by exact yJ hlen0 g1) (by rw [hl]) (by dsimp only; omega), hB4, g2⟩ (by dsimp only; omega)
     ·skip;refine zA rfl ((zW cl44 rfl .k3 (fun m' hm he => hb2 m' hm _ 0 hp (by decide)) rfl ?_ ?_)) rfl
      ·rintro _ _ ⟨g1, rfl⟩;refine zX ?_;refine zK ?_;exact pW hl2 ⟨g1.elim (fun g => yK (Or.inr <| Or.inl (yI hlen0 g))) (fun g => zw (fun h => by have hw := h.2.2.2; unfold cardWt at hw; omega)), rfl⟩
      rintro _ _ ⟨s, g1, g2, rfl, rfl⟩;have gl := z1 g1;skip;refine Ve 0 rfl ((zf (b := b5) (i := 1) (l := [.string (bs [112, 108, 97, 121, 101, 100]), .string (bs [100, 101, 97, 100]), .string (bs [100, 97, 119, 110])]) sg9 rfl .h1 rfl)) ?_
      iterate 4 (refine Vs 0 rfl ?_)
      refine zA rfl ((zF cl36 rfl (.cons .h2 .k2) (fun m' hm he => Write36 (s := [32] ++ [100, 101, 97, 100] ++ [32, 123] ++ s ++ [32, 125, 10]) (.inr rfl) hB3 (by simp only [List.length_append, List.length_cons, List.length_nil]; omega)) rfl ?_)) rfl;rintro _ _ ⟨A4, c4, hB4, rfl, rfl⟩;refine Vn 3 ?_;refine Pa 2 ?_
      exact QR (⟨2, _, A4, c4, _⟩ : CaS) (.cons .here .pp) ⟨.b (t := _) h1 (by exact yJ hlen0 g1) (by rw [hl]) (by dsimp only; omega), hB4, g2⟩ (by dsimp only; omega)
     ·refine zA rfl ((zW cl44 rfl .k2 (fun m' hm he => hb2 m' hm _ 0 hp (by decide)) rfl ?_ ?_)) rfl
      ·rintro _ _ ⟨g1, rfl⟩;refine zX ?_;refine zK ?_;exact pW hl2 ⟨g1.elim (fun g => yK (Or.inr <| Or.inl (yI hlen0 g))) (fun g => zw (fun h => by have hw := h.2.2.2; unfold cardWt at hw; omega)), rfl⟩
      rintro _ _ ⟨s, g1, g2, rfl, rfl⟩;have gl := z1 g1;refine zA rfl (zR sl61 rfl rfl rfl rfl (fun b5 => ?_)) rfl;refine Vb 0 rfl (zH ez61 rfl rfl (hR4.isSome (by simp <;> omega)) (by omega)) ?_
      refine Ve 0 rfl ((zf (b := b5) (i := 1) (l := [.string (bs [112, 108, 97, 121, 101, 100]), .string (bs [100, 101, 97, 100]), .string (bs [100, 97, 119, 110])]) sg9 rfl .here rfl)) ?_
      iterate 4 (refine Vs 0 rfl ?_)
      refine zA rfl ((zF cl36 rfl (.cons .h2 .k2) (fun m' hm he => Write36 (s := [32] ++ [100, 101, 97, 100] ++ [32, 123] ++ s ++ [32, 125, 10]) (.inr rfl) hB3 (by simp only [List.length_append, List.length_cons, List.length_nil]; omega)) rfl ?_)) rfl;rintro _ _ ⟨A4, c4, hB4, rfl, rfl⟩;refine Vn 3 ?_;refine Pa 2 ?_
      exact QR (⟨2, _, A4, c4, _⟩ : CaS) (.cons .here (.cons .here .p1)) ⟨.b (t := _) h1 (by exact yJ hlen0 g1) (by rw [hl]) (by dsimp only; omega), hB4, g2⟩ (by dsimp only; omega)
   | b h1 h2 hl hpe =>
     by_cases hlen0 : 0 < c.dawn.length
     rotate_left
     ·obtain ⟨e1, e2⟩ := wh (w := sDawn) hlen0;refine tr 2 ?_;refine cto 11 ?_;refine pe 0 (zH ez92 rfl rfl (hR4.isSome (by simp <;> omega)) (by omega)) ?_;refine Lo 8 sg38 rfl hq2 ?_;refine cfo 7 ?_;refine Pa 2 ?_;exact QR (⟨3, _, A3, c3, l⟩ : CaS) (Pick.refl _) ⟨.e (u := []) h1 h2 (by exact e1) (by rw [hl]; simp) (by dsimp only; omega), hB3, hp⟩ (by dsimp only; omega)
     skip;refine tr 2 ?_;refine cto 11 ?_;refine pe 0 (zH ez92 rfl rfl (hR4.isSome (by simp <;> omega)) (by omega)) ?_;refine Lo 8 sg38 rfl hq2 ?_;refine cto 3 ?_;refine Db (sq [1, 6, 7] (.fork (sq [100, 2] (.fork (sq [103, 4, 5, 108, 9, 10, 111] .done) (sq [108, 103, 4, 5, 9, 10, 111] .done))) (sq [108, 100, 2, 103, 4, 5, 9, 10, 111] .done))) ?_;refine vB 3 ?_;refine zt ?_ ?_
     refine zA rfl (zR sl61 rfl rfl rfl rfl (fun b5 => ?_)) rfl;refine Vb 0 rfl (zH ez61 rfl rfl (hR4.isSome (by simp <;> omega)) (by omega)) ?_;refine zt ?_ ?_
     ·refine Ve 0 rfl ((zf (b := b5) (i := 2) (l := [.string (bs [112, 108, 97, 121, 101, 100]), .string (bs [100, 101, 97, 100]), .string (bs [100, 97, 119, 110])]) sg9 rfl .here rfl)) ?_;refine Vs 0 rfl ?_;refine Vs 0 rfl ?_;refine zA rfl ((zW cl44 rfl .k3 (fun m' hm he => hb3 m' hm _ 0 hp (by decide)) rfl ?_ ?_)) rfl
      ·rintro _ _ ⟨g1, rfl⟩;refine zX ?_;refine zK ?_;exact pW hl2 ⟨g1.elim (fun g => yK (Or.inr <| Or.inr (yI hlen0 g))) (fun g => zw (fun h => by have hw := h.2.2.2; unfold cardWt at hw; omega)), rfl⟩
      rintro _ _ ⟨s, g1, g2, rfl, rfl⟩;have gl := z1 g1;refine Vs 0 rfl ?_;refine Vs 0 rfl ?_;refine zA rfl ((zF cl36 rfl (.cons .h2 .k2) (fun m' hm he => Write36 (s := [32] ++ [100, 97, 119, 110] ++ [32, 123] ++ s ++ [32, 125, 10]) (.inr rfl) hB3 (by simp only [List.length_append, List.length_cons, List.length_nil]; omega)) rfl ?_)) rfl;rintro _ _ ⟨A4, c4, hB4, rfl, rfl⟩
      refine Vn 3 ?_;refine Pa 2 ?_;exact QR (⟨3, _, A4, c4, _⟩ : CaS) (.cons .here .pp) ⟨.e (u := _) h1 h2 (by exact yJ hlen0 g1) (by rw [hl]) (by dsimp only; omega), hB4, g2⟩ (by dsimp only; omega)
     ·skip;refine zA rfl ((zW cl44 rfl .k3 (fun m' hm he => hb3 m' hm _ 0 hp (by decide)) rfl ?_ ?_)) rfl
      ·rintro _ _ ⟨g1, rfl⟩;refine zX ?_;refine zK ?_;exact pW hl2 ⟨g1.elim (fun g => yK (Or.inr <| Or.inr (yI hlen0 g))) (fun g => zw (fun h => by have hw := h.2.2.2; unfold cardWt at hw; omega)), rfl⟩
      rintro _ _ ⟨s, g1, g2, rfl, rfl⟩;have gl := z1 g1;skip;refine Ve 0 rfl ((zf (b := b5) (i := 2) (l := [.string (bs [112, 108, 97, 121, 101, 100]), .string (bs [100, 101, 97, 100]), .string (bs [100, 97, 119, 110])]) sg9 rfl .h1 rfl)) ?_
      iterate 4 (refine Vs 0 rfl ?_)
      refine zA rfl ((zF cl36 rfl (.cons .h2 .k2) (fun m' hm he => Write36 (s := [32] ++ [100, 97, 119, 110] ++ [32, 123] ++ s ++ [32, 125, 10]) (.inr rfl) hB3 (by simp only [List.length_append, List.length_cons, List.length_nil]; omega)) rfl ?_)) rfl;rintro _ _ ⟨A4, c4, hB4, rfl, rfl⟩;refine Vn 3 ?_;refine Pa 2 ?_
      exact QR (⟨3, _, A4, c4, _⟩ : CaS) (.cons .here .pp) ⟨.e (u := _) h1 h2 (by exact yJ hlen0 g1) (by rw [hl]) (by dsimp only; omega), hB4, g2⟩ (by dsimp only; omega)
     ·refine zA rfl ((zW cl44 rfl .k2 (fun m' hm he => hb3 m' hm _ 0 hp (by decide)) rfl ?_ ?_)) rfl
      ·rintro _ _ ⟨g1, rfl⟩;refine zX ?_;refine zK ?_;exact pW hl2 ⟨g1.elim (fun g => yK (Or.inr <| Or.inr (yI hlen0 g))) (fun g => zw (fun h => by have hw := h.2.2.2; unfold cardWt at hw; omega)), rfl⟩
      rintro _ _ ⟨s, g1, g2, rfl, rfl⟩;have gl := z1 g1;refine zA rfl (zR sl61 rfl rfl rfl rfl (fun b5 => ?_)) rfl;refine Vb 0 rfl (zH ez61 rfl rfl (hR4.isSome (by simp <;> omega)) (by omega)) ?_
      refine Ve 0 rfl ((zf (b := b5) (i := 2) (l := [.string (bs [112, 108, 97, 121, 101, 100]), .string (bs [100, 101, 97, 100]), .string (bs [100, 97, 119, 110])]) sg9 rfl .here rfl)) ?_
      iterate 4 (refine Vs 0 rfl ?_)
      refine zA rfl ((zF cl36 rfl (.cons .h2 .k2) (fun m' hm he => Write36 (s := [32] ++ [100, 97, 119, 110] ++ [32, 123] ++ s ++ [32, 125, 10]) (.inr rfl) hB3 (by simp only [List.length_append, List.length_cons, List.length_nil]; omega)) rfl ?_)) rfl;rintro _ _ ⟨A4, c4, hB4, rfl, rfl⟩;refine Vn 3 ?_;refine Pa 2 ?_
      exact QR (⟨3, _, A4, c4, _⟩ : CaS) (.cons .here (.cons .here .p1)) ⟨.e (u := _) h1 h2 (by exact yJ hlen0 g1) (by rw [hl]) (by dsimp only; omega), hB4, g2⟩ (by dsimp only; omega)
   | e h1 h2 h3 hl hpe =>
     skip;by_cases ha0 : c.apow = 0
     rotate_left
     ·have hau : auraT c = sSp ++ sAura ++ sSp ++ decP c.apow ++ sSlash ++ decP c.aheal ++ [59, 10] := by unfold auraT; rw [if_neg (fun h => ha0 h.1)]
      refine tr 2 ?_;refine cfo 6 ?_;refine zE ?_;refine zD ?_;refine qt 5 ?_;refine Lo 0 sg3 rfl hc6 ?_;refine cta 8 ?_;refine Db (sq [0, 1, 5, 6, 102, 3, 4, 107, 8, 9, 110] .done) ?_;refine vB 1 ?_;refine Vr 1 rfl (zG sg3 rfl hc6) ?_;refine Vr 0 rfl (zG sg3 rfl hc7) ?_
      refine zA rfl (zU cl43 rfl (fun m' hm he => (yG (hT.mono hm) (by omega) (by omega))) rfl ?_) rfl;rintro _ rfl;rw [zy s5.1 s5.2];have hd_apow := ze c.apow;refine Vs 0 rfl ?_;refine Vs 0 rfl ?_;refine zA rfl (zU cl43 rfl (fun m' hm he => (yG (hT.mono hm) (by omega) (by omega))) rfl ?_) rfl;rintro _ rfl;rw [zy s6.1 s6.2]
      have hd_aheal := ze c.aheal;refine Vs 0 rfl ?_;refine Vs 0 rfl ?_;refine zA rfl ((zF cl36 rfl (.cons .here .k0) (fun m' hm he => Write36 (s := [32, 97, 117, 114, 97, 32] ++ decP c.apow ++ [47] ++ decP c.aheal ++ [59, 10]) (.inr rfl) hB3 (by simp only [List.length_append, List.length_cons, List.length_nil]; omega)) rfl ?_)) rfl;rintro _ _ ⟨A5, c5, hB5, rfl, rfl⟩
      by_cases hs0 : c.shield = 0
      ·have hsh : shldT c = [] := by unfold shldT; rw [if_pos hs0]
       refine Vn 5 ?_;refine Lo 0 sg3 rfl hc5 ?_;refine cfo 7 ?_;refine zC ((zF cl38 rfl (.cons .here .k0) (fun m' hm he => String38 hB5 (by first | omega | (simp only [List.length_append, List.length_cons, List.length_nil]; omega))) rfl ?_)) rfl;rintro _ _ ⟨rfl, rfl⟩;refine Ps 4 ?_
       exact rt4 hl2 ⟨rfl, trivial⟩ ⟨_, yw hnp hkb hnm (by unfold cardWt; omega) h1 h2 h3, congrArg (fun t => Value.string (bs t)) (by rw [hl, hau, hsh]; simp), rfl⟩
      ·have hsh : shldT c = sSp ++ sShield ++ sSp ++ decP c.shield ++ [59, 10] := by unfold shldT; rw [if_neg hs0]
       refine Vn 5 ?_;refine Lo 0 sg3 rfl hc5 ?_;refine cta 5 ?_;refine Lo 0 sg3 rfl hc5 ?_;refine Cr cl43 rfl (fun m' hm he => (yG (hT.mono hm) (by omega) (by omega))) ?_;rintro _ rfl;rw [zy s4.1 s4.2];have hd_shield := ze c.shield;refine Ps 0 ?_;refine Ps 0 ?_
       refine zC ((zF cl36 rfl (.cons .here .k0) (fun m' hm he => Write36 (s := [32, 115, 104, 105, 101, 108, 100, 32] ++ decP c.shield ++ [59, 10]) (.inr rfl) hB5 (by simp only [List.length_append, List.length_cons, List.length_nil]; omega)) rfl ?_)) rfl;rintro _ _ ⟨A6, c6, hB6, rfl, rfl⟩;refine vr 4 ?_
       refine zC ((zF cl38 rfl (.cons .here .k0) (fun m' hm he => String38 hB6 (by first | omega | (simp only [List.length_append, List.length_cons, List.length_nil]; omega))) rfl ?_)) rfl;rintro _ _ ⟨rfl, rfl⟩;refine Ps 4 ?_;exact rt4 hl2 ⟨rfl, trivial⟩ ⟨_, yw hnp hkb hnm (by unfold cardWt; omega) h1 h2 h3, congrArg (fun t => Value.string (bs t)) (by rw [hl, hau, hsh]; simp), rfl⟩
     by_cases hh0 : c.aheal = 0
     rotate_left
     ·have hau : auraT c = sSp ++ sAura ++ sSp ++ decP c.apow ++ sSlash ++ decP c.aheal ++ [59, 10] := by unfold auraT; rw [if_neg (fun h => hh0 h.2)]
      refine tr 2 ?_;refine cfo 6 ?_;refine zE ?_;refine zD ?_;refine qt 5 ?_;refine Lo 0 sg3 rfl hc6 ?_;refine cfo 2 ?_;refine Lo 0 sg3 rfl hc7 ?_;refine cta 4 ?_;refine Db (sq [0, 1, 5, 6, 102, 3, 4, 107, 8, 9, 110] .done) ?_;refine vB 1 ?_;refine Vr 1 rfl (zG sg3 rfl hc6) ?_;refine Vr 0 rfl (zG sg3 rfl hc7) ?_
      refine zA rfl (zU cl43 rfl (fun m' hm he => (yG (hT.mono hm) (by omega) (by omega))) rfl ?_) rfl;rintro _ rfl;rw [zy s5.1 s5.2];have hd_apow := ze c.apow;refine Vs 0 rfl ?_;refine Vs 0 rfl ?_;refine zA rfl (zU cl43 rfl (fun m' hm he => (yG (hT.mono hm) (by omega) (by omega))) rfl ?_) rfl;rintro _ rfl;rw [zy s6.1 s6.2]
      have hd_aheal := ze c.aheal;refine Vs 0 rfl ?_;refine Vs 0 rfl ?_;refine zA rfl ((zF cl36 rfl (.cons .here .k0) (fun m' hm he => Write36 (s := [32, 97, 117, 114, 97, 32] ++ decP c.apow ++ [47] ++ decP c.aheal ++ [59, 10]) (.inr rfl) hB3 (by simp only [List.length_append, List.length_cons, List.length_nil]; omega)) rfl ?_)) rfl;rintro _ _ ⟨A5, c5, hB5, rfl, rfl⟩
      by_cases hs0 : c.shield = 0
      ·have hsh : shldT c = [] := by unfold shldT; rw [if_pos hs0]
       refine Vn 5 ?_;refine Lo 0 sg3 rfl hc5 ?_;refine cfo 7 ?_;refine zC ((zF cl38 rfl (.cons .here .k0) (fun m' hm he => String38 hB5 (by first | omega | (simp only [List.length_append, List.length_cons, List.length_nil]; omega))) rfl ?_)) rfl;rintro _ _ ⟨rfl, rfl⟩;refine Ps 4 ?_
       exact rt4 hl2 ⟨rfl, trivial⟩ ⟨_, yw hnp hkb hnm (by unfold cardWt; omega) h1 h2 h3, congrArg (fun t => Value.string (bs t)) (by rw [hl, hau, hsh]; simp), rfl⟩
      ·have hsh : shldT c = sSp ++ sShield ++ sSp ++ decP c.shield ++ [59, 10] := by unfold shldT; rw [if_neg hs0]
       refine Vn 5 ?_;refine Lo 0 sg3 rfl hc5 ?_;refine cta 5 ?_;refine Lo 0 sg3 rfl hc5 ?_;refine Cr cl43 rfl (fun m' hm he => (yG (hT.mono hm) (by omega) (by omega))) ?_;rintro _ rfl;rw [zy s4.1 s4.2];have hd_shield := ze c.shield;refine Ps 0 ?_;refine Ps 0 ?_
       refine zC ((zF cl36 rfl (.cons .here .k0) (fun m' hm he => Write36 (s := [32, 115, 104, 105, 101, 108, 100, 32] ++ decP c.shield ++ [59, 10]) (.inr rfl) hB5 (by simp only [List.length_append, List.length_cons, List.length_nil]; omega)) rfl ?_)) rfl;rintro _ _ ⟨A6, c6, hB6, rfl, rfl⟩;refine vr 4 ?_
       refine zC ((zF cl38 rfl (.cons .here .k0) (fun m' hm he => String38 hB6 (by first | omega | (simp only [List.length_append, List.length_cons, List.length_nil]; omega))) rfl ?_)) rfl;rintro _ _ ⟨rfl, rfl⟩;refine Ps 4 ?_;exact rt4 hl2 ⟨rfl, trivial⟩ ⟨_, yw hnp hkb hnm (by unfold cardWt; omega) h1 h2 h3, congrArg (fun t => Value.string (bs t)) (by rw [hl, hau, hsh]; simp), rfl⟩
     have hau : auraT c = [] := by unfold auraT; rw [if_pos ⟨ha0, hh0⟩]
     by_cases hs0 : c.shield = 0
     ·have hsh : shldT c = [] := by unfold shldT; rw [if_pos hs0]
      refine tr 2 ?_;refine cfo 6 ?_;refine zE ?_;refine zD ?_;refine qt 5 ?_;refine Lo 0 sg3 rfl hc6 ?_;refine cfo 2 ?_;refine Lo 0 sg3 rfl hc7 ?_;refine cfo 10 ?_;refine Lo 0 sg3 rfl hc5 ?_;refine cfo 7 ?_
      refine zC ((zF cl38 rfl (.cons .here .k0) (fun m' hm he => String38 hB3 (by first | omega | (simp only [List.length_append, List.length_cons, List.length_nil]; omega))) rfl ?_)) rfl;rintro _ _ ⟨rfl, rfl⟩;refine Ps 4 ?_;exact rt4 hl2 ⟨rfl, trivial⟩ ⟨_, yw hnp hkb hnm (by unfold cardWt; omega) h1 h2 h3, congrArg (fun t => Value.string (bs t)) (by rw [hl, hau, hsh]; simp), rfl⟩
     ·have hsh : shldT c = sSp ++ sShield ++ sSp ++ decP c.shield ++ [59, 10] := by unfold shldT; rw [if_neg hs0]
      refine tr 2 ?_;refine cfo 6 ?_;refine zE ?_;refine zD ?_;refine qt 5 ?_;refine Lo 0 sg3 rfl hc6 ?_;refine cfo 2 ?_;refine Lo 0 sg3 rfl hc7 ?_;refine cfo 10 ?_;refine Lo 0 sg3 rfl hc5 ?_;refine cta 5 ?_;refine Lo 0 sg3 rfl hc5 ?_;refine Cr cl43 rfl (fun m' hm he => (yG (hT.mono hm) (by omega) (by omega))) ?_;rintro _ rfl;rw [zy s4.1 s4.2]
      have hd_shield := ze c.shield;refine Ps 0 ?_;refine Ps 0 ?_;refine zC ((zF cl36 rfl (.cons .here .k0) (fun m' hm he => Write36 (s := [32, 115, 104, 105, 101, 108, 100, 32] ++ decP c.shield ++ [59, 10]) (.inr rfl) hB3 (by simp only [List.length_append, List.length_cons, List.length_nil]; omega)) rfl ?_)) rfl;rintro _ _ ⟨A6, c6, hB6, rfl, rfl⟩;refine vr 4 ?_
      refine zC ((zF cl38 rfl (.cons .here .k0) (fun m' hm he => String38 hB6 (by first | omega | (simp only [List.length_append, List.length_cons, List.length_nil]; omega))) rfl ?_)) rfl;rintro _ _ ⟨rfl, rfl⟩;refine Ps 4 ?_;exact rt4 hl2 ⟨rfl, trivial⟩ ⟨_, yw hnp hkb hnm (by unfold cardWt; omega) h1 h2 h3, congrArg (fun t => Value.string (bs t)) (by rw [hl, hau, hsh]; simp), rfl⟩
 | false =>
   rw [hun] at hc1;by_cases hpw : c.power = 0
   rotate_left
   ·refine tr 8 ?_;refine Lo 0 sg9 rfl hc0 ?_;refine Cr cl41 rfl (fun m' hm he => (xf (hU.mono hm) hnl)) ?_;rintro _ rfl;rw [hnp];refine vr 2 ?_;refine Lo 2 sg4 rfl hc1 ?_;refine Lo 0 sg3 rfl hc3 ?_;refine cfa 7 ?_;refine Mf fun _ => ?_
    exact pn ⟨zw (fun h => by have h2 := h.2.1; unfold kindB at h2; rw [hun, Bool.false_or, Bool.and_eq_true, decide_eq_true_eq, decide_eq_true_eq] at h2; omega), rfl⟩
   by_cases hhl : c.health = 0
   rotate_left
   ·refine tr 8 ?_;refine Lo 0 sg9 rfl hc0 ?_;refine Cr cl41 rfl (fun m' hm he => (xf (hU.mono hm) hnl)) ?_;rintro _ rfl;rw [hnp];refine vr 2 ?_;refine Lo 2 sg4 rfl hc1 ?_;refine Lo 0 sg3 rfl hc3 ?_;refine cta 2 ?_;refine Lo 0 sg3 rfl hc4 ?_;refine cfa 3 ?_;refine Mf fun _ => ?_
    exact pn ⟨zw (fun h => by have h2 := h.2.1; unfold kindB at h2; rw [hun, Bool.false_or, Bool.and_eq_true, decide_eq_true_eq, decide_eq_true_eq] at h2; omega), rfl⟩
   have hkb : kindB c = true := by unfold kindB; rw [hun, decide_eq_true hpw, decide_eq_true hhl]; rfl
   refine tr 8 ?_;refine Lo 0 sg9 rfl hc0 ?_;refine Cr cl41 rfl (fun m' hm he => (xf (hU.mono hm) hnl)) ?_;rintro _ rfl;rw [hnp];refine vr 2 ?_;refine Lo 2 sg4 rfl hc1 ?_;refine Lo 0 sg3 rfl hc3 ?_;refine cta 2 ?_;refine Lo 0 sg3 rfl hc4 ?_;refine cta 3 ?_;refine Mt 5 ?_;refine Lo 1 sg3 rfl hc2 ?_;refine Lo 1 sg3 rfl hc3 ?_;refine Lo 1 sg3 rfl hc4 ?_;refine Lo 1 sg3 rfl hc5 ?_
   refine Lo 1 sg3 rfl hc6 ?_;refine Lo 0 sg3 rfl hc7 ?_;refine Bs 0 sl121 fun b1 => ?_;refine Cp cl42 rfl .nil (fun m' hm he => numbers42 (l := numsL c) (Rd.blk (he _ (.head _))) (by show 6 ≤ 100; decide)) ?_ ?_
   ·rintro _ _ ⟨h1, rfl⟩;exact pn ⟨zw (fun h => h1 (ug.2 h.2.2.1)), rfl⟩
   rintro _ _ ⟨h1, rfl, rfl⟩;have hnm := ug.1 h1;have hsm := Yf hnm;obtain ⟨s1, s2, s3, s4, s5, s6⟩ := hsm;have s1 := yL s1;have s2 := yL s2;have s3 := yL s3;have s4 := yL s4;have s5 := yL s5;have s6 := yL s6;refine vr 4 ?_;refine Al 3 zl76 fun b2 => ?_;refine xC 5 1 ?_;refine tr 2 ?_;refine Lo 0 sg9 rfl hc0 ?_;refine Ps 0 ?_
   refine zC ((zF cl36 rfl (.cons .h1 .k0) (fun m' hm he => Write36 (s := [99, 97, 114, 100, 32] ++ c.name) (.inl rfl) Buf.nil (by simp only [List.length_append, List.length_cons, List.length_nil]; omega)) rfl ?_)) rfl;rintro _ _ ⟨A1, c1, hB1, rfl, rfl⟩;refine vr 6 ?_;refine Lo 5 sg4 rfl hc1 ?_;refine Lo 0 sg3 rfl hc2 ?_
   refine Cr cl43 rfl (fun m' hm he => (yG (hT.mono hm) (by omega) (by omega))) ?_;rintro _ rfl;rw [zy s1.1 s1.2];have hd_cost := ze c.cost;refine Ps 0 ?_;refine Ps 0 ?_
   refine zC ((zF cl36 rfl (.cons .here .k0) (fun m' hm he => Write36 (s := [32, 99, 104, 97, 114, 109, 32] ++ decP c.cost ++ [32, 123, 10]) (.inr rfl) hB1 (by simp only [List.length_append, List.length_cons, List.length_nil]; omega)) rfl ?_)) rfl;rintro _ _ ⟨A2, c2, hB2, rfl, rfl⟩;refine vr 4 ?_;refine pe 0 (zV zl91 pl91 rfl rfl) ?_;refine Bx 7 rfl fun b3 => ?_
   refine Lo 1 sg38 rfl hc8 ?_;refine Lo 1 sg38 rfl hc9 ?_;refine Lo 0 sg38 rfl hc10 ?_;refine Bs 5 sl92 fun b4 => ?_;refine zI .here (fun ns hi _ hd => ?_);have hR4 : Rd (uni m ns) (some ⟨b4, 0, none⟩) [.slice q.A c.played.length q.ca, .slice q.B c.dead.length q.cb, .slice q.D c.dawn.length q.cd] := (Rd.blk hi).mono (zP hd);have hl2 : Le m (uni m ns) := zN _ _;clear hi hd
   generalize uni m ns = m9 at hR4 hl2;have hT := hT.mono hl2;have hU := hU.mono hl2;have hc0 := zq hl2 hc0;have hc1 := zq hl2 hc1;have hc2 := zq hl2 hc2;have hc3 := zq hl2 hc3;have hc4 := zq hl2 hc4;have hc5 := zq hl2 hc5;have hc6 := zq hl2 hc6;have hc7 := zq hl2 hc7;have hc8 := zq hl2 hc8;have hc9 := zq hl2 hc9;have hc10 := zq hl2 hc10
   have hb1 : BlkOk m9 b3 q.A c.played.length q.ca c.played := blk44 c.played hs.p m9 hT hU b3 q.A q.ca (hpl.mono hl2) hs.lp;have hb2 : BlkOk m9 b3 q.B c.dead.length q.cb c.dead := blk44 c.dead hs.d m9 hT hU b3 q.B q.cb (hde.mono hl2) hs.ld;have hb3 : BlkOk m9 b3 q.D c.dawn.length q.cd c.dawn := blk44 c.dawn hs.w m9 hT hU b3 q.D q.cd (hda.mono hl2) hs.lw
   have hq0 : mc m9 ⟨b4, 0, none⟩ = some (.slice q.A c.played.length q.ca) := hR4.at_ (i := 0) rfl;have hq1 : mc m9 ⟨b4, 1, none⟩ = some (.slice q.B c.dead.length q.cb) := hR4.at_ (i := 1) rfl;have hq2 : mc m9 ⟨b4, 2, none⟩ = some (.slice q.D c.dawn.length q.cd) := hR4.at_ (i := 2) rfl;have hlp : c.played.length ≤ 9223372036854775807 := Nat.le_trans hs.lp (by decide)
   have hld : c.dead.length ≤ 9223372036854775807 := Nat.le_trans hs.ld (by decide);have hlw : c.dawn.length ≤ 9223372036854775807 := Nat.le_trans hs.lw (by decide)
   refine zu (α := CaS) (fun y => [(0, ptr B), (2, ptr b2), (3, ptr b3), (74, .slice (some ⟨b4, 0, none⟩) 3 3), (75, .int .i64 (3 : Nat)), (76, .int .i64 (y.i : Nat))]) (fun y => buL b2 (ptr b2) y.A y.c y.l ++ [pr b3 y.p 0])
    (fun y => CaI (sCard ++ sSp ++ c.name ++ headT c) c y.i y.l y.p ∧ Buf y.A y.l ∧ y.p ≤ 200) (fun y => 3 - y.i) ⟨0, 0, A2, c2, _⟩ ⟨rfl, rfl, rfl, rfl, rfl, rfl, trivial⟩ (.cons .h1 (.cons .h1 .p0)) ⟨.z (by unfold headT; simp [hun]), hB2, Nat.zero_le _⟩ ?_
   have hHl : (sCard ++ sSp ++ c.name ++ headT c).length ≤ 100 := by
    have h1 := yF hnp;have h2 := vC c;simp only [List.length_append, List.length_cons, List.length_nil];omega
   rintro ⟨i, p, A3, c3, l⟩ ⟨hI, hB3, hp⟩;dsimp only at hI hB3 hp;dsimp only;have hlen := hI.len;cases hI with
   | z hl =>
     by_cases hlen0 : 0 < c.played.length
     rotate_left
     ·obtain ⟨e1, e2⟩ := wh (w := sPlayed) hlen0;refine tr 2 ?_;refine cto 11 ?_;refine pe 0 (zH ez92 rfl rfl (hR4.isSome (by simp <;> omega)) (by omega)) ?_;refine Lo 8 sg38 rfl hq0 ?_;refine cfo 7 ?_;refine Pa 2 ?_;exact QR (⟨1, _, A3, c3, l⟩ : CaS) (Pick.refl _) ⟨.a (s := []) (by exact e1) (by rw [hl]; simp) (by dsimp only; omega), hB3, hp⟩ (by dsimp only; omega)
     skip;refine tr 2 ?_;refine cto 11 ?_;refine pe 0 (zH ez92 rfl rfl (hR4.isSome (by simp <;> omega)) (by omega)) ?_;refine Lo 8 sg38 rfl hq0 ?_;refine cto 3 ?_;refine Db (sq [1, 6, 7] (.fork (sq [100, 2] (.fork (sq [103, 4, 5, 108, 9, 10, 111] .done) (sq [108, 103, 4, 5, 9, 10, 111] .done))) (sq [108, 100, 2, 103, 4, 5, 9, 10, 111] .done))) ?_;refine vB 3 ?_;refine zt ?_ ?_
     refine zA rfl (zR sl61 rfl rfl rfl rfl (fun b5 => ?_)) rfl;refine Vb 0 rfl (zH ez61 rfl rfl (hR4.isSome (by simp <;> omega)) (by omega)) ?_;refine zt ?_ ?_
     ·refine Ve 0 rfl ((zf (b := b5) (i := 0) (l := [.string (bs [112, 108, 97, 121, 101, 100]), .string (bs [100, 101, 97, 100]), .string (bs [100, 97, 119, 110])]) sg9 rfl .here rfl)) ?_;refine Vs 0 rfl ?_;refine Vs 0 rfl ?_;refine zA rfl ((zW cl44 rfl .k3 (fun m' hm he => hb1 m' hm _ 0 hp (by decide)) rfl ?_ ?_)) rfl
      ·rintro _ _ ⟨g1, rfl⟩;refine zX ?_;refine zK ?_;exact pW hl2 ⟨g1.elim (fun g => yK (Or.inl (yI hlen0 g))) (fun g => zw (fun h => by have hw := h.2.2.2; unfold cardWt at hw; omega)), rfl⟩
      rintro _ _ ⟨s, g1, g2, rfl, rfl⟩;have gl := z1 g1;refine Vs 0 rfl ?_;refine Vs 0 rfl ?_;refine zA rfl ((zF cl36 rfl (.cons .h2 .k2) (fun m' hm he => Write36 (s := [32] ++ [112, 108, 97, 121, 101, 100] ++ [32, 123] ++ s ++ [32, 125, 10]) (.inr rfl) hB3 (by simp only [List.length_append, List.length_cons, List.length_nil]; omega)) rfl ?_)) rfl
      rintro _ _ ⟨A4, c4, hB4, rfl, rfl⟩;refine Vn 3 ?_;refine Pa 2 ?_;exact QR (⟨1, _, A4, c4, _⟩ : CaS) (.cons .here .pp) ⟨.a (s := _) (by exact yJ hlen0 g1) (by rw [hl]) (by dsimp only; omega), hB4, g2⟩ (by dsimp only; omega)
     ·skip;refine zA rfl ((zW cl44 rfl .k3 (fun m' hm he => hb1 m' hm _ 0 hp (by decide)) rfl ?_ ?_)) rfl
      ·rintro _ _ ⟨g1, rfl⟩;refine zX ?_;refine zK ?_;exact pW hl2 ⟨g1.elim (fun g => yK (Or.inl (yI hlen0 g))) (fun g => zw (fun h => by have hw := h.2.2.2; unfold cardWt at hw; omega)), rfl⟩
      rintro _ _ ⟨s, g1, g2, rfl, rfl⟩;have gl := z1 g1;skip;refine Ve 0 rfl ((zf (b := b5) (i := 0) (l := [.string (bs [112, 108, 97, 121, 101, 100]), .string (bs [100, 101, 97, 100]), .string (bs [100, 97, 119, 110])]) sg9 rfl .h1 rfl)) ?_
      iterate 4 (refine Vs 0 rfl ?_)
      refine zA rfl ((zF cl36 rfl (.cons .h2 .k2) (fun m' hm he => Write36 (s := [32] ++ [112, 108, 97, 121, 101, 100] ++ [32, 123] ++ s ++ [32, 125, 10]) (.inr rfl) hB3 (by simp only [List.length_append, List.length_cons, List.length_nil]; omega)) rfl ?_)) rfl;rintro _ _ ⟨A4, c4, hB4, rfl, rfl⟩;refine Vn 3 ?_;refine Pa 2 ?_
      exact QR (⟨1, _, A4, c4, _⟩ : CaS) (.cons .here .pp) ⟨.a (s := _) (by exact yJ hlen0 g1) (by rw [hl]) (by dsimp only; omega), hB4, g2⟩ (by dsimp only; omega)
     ·refine zA rfl ((zW cl44 rfl .k2 (fun m' hm he => hb1 m' hm _ 0 hp (by decide)) rfl ?_ ?_)) rfl
      ·rintro _ _ ⟨g1, rfl⟩;refine zX ?_;refine zK ?_;exact pW hl2 ⟨g1.elim (fun g => yK (Or.inl (yI hlen0 g))) (fun g => zw (fun h => by have hw := h.2.2.2; unfold cardWt at hw; omega)), rfl⟩
      rintro _ _ ⟨s, g1, g2, rfl, rfl⟩;have gl := z1 g1;refine zA rfl (zR sl61 rfl rfl rfl rfl (fun b5 => ?_)) rfl;refine Vb 0 rfl (zH ez61 rfl rfl (hR4.isSome (by simp <;> omega)) (by omega)) ?_
      refine Ve 0 rfl ((zf (b := b5) (i := 0) (l := [.string (bs [112, 108, 97, 121, 101, 100]), .string (bs [100, 101, 97, 100]), .string (bs [100, 97, 119, 110])]) sg9 rfl .here rfl)) ?_
      iterate 4 (refine Vs 0 rfl ?_)
      refine zA rfl ((zF cl36 rfl (.cons .h2 .k2) (fun m' hm he => Write36 (s := [32] ++ [112, 108, 97, 121, 101, 100] ++ [32, 123] ++ s ++ [32, 125, 10]) (.inr rfl) hB3 (by simp only [List.length_append, List.length_cons, List.length_nil]; omega)) rfl ?_)) rfl;rintro _ _ ⟨A4, c4, hB4, rfl, rfl⟩;refine Vn 3 ?_;refine Pa 2 ?_
      exact QR (⟨1, _, A4, c4, _⟩ : CaS) (.cons .here (.cons .here .p1)) ⟨.a (s := _) (by exact yJ hlen0 g1) (by rw [hl]) (by dsimp only; omega), hB4, g2⟩ (by dsimp only; omega)
   | a h1 hl hpe =>
     by_cases hlen0 : 0 < c.dead.length
     rotate_left
     ·obtain ⟨e1, e2⟩ := wh (w := sDead) hlen0;refine tr 2 ?_;refine cto 11 ?_;refine pe 0 (zH ez92 rfl rfl (hR4.isSome (by simp <;> omega)) (by omega)) ?_;refine Lo 8 sg38 rfl hq1 ?_;refine cfo 7 ?_;refine Pa 2 ?_;exact QR (⟨2, _, A3, c3, l⟩ : CaS) (Pick.refl _) ⟨.b (t := []) h1 (by exact e1) (by rw [hl]; simp) (by dsimp only; omega), hB3, hp⟩ (by dsimp only; omega)
     skip;refine tr 2 ?_;refine cto 11 ?_;refine pe 0 (zH ez92 rfl rfl (hR4.isSome (by simp <;> omega)) (by omega)) ?_;refine Lo 8 sg38 rfl hq1 ?_;refine cto 3 ?_;refine Db (sq [1, 6, 7] (.fork (sq [100, 2] (.fork (sq [103, 4, 5, 108, 9, 10, 111] .done) (sq [108, 103, 4, 5, 9, 10, 111] .done))) (sq [108, 100, 2, 103, 4, 5, 9, 10, 111] .done))) ?_;refine vB 3 ?_;refine zt ?_ ?_
     refine zA rfl (zR sl61 rfl rfl rfl rfl (fun b5 => ?_)) rfl;refine Vb 0 rfl (zH ez61 rfl rfl (hR4.isSome (by simp <;> omega)) (by omega)) ?_;refine zt ?_ ?_
     ·refine Ve 0 rfl ((zf (b := b5) (i := 1) (l := [.string (bs [112, 108, 97, 121, 101, 100]), .string (bs [100, 101, 97, 100]), .string (bs [100, 97, 119, 110])]) sg9 rfl .here rfl)) ?_;refine Vs 0 rfl ?_;refine Vs 0 rfl ?_;refine zA rfl ((zW cl44 rfl .k3 (fun m' hm he => hb2 m' hm _ 0 hp (by decide)) rfl ?_ ?_)) rfl
      ·rintro _ _ ⟨g1, rfl⟩;refine zX ?_;refine zK ?_;exact pW hl2 ⟨g1.elim (fun g => yK (Or.inr <| Or.inl (yI hlen0 g))) (fun g => zw (fun h => by have hw := h.2.2.2; unfold cardWt at hw; omega)), rfl⟩
      rintro _ _ ⟨s, g1, g2, rfl, rfl⟩;have gl := z1 g1;refine Vs 0 rfl ?_;refine Vs 0 rfl ?_;refine zA rfl ((zF cl36 rfl (.cons .h2 .k2) (fun m' hm he => Write36 (s := [32] ++ [100, 101, 97, 100] ++ [32, 123] ++ s ++ [32, 125, 10]) (.inr rfl) hB3 (by simp only [List.length_append, List.length_cons, List.length_nil]; omega)) rfl ?_)) rfl;rintro _ _ ⟨A4, c4, hB4, rfl, rfl⟩
      refine Vn 3 ?_;refine Pa 2 ?_;exact QR (⟨2, _, A4, c4, _⟩ : CaS) (.cons .here .pp) ⟨.b (t := _) h1 (by exact yJ hlen0 g1) (by rw [hl]) (by dsimp only; omega), hB4, g2⟩ (by dsimp only; omega)
     ·skip;refine zA rfl ((zW cl44 rfl .k3 (fun m' hm he => hb2 m' hm _ 0 hp (by decide)) rfl ?_ ?_)) rfl
      ·rintro _ _ ⟨g1, rfl⟩;refine zX ?_;refine zK ?_;exact pW hl2 ⟨g1.elim (fun g => yK (Or.inr <| Or.inl (yI hlen0 g))) (fun g => zw (fun h => by have hw := h.2.2.2; unfold cardWt at hw; omega)), rfl⟩
      rintro _ _ ⟨s, g1, g2, rfl, rfl⟩;have gl := z1 g1;skip;refine Ve 0 rfl ((zf (b := b5) (i := 1) (l := [.string (bs [112, 108, 97, 121, 101, 100]), .string (bs [100, 101, 97, 100]), .string (bs [100, 97, 119, 110])]) sg9 rfl .h1 rfl)) ?_
      iterate 4 (refine Vs 0 rfl ?_)
      refine zA rfl ((zF cl36 rfl (.cons .h2 .k2) (fun m' hm he => Write36 (s := [32] ++ [100, 101, 97, 100] ++ [32, 123] ++ s ++ [32, 125, 10]) (.inr rfl) hB3 (by simp only [List.length_append, List.length_cons, List.length_nil]; omega)) rfl ?_)) rfl;rintro _ _ ⟨A4, c4, hB4, rfl, rfl⟩;refine Vn 3 ?_;refine Pa 2 ?_
      exact QR (⟨2, _, A4, c4, _⟩ : CaS) (.cons .here .pp) ⟨.b (t := _) h1 (by exact yJ hlen0 g1) (by rw [hl]) (by dsimp only; omega), hB4, g2⟩ (by dsimp only; omega)
     ·refine zA rfl ((zW cl44 rfl .k2 (fun m' hm he => hb2 m' hm _ 0 hp (by decide)) rfl ?_ ?_)) rfl
      ·rintro _ _ ⟨g1, rfl⟩;refine zX ?_;refine zK ?_;exact pW hl2 ⟨g1.elim (fun g => yK (Or.inr <| Or.inl (yI hlen0 g))) (fun g => zw (fun h => by have hw := h.2.2.2; unfold cardWt at hw; omega)), rfl⟩
      rintro _ _ ⟨s, g1, g2, rfl, rfl⟩;have gl := z1 g1;refine zA rfl (zR sl61 rfl rfl rfl rfl (fun b5 => ?_)) rfl;refine Vb 0 rfl (zH ez61 rfl rfl (hR4.isSome (by simp <;> omega)) (by omega)) ?_
      refine Ve 0 rfl ((zf (b := b5) (i := 1) (l := [.string (bs [112, 108, 97, 121, 101, 100]), .string (bs [100, 101, 97, 100]), .string (bs [100, 97, 119, 110])]) sg9 rfl .here rfl)) ?_
      iterate 4 (refine Vs 0 rfl ?_)
      refine zA rfl ((zF cl36 rfl (.cons .h2 .k2) (fun m' hm he => Write36 (s := [32] ++ [100, 101, 97, 100] ++ [32, 123] ++ s ++ [32, 125, 10]) (.inr rfl) hB3 (by simp only [List.length_append, List.length_cons, List.length_nil]; omega)) rfl ?_)) rfl;rintro _ _ ⟨A4, c4, hB4, rfl, rfl⟩;refine Vn 3 ?_;refine Pa 2 ?_
      exact QR (⟨2, _, A4, c4, _⟩ : CaS) (.cons .here (.cons .here .p1)) ⟨.b (t := _) h1 (by exact yJ hlen0 g1) (by rw [hl]) (by dsimp only; omega), hB4, g2⟩ (by dsimp only; omega)
   | b h1 h2 hl hpe =>
     by_cases hlen0 : 0 < c.dawn.length
     rotate_left
     ·obtain ⟨e1, e2⟩ := wh (w := sDawn) hlen0;refine tr 2 ?_;refine cto 11 ?_;refine pe 0 (zH ez92 rfl rfl (hR4.isSome (by simp <;> omega)) (by omega)) ?_;refine Lo 8 sg38 rfl hq2 ?_;refine cfo 7 ?_;refine Pa 2 ?_;exact QR (⟨3, _, A3, c3, l⟩ : CaS) (Pick.refl _) ⟨.e (u := []) h1 h2 (by exact e1) (by rw [hl]; simp) (by dsimp only; omega), hB3, hp⟩ (by dsimp only; omega)
     skip;refine tr 2 ?_;refine cto 11 ?_;refine pe 0 (zH ez92 rfl rfl (hR4.isSome (by simp <;> omega)) (by omega)) ?_;refine Lo 8 sg38 rfl hq2 ?_;refine cto 3 ?_;refine Db (sq [1, 6, 7] (.fork (sq [100, 2] (.fork (sq [103, 4, 5, 108, 9, 10, 111] .done) (sq [108, 103, 4, 5, 9, 10, 111] .done))) (sq [108, 100, 2, 103, 4, 5, 9, 10, 111] .done))) ?_;refine vB 3 ?_;refine zt ?_ ?_
     refine zA rfl (zR sl61 rfl rfl rfl rfl (fun b5 => ?_)) rfl;refine Vb 0 rfl (zH ez61 rfl rfl (hR4.isSome (by simp <;> omega)) (by omega)) ?_;refine zt ?_ ?_
     ·refine Ve 0 rfl ((zf (b := b5) (i := 2) (l := [.string (bs [112, 108, 97, 121, 101, 100]), .string (bs [100, 101, 97, 100]), .string (bs [100, 97, 119, 110])]) sg9 rfl .here rfl)) ?_;refine Vs 0 rfl ?_;refine Vs 0 rfl ?_;refine zA rfl ((zW cl44 rfl .k3 (fun m' hm he => hb3 m' hm _ 0 hp (by decide)) rfl ?_ ?_)) rfl
      ·rintro _ _ ⟨g1, rfl⟩;refine zX ?_;refine zK ?_;exact pW hl2 ⟨g1.elim (fun g => yK (Or.inr <| Or.inr (yI hlen0 g))) (fun g => zw (fun h => by have hw := h.2.2.2; unfold cardWt at hw; omega)), rfl⟩
      rintro _ _ ⟨s, g1, g2, rfl, rfl⟩;have gl := z1 g1;refine Vs 0 rfl ?_;refine Vs 0 rfl ?_;refine zA rfl ((zF cl36 rfl (.cons .h2 .k2) (fun m' hm he => Write36 (s := [32] ++ [100, 97, 119, 110] ++ [32, 123] ++ s ++ [32, 125, 10]) (.inr rfl) hB3 (by simp only [List.length_append, List.length_cons, List.length_nil]; omega)) rfl ?_)) rfl;rintro _ _ ⟨A4, c4, hB4, rfl, rfl⟩
      refine Vn 3 ?_;refine Pa 2 ?_;exact QR (⟨3, _, A4, c4, _⟩ : CaS) (.cons .here .pp) ⟨.e (u := _) h1 h2 (by exact yJ hlen0 g1) (by rw [hl]) (by dsimp only; omega), hB4, g2⟩ (by dsimp only; omega)
     ·skip;refine zA rfl ((zW cl44 rfl .k3 (fun m' hm he => hb3 m' hm _ 0 hp (by decide)) rfl ?_ ?_)) rfl
      ·rintro _ _ ⟨g1, rfl⟩;refine zX ?_;refine zK ?_;exact pW hl2 ⟨g1.elim (fun g => yK (Or.inr <| Or.inr (yI hlen0 g))) (fun g => zw (fun h => by have hw := h.2.2.2; unfold cardWt at hw; omega)), rfl⟩
      rintro _ _ ⟨s, g1, g2, rfl, rfl⟩;have gl := z1 g1;skip;refine Ve 0 rfl ((zf (b := b5) (i := 2) (l := [.string (bs [112, 108, 97, 121, 101, 100]), .string (bs [100, 101, 97, 100]), .string (bs [100, 97, 119, 110])]) sg9 rfl .h1 rfl)) ?_
      iterate 4 (refine Vs 0 rfl ?_)
      refine zA rfl ((zF cl36 rfl (.cons .h2 .k2) (fun m' hm he => Write36 (s := [32] ++ [100, 97, 119, 110] ++ [32, 123] ++ s ++ [32, 125, 10]) (.inr rfl) hB3 (by simp only [List.length_append, List.length_cons, List.length_nil]; omega)) rfl ?_)) rfl;rintro _ _ ⟨A4, c4, hB4, rfl, rfl⟩;refine Vn 3 ?_;refine Pa 2 ?_
      exact QR (⟨3, _, A4, c4, _⟩ : CaS) (.cons .here .pp) ⟨.e (u := _) h1 h2 (by exact yJ hlen0 g1) (by rw [hl]) (by dsimp only; omega), hB4, g2⟩ (by dsimp only; omega)
     ·refine zA rfl ((zW cl44 rfl .k2 (fun m' hm he => hb3 m' hm _ 0 hp (by decide)) rfl ?_ ?_)) rfl
      ·rintro _ _ ⟨g1, rfl⟩;refine zX ?_;refine zK ?_;exact pW hl2 ⟨g1.elim (fun g => yK (Or.inr <| Or.inr (yI hlen0 g))) (fun g => zw (fun h => by have hw := h.2.2.2; unfold cardWt at hw; omega)), rfl⟩
      rintro _ _ ⟨s, g1, g2, rfl, rfl⟩;have gl := z1 g1;refine zA rfl (zR sl61 rfl rfl rfl rfl (fun b5 => ?_)) rfl;refine Vb 0 rfl (zH ez61 rfl rfl (hR4.isSome (by simp <;> omega)) (by omega)) ?_
      refine Ve 0 rfl ((zf (b := b5) (i := 2) (l := [.string (bs [112, 108, 97, 121, 101, 100]), .string (bs [100, 101, 97, 100]), .string (bs [100, 97, 119, 110])]) sg9 rfl .here rfl)) ?_
      iterate 4 (refine Vs 0 rfl ?_)
      refine zA rfl ((zF cl36 rfl (.cons .h2 .k2) (fun m' hm he => Write36 (s := [32] ++ [100, 97, 119, 110] ++ [32, 123] ++ s ++ [32, 125, 10]) (.inr rfl) hB3 (by simp only [List.length_append, List.length_cons, List.length_nil]; omega)) rfl ?_)) rfl;rintro _ _ ⟨A4, c4, hB4, rfl, rfl⟩;refine Vn 3 ?_;refine Pa 2 ?_
      exact QR (⟨3, _, A4, c4, _⟩ : CaS) (.cons .here (.cons .here .p1)) ⟨.e (u := _) h1 h2 (by exact yJ hlen0 g1) (by rw [hl]) (by dsimp only; omega), hB4, g2⟩ (by dsimp only; omega)
   | e h1 h2 h3 hl hpe =>
     skip;by_cases ha0 : c.apow = 0
     rotate_left
     ·have hau : auraT c = sSp ++ sAura ++ sSp ++ decP c.apow ++ sSlash ++ decP c.aheal ++ [59, 10] := by unfold auraT; rw [if_neg (fun h => ha0 h.1)]
      refine tr 2 ?_;refine cfo 6 ?_;refine zE ?_;refine zD ?_;refine qt 5 ?_;refine Lo 0 sg3 rfl hc6 ?_;refine cta 8 ?_;refine Db (sq [0, 1, 5, 6, 102, 3, 4, 107, 8, 9, 110] .done) ?_;refine vB 1 ?_;refine Vr 1 rfl (zG sg3 rfl hc6) ?_;refine Vr 0 rfl (zG sg3 rfl hc7) ?_
      refine zA rfl (zU cl43 rfl (fun m' hm he => (yG (hT.mono hm) (by omega) (by omega))) rfl ?_) rfl;rintro _ rfl;rw [zy s5.1 s5.2];have hd_apow := ze c.apow;refine Vs 0 rfl ?_;refine Vs 0 rfl ?_;refine zA rfl (zU cl43 rfl (fun m' hm he => (yG (hT.mono hm) (by omega) (by omega))) rfl ?_) rfl;rintro _ rfl;rw [zy s6.1 s6.2]
      have hd_aheal := ze c.aheal;refine Vs 0 rfl ?_;refine Vs 0 rfl ?_;refine zA rfl ((zF cl36 rfl (.cons .here .k0) (fun m' hm he => Write36 (s := [32, 97, 117, 114, 97, 32] ++ decP c.apow ++ [47] ++ decP c.aheal ++ [59, 10]) (.inr rfl) hB3 (by simp only [List.length_append, List.length_cons, List.length_nil]; omega)) rfl ?_)) rfl;rintro _ _ ⟨A5, c5, hB5, rfl, rfl⟩
      by_cases hs0 : c.shield = 0
      ·have hsh : shldT c = [] := by unfold shldT; rw [if_pos hs0]
       refine Vn 5 ?_;refine Lo 0 sg3 rfl hc5 ?_;refine cfo 7 ?_;refine zC ((zF cl38 rfl (.cons .here .k0) (fun m' hm he => String38 hB5 (by first | omega | (simp only [List.length_append, List.length_cons, List.length_nil]; omega))) rfl ?_)) rfl;rintro _ _ ⟨rfl, rfl⟩;refine Ps 4 ?_
       exact rt4 hl2 ⟨rfl, trivial⟩ ⟨_, yw hnp hkb hnm (by unfold cardWt; omega) h1 h2 h3, congrArg (fun t => Value.string (bs t)) (by rw [hl, hau, hsh]; simp), rfl⟩
      ·have hsh : shldT c = sSp ++ sShield ++ sSp ++ decP c.shield ++ [59, 10] := by unfold shldT; rw [if_neg hs0]
       refine Vn 5 ?_;refine Lo 0 sg3 rfl hc5 ?_;refine cta 5 ?_;refine Lo 0 sg3 rfl hc5 ?_;refine Cr cl43 rfl (fun m' hm he => (yG (hT.mono hm) (by omega) (by omega))) ?_;rintro _ rfl;rw [zy s4.1 s4.2];have hd_shield := ze c.shield;refine Ps 0 ?_;refine Ps 0 ?_
       refine zC ((zF cl36 rfl (.cons .here .k0) (fun m' hm he => Write36 (s := [32, 115, 104, 105, 101, 108, 100, 32] ++ decP c.shield ++ [59, 10]) (.inr rfl) hB5 (by simp only [List.length_append, List.length_cons, List.length_nil]; omega)) rfl ?_)) rfl;rintro _ _ ⟨A6, c6, hB6, rfl, rfl⟩;refine vr 4 ?_
       refine zC ((zF cl38 rfl (.cons .here .k0) (fun m' hm he => String38 hB6 (by first | omega | (simp only [List.length_append, List.length_cons, List.length_nil]; omega))) rfl ?_)) rfl;rintro _ _ ⟨rfl, rfl⟩;refine Ps 4 ?_;exact rt4 hl2 ⟨rfl, trivial⟩ ⟨_, yw hnp hkb hnm (by unfold cardWt; omega) h1 h2 h3, congrArg (fun t => Value.string (bs t)) (by rw [hl, hau, hsh]; simp), rfl⟩
     by_cases hh0 : c.aheal = 0
     rotate_left
     ·have hau : auraT c = sSp ++ sAura ++ sSp ++ decP c.apow ++ sSlash ++ decP c.aheal ++ [59, 10] := by unfold auraT; rw [if_neg (fun h => hh0 h.2)]
      refine tr 2 ?_;refine cfo 6 ?_;refine zE ?_;refine zD ?_;refine qt 5 ?_;refine Lo 0 sg3 rfl hc6 ?_;refine cfo 2 ?_;refine Lo 0 sg3 rfl hc7 ?_;refine cta 4 ?_;refine Db (sq [0, 1, 5, 6, 102, 3, 4, 107, 8, 9, 110] .done) ?_;refine vB 1 ?_;refine Vr 1 rfl (zG sg3 rfl hc6) ?_;refine Vr 0 rfl (zG sg3 rfl hc7) ?_
      refine zA rfl (zU cl43 rfl (fun m' hm he => (yG (hT.mono hm) (by omega) (by omega))) rfl ?_) rfl;rintro _ rfl;rw [zy s5.1 s5.2];have hd_apow := ze c.apow;refine Vs 0 rfl ?_;refine Vs 0 rfl ?_;refine zA rfl (zU cl43 rfl (fun m' hm he => (yG (hT.mono hm) (by omega) (by omega))) rfl ?_) rfl;rintro _ rfl;rw [zy s6.1 s6.2]
      have hd_aheal := ze c.aheal;refine Vs 0 rfl ?_;refine Vs 0 rfl ?_;refine zA rfl ((zF cl36 rfl (.cons .here .k0) (fun m' hm he => Write36 (s := [32, 97, 117, 114, 97, 32] ++ decP c.apow ++ [47] ++ decP c.aheal ++ [59, 10]) (.inr rfl) hB3 (by simp only [List.length_append, List.length_cons, List.length_nil]; omega)) rfl ?_)) rfl;rintro _ _ ⟨A5, c5, hB5, rfl, rfl⟩
      by_cases hs0 : c.shield = 0
      ·have hsh : shldT c = [] := by unfold shldT; rw [if_pos hs0]
       refine Vn 5 ?_;refine Lo 0 sg3 rfl hc5 ?_;refine cfo 7 ?_;refine zC ((zF cl38 rfl (.cons .here .k0) (fun m' hm he => String38 hB5 (by first | omega | (simp only [List.length_append, List.length_cons, List.length_nil]; omega))) rfl ?_)) rfl;rintro _ _ ⟨rfl, rfl⟩;refine Ps 4 ?_
       exact rt4 hl2 ⟨rfl, trivial⟩ ⟨_, yw hnp hkb hnm (by unfold cardWt; omega) h1 h2 h3, congrArg (fun t => Value.string (bs t)) (by rw [hl, hau, hsh]; simp), rfl⟩
      ·have hsh : shldT c = sSp ++ sShield ++ sSp ++ decP c.shield ++ [59, 10] := by unfold shldT; rw [if_neg hs0]
       refine Vn 5 ?_;refine Lo 0 sg3 rfl hc5 ?_;refine cta 5 ?_;refine Lo 0 sg3 rfl hc5 ?_;refine Cr cl43 rfl (fun m' hm he => (yG (hT.mono hm) (by omega) (by omega))) ?_;rintro _ rfl;rw [zy s4.1 s4.2];have hd_shield := ze c.shield;refine Ps 0 ?_;refine Ps 0 ?_
       refine zC ((zF cl36 rfl (.cons .here .k0) (fun m' hm he => Write36 (s := [32, 115, 104, 105, 101, 108, 100, 32] ++ decP c.shield ++ [59, 10]) (.inr rfl) hB5 (by simp only [List.length_append, List.length_cons, List.length_nil]; omega)) rfl ?_)) rfl;rintro _ _ ⟨A6, c6, hB6, rfl, rfl⟩;refine vr 4 ?_
       refine zC ((zF cl38 rfl (.cons .here .k0) (fun m' hm he => String38 hB6 (by first | omega | (simp only [List.length_append, List.length_cons, List.length_nil]; omega))) rfl ?_)) rfl;rintro _ _ ⟨rfl, rfl⟩;refine Ps 4 ?_;exact rt4 hl2 ⟨rfl, trivial⟩ ⟨_, yw hnp hkb hnm (by unfold cardWt; omega) h1 h2 h3, congrArg (fun t => Value.string (bs t)) (by rw [hl, hau, hsh]; simp), rfl⟩
     have hau : auraT c = [] := by unfold auraT; rw [if_pos ⟨ha0, hh0⟩]
     by_cases hs0 : c.shield = 0
     ·have hsh : shldT c = [] := by unfold shldT; rw [if_pos hs0]
      refine tr 2 ?_;refine cfo 6 ?_;refine zE ?_;refine zD ?_;refine qt 5 ?_;refine Lo 0 sg3 rfl hc6 ?_;refine cfo 2 ?_;refine Lo 0 sg3 rfl hc7 ?_;refine cfo 10 ?_;refine Lo 0 sg3 rfl hc5 ?_;refine cfo 7 ?_
      refine zC ((zF cl38 rfl (.cons .here .k0) (fun m' hm he => String38 hB3 (by first | omega | (simp only [List.length_append, List.length_cons, List.length_nil]; omega))) rfl ?_)) rfl;rintro _ _ ⟨rfl, rfl⟩;refine Ps 4 ?_;exact rt4 hl2 ⟨rfl, trivial⟩ ⟨_, yw hnp hkb hnm (by unfold cardWt; omega) h1 h2 h3, congrArg (fun t => Value.string (bs t)) (by rw [hl, hau, hsh]; simp), rfl⟩
     ·have hsh : shldT c = sSp ++ sShield ++ sSp ++ decP c.shield ++ [59, 10] := by unfold shldT; rw [if_neg hs0]
      refine tr 2 ?_;refine cfo 6 ?_;refine zE ?_;refine zD ?_;refine qt 5 ?_;refine Lo 0 sg3 rfl hc6 ?_;refine cfo 2 ?_;refine Lo 0 sg3 rfl hc7 ?_;refine cfo 10 ?_;refine Lo 0 sg3 rfl hc5 ?_;refine cta 5 ?_;refine Lo 0 sg3 rfl hc5 ?_;refine Cr cl43 rfl (fun m' hm he => (yG (hT.mono hm) (by omega) (by omega))) ?_;rintro _ rfl;rw [zy s4.1 s4.2]
      have hd_shield := ze c.shield;refine Ps 0 ?_;refine Ps 0 ?_;refine zC ((zF cl36 rfl (.cons .here .k0) (fun m' hm he => Write36 (s := [32, 115, 104, 105, 101, 108, 100, 32] ++ decP c.shield ++ [59, 10]) (.inr rfl) hB3 (by simp only [List.length_append, List.length_cons, List.length_nil]; omega)) rfl ?_)) rfl;rintro _ _ ⟨A6, c6, hB6, rfl, rfl⟩;refine vr 4 ?_
      refine zC ((zF cl38 rfl (.cons .here .k0) (fun m' hm he => String38 hB6 (by first | omega | (simp only [List.length_append, List.length_cons, List.length_nil]; omega))) rfl ?_)) rfl;rintro _ _ ⟨rfl, rfl⟩;refine Ps 4 ?_;exact rt4 hl2 ⟨rfl, trivial⟩ ⟨_, yw hnp hkb hnm (by unfold cardWt; omega) h1 h2 h3, congrArg (fun t => Value.string (bs t)) (by rw [hl, hau, hsh]; simp), rfl⟩
end
section
open Wd Tp Kd
variable {m : Mp} {b c at_ d p : Nat} {A : Option Addr} {ws ts : List Wrd}
structure FmtC where
 A : Option Addr
 ca : Nat
 B : Option Addr
 cb : Nat
abbrev FmtC.v (q : FmtC) (x : FmtT) : List Value := [.string (bs x.name), .int .i64 x.least, .int .i64 x.most, .int .i64 x.copies, .slice q.A x.banned.length q.ca, .slice q.B x.single.length q.cb, .int .i64 x.at_]
structure FmtOk (x : FmtT) : Prop where
 name : x.name.length ≤ 65536
 ban : x.banned.length ≤ 65537
 bans : ∀ s ∈ x.banned, s.length ≤ 65536
 sin : x.single.length ≤ 65537
 sins : ∀ s ∈ x.single, s.length ≤ 65536
def FmtQ (m : Mp) (vs : List Value) (x : FmtT) : Prop := ∃ q : FmtC, vs = q.v x ∧ FmtOk x ∧ RdN m q.A q.ca x.banned ∧ RdN m q.B q.cb x.single
theorem FmtQ.mono {m m' : Mp} {vs : List Value} {x : FmtT} (h : FmtQ m vs x) (hl : Le m m') : FmtQ m' vs x := by
 obtain ⟨q, h1, h2, h3, h4⟩ := h;exact ⟨q, h1, h2, h3.mono hl, h4.mono hl⟩
def FmI (b4 : Nat) (_ : List (List UInt8)) (x : FmtT) (p : Nat) (e : Ent) : Prop := ∃ (q : FmtC) (o : Ent), e = pack [cel b4 (q.v x) 63, o] ∧ (∀ ns, o.inv ns → RdN ns q.A q.ca x.banned ∧ RdN ns q.B q.cb x.single) ∧ p = 0 ∧ FmtOk x
theorem FmI.pw {b4 : Nat} : ∀ (seen : List (List UInt8)) (x : FmtT) (p : Nat) (e : Ent), FmI b4 seen x p e → (200 < p ↔ 200 < (fun _ : FmtT => 0) x) := by
 rintro seen x p e ⟨q, o, -, -, rfl, -⟩;exact Iff.rfl
theorem mk66 {bF off bX : Nat} : CS Tryz.prog 66 [.pointer (some ⟨bF, off, none⟩), ptr bX] m [] (fun u L' => ∃ k, u = clo 67 [ptr bX, ptr k] ∧ L' = [cel k [.pointer (some ⟨bF, off, none⟩)] 109]) := by
 refine zn [.tmp 3] Tryz.func66 rfl rfl rfl ?_;refine tr 2 ?_;refine Bx 10 rfl fun b1 => ?_;exact zl [_] ⟨rfl, trivial⟩ _ .p0 ⟨b1, rfl, rfl⟩
theorem mk68 {bF off bX : Nat} : CS Tryz.prog 68 [.pointer (some ⟨bF, off, none⟩), ptr bX] m [] (fun u L' => ∃ k, u = clo 69 [ptr bX, ptr k] ∧ L' = [cel k [.pointer (some ⟨bF, off, none⟩)] 111]) := by
 refine zn [.tmp 3] Tryz.func68 rfl rfl rfl ?_;refine tr 2 ?_;refine Bx 10 rfl fun b1 => ?_;exact zl [_] ⟨rfl, trivial⟩ _ .p0 ⟨b1, rfl, rfl⟩
theorem WF {bX bK bF n : Nat} {seen : List (List UInt8)} (hbox : Wc m ⟨bX, 0, none⟩ (ptr b)) (hfld : Wc m ⟨bK, 0, none⟩ (.pointer (some ⟨bF, 1, none⟩))) (hw : WsR m A ws) : RuC m b A c ws 67 [ptr bX, ptr bK] (fmtRead n sLeast) (FmI bF seen) (FmI bF (seen ++ [sLeast])) n := by
 rintro m' hm x e at_ p ts ⟨q, o, rfl, hes, rfl, hok⟩ hp hb hn;generalize hF : fmtRead n sLeast x ts = F;unfold fmtRead at hF;rw [if_pos rfl] at hF;have hbx := hbox.mono hm;have hfx := hfld.mono hm;clear hbox hfld;refine zg [] Tryz.func67 rfl rfl rfl ?_;refine xB _ Pick.unpack2 ?_;skip;refine tr 1 ?_;refine Db (sq [0, 1, 102, 3, 104] .done) ?_;refine Vr 0 rfl (yM sg109 rfl hfx) ?_
 refine Vr 0 rfl (yM sg54 rfl hbx) ?_;refine zA rfl (zW cl57 rfl .k0 (fun m1 hm1 he => number57 (hw.mono (hm.trans hm1)) hp) rfl ?_ ?_) rfl
 ·rintro _ _ ⟨e', a', h1, rfl⟩;rw [h1] at hF;exact pn ⟨e', a', hF.symm, rfl⟩
 rintro _ _ ⟨v1, ts1, at1, _, h1, hp1, ⟨rfl, rfl⟩, rfl⟩;rw [h1] at hF;dsimp only [R.bind] at hF;have hl1 : 1 + ts1.length ≤ ts.length := (zz (ts := ts)).2 _ _ h1;clear h1;refine vB 1 ?_;refine zA rfl (yH co3 rfl rfl rfl .h1 .h1 ?_) rfl;refine Vn 2 ?_;refine lr 0 (yM sg54 rfl hbx) ?_;refine Bs 0 sl61 fun b1 => ?_
 refine Cp cl58 rfl .k1 (fun m1 hm1 he => must58 (s := sSemi) (hw.mono (hm.trans hm1)) (Rd.blk (he _ (.head _))) (asc _ rfl) (by decide) hp1) ?_ ?_
 ·rintro _ _ ⟨e', a', h1, rfl⟩;rw [h1] at hF;skip;exact pn ⟨e', a', hF.symm, rfl⟩
 rintro _ _ ⟨_, ts2, at2, _, h1, hp2, ⟨rfl, rfl⟩, rfl⟩;rw [h1] at hF;dsimp only [R.bind] at hF;have hl2 : 1 + ts2.length ≤ ts1.length := (zO (s := sSemi) (ts := ts1)).2 _ _ h1;clear h1;refine vr 1 ?_
 exact yS [] trivial _ (.cons .here (Pick.pack2 (a := cel bF (FmtC.v q { x with least := v1 }) 63) (b := o) (.cons .h1 .p1))) ⟨{ x with least := v1 }, ts2, at2, 0, _, hF.symm, hp2, by omega, by omega, ⟨q, o, rfl, hes, rfl, ⟨hok.name, hok.ban, hok.bans, hok.sin, hok.sins⟩⟩, rfl, rfl⟩
theorem WE {bX bK bF n : Nat} {seen : List (List UInt8)} (hbox : Wc m ⟨bX, 0, none⟩ (ptr b)) (hfld : Wc m ⟨bK, 0, none⟩ (.pointer (some ⟨bF, 2, none⟩))) (hw : WsR m A ws) : RuC m b A c ws 67 [ptr bX, ptr bK] (fmtRead n sMost) (FmI bF seen) (FmI bF (seen ++ [sMost])) n := by
 rintro m' hm x e at_ p ts ⟨q, o, rfl, hes, rfl, hok⟩ hp hb hn;generalize hF : fmtRead n sMost x ts = F;unfold fmtRead at hF;rw [if_neg (by decide), if_pos rfl] at hF;have hbx := hbox.mono hm;have hfx := hfld.mono hm;clear hbox hfld;refine zg [] Tryz.func67 rfl rfl rfl ?_;refine xB _ Pick.unpack2 ?_;skip;refine tr 1 ?_;refine Db (sq [0, 1, 102, 3, 104] .done) ?_
 refine Vr 0 rfl (yM sg109 rfl hfx) ?_;refine Vr 0 rfl (yM sg54 rfl hbx) ?_;refine zA rfl (zW cl57 rfl .k0 (fun m1 hm1 he => number57 (hw.mono (hm.trans hm1)) hp) rfl ?_ ?_) rfl
 ·rintro _ _ ⟨e', a', h1, rfl⟩;rw [h1] at hF;exact pn ⟨e', a', hF.symm, rfl⟩
 rintro _ _ ⟨v1, ts1, at1, _, h1, hp1, ⟨rfl, rfl⟩, rfl⟩;rw [h1] at hF;dsimp only [R.bind] at hF;have hl1 : 1 + ts1.length ≤ ts.length := (zz (ts := ts)).2 _ _ h1;clear h1;refine vB 1 ?_;refine zA rfl (yH co3 rfl rfl rfl .h1 .h2 ?_) rfl;refine Vn 2 ?_;refine lr 0 (yM sg54 rfl hbx) ?_;refine Bs 0 sl61 fun b1 => ?_
 refine Cp cl58 rfl .k1 (fun m1 hm1 he => must58 (s := sSemi) (hw.mono (hm.trans hm1)) (Rd.blk (he _ (.head _))) (asc _ rfl) (by decide) hp1) ?_ ?_
 ·rintro _ _ ⟨e', a', h1, rfl⟩;rw [h1] at hF;skip;exact pn ⟨e', a', hF.symm, rfl⟩
 rintro _ _ ⟨_, ts2, at2, _, h1, hp2, ⟨rfl, rfl⟩, rfl⟩;rw [h1] at hF;dsimp only [R.bind] at hF;have hl2 : 1 + ts2.length ≤ ts1.length := (zO (s := sSemi) (ts := ts1)).2 _ _ h1;clear h1;refine vr 1 ?_
 exact yS [] trivial _ (.cons .here (Pick.pack2 (a := cel bF (FmtC.v q { x with most := v1 }) 63) (b := o) (.cons .h1 .p1))) ⟨{ x with most := v1 }, ts2, at2, 0, _, hF.symm, hp2, by omega, by omega, ⟨q, o, rfl, hes, rfl, ⟨hok.name, hok.ban, hok.bans, hok.sin, hok.sins⟩⟩, rfl, rfl⟩
theorem WD {bX bK bF n : Nat} {seen : List (List UInt8)} (hbox : Wc m ⟨bX, 0, none⟩ (ptr b)) (hfld : Wc m ⟨bK, 0, none⟩ (.pointer (some ⟨bF, 3, none⟩))) (hw : WsR m A ws) : RuC m b A c ws 67 [ptr bX, ptr bK] (fmtRead n sCopies) (FmI bF seen) (FmI bF (seen ++ [sCopies])) n := by
 rintro m' hm x e at_ p ts ⟨q, o, rfl, hes, rfl, hok⟩ hp hb hn;generalize hF : fmtRead n sCopies x ts = F;unfold fmtRead at hF;rw [if_neg (by decide), if_neg (by decide), if_pos rfl] at hF;have hbx := hbox.mono hm;have hfx := hfld.mono hm;clear hbox hfld;refine zg [] Tryz.func67 rfl rfl rfl ?_;refine xB _ Pick.unpack2 ?_;skip;refine tr 1 ?_;refine Db (sq [0, 1, 102, 3, 104] .done) ?_
 refine Vr 0 rfl (yM sg109 rfl hfx) ?_;refine Vr 0 rfl (yM sg54 rfl hbx) ?_;refine zA rfl (zW cl57 rfl .k0 (fun m1 hm1 he => number57 (hw.mono (hm.trans hm1)) hp) rfl ?_ ?_) rfl
 ·rintro _ _ ⟨e', a', h1, rfl⟩;rw [h1] at hF;exact pn ⟨e', a', hF.symm, rfl⟩
 rintro _ _ ⟨v1, ts1, at1, _, h1, hp1, ⟨rfl, rfl⟩, rfl⟩;rw [h1] at hF;dsimp only [R.bind] at hF;have hl1 : 1 + ts1.length ≤ ts.length := (zz (ts := ts)).2 _ _ h1;clear h1;refine vB 1 ?_;refine zA rfl (yH co3 rfl rfl rfl .h1 .h3 ?_) rfl;refine Vn 2 ?_;refine lr 0 (yM sg54 rfl hbx) ?_;refine Bs 0 sl61 fun b1 => ?_
 refine Cp cl58 rfl .k1 (fun m1 hm1 he => must58 (s := sSemi) (hw.mono (hm.trans hm1)) (Rd.blk (he _ (.head _))) (asc _ rfl) (by decide) hp1) ?_ ?_
 ·rintro _ _ ⟨e', a', h1, rfl⟩;rw [h1] at hF;skip;exact pn ⟨e', a', hF.symm, rfl⟩
 rintro _ _ ⟨_, ts2, at2, _, h1, hp2, ⟨rfl, rfl⟩, rfl⟩;rw [h1] at hF;dsimp only [R.bind] at hF;have hl2 : 1 + ts2.length ≤ ts1.length := (zO (s := sSemi) (ts := ts1)).2 _ _ h1;clear h1;refine vr 1 ?_
 exact yS [] trivial _ (.cons .here (Pick.pack2 (a := cel bF (FmtC.v q { x with copies := v1 }) 63) (b := o) (.cons .h1 .p1))) ⟨{ x with copies := v1 }, ts2, at2, 0, _, hF.symm, hp2, by omega, by omega, ⟨q, o, rfl, hes, rfl, ⟨hok.name, hok.ban, hok.bans, hok.sin, hok.sins⟩⟩, rfl, rfl⟩
theorem WC {bX bK bF n : Nat} {seen : List (List UInt8)} (hbox : Wc m ⟨bX, 0, none⟩ (ptr b)) (hfld : Wc m ⟨bK, 0, none⟩ (.pointer (some ⟨bF, 4, none⟩))) (hT : Tabs m) (hw : WsR m A ws) : RuC m b A c ws 69 [ptr bX, ptr bK] (fmtRead n sBanned) (FmI bF seen) (FmI bF (seen ++ [sBanned])) n := by
 rintro m' hm x e at_ p ts ⟨q, o, rfl, hes, rfl, hok⟩ hp hb hn;generalize hF : fmtRead n sBanned x ts = F;unfold fmtRead at hF;rw [if_neg (by decide), if_neg (by decide), if_neg (by decide), if_pos rfl] at hF;have hbx := hbox.mono hm;have hfx := hfld.mono hm;clear hbox hfld;refine zg [] Tryz.func69 rfl rfl rfl ?_;refine xB _ Pick.unpack2 ?_;skip;refine tr 1 ?_
 refine Db (sq [0, 1, 102, 3, 104] .done) ?_;refine Vr 0 rfl (yM sg111 rfl hfx) ?_;refine Vr 0 rfl (yM sg54 rfl hbx) ?_;refine zA rfl (zW cl70 rfl .k0 (fun m1 hm1 he => names70 (hT.mono (hm.trans hm1)) (hw.mono (hm.trans hm1)) hp hn) rfl ?_ ?_) rfl
 ·rintro _ _ ⟨e', a', h1, rfl⟩;rw [h1] at hF;exact pn ⟨e', a', hF.symm, rfl⟩
 rintro _ _ ⟨v1, ts1, at1, _, h1, hp1, ⟨K, kc, ek, rfl, rfl, hnl, hns, hK⟩, rfl⟩;rw [h1] at hF;dsimp only [R.bind] at hF;have hl1 : ts1.length ≤ ts.length := by have h9 := (wJ n [] ts hn).2 _ _ h1; omega
 clear h1;refine vB 1 ?_;refine zA rfl (yH co61 rfl rfl rfl .h2 .h4 ?_) rfl;refine Vn 2 ?_;refine lr 0 (yM sg54 rfl hbx) ?_;refine Bs 0 sl61 fun b1 => ?_;refine Cp cl58 rfl .k1 (fun m1 hm1 he => must58 (s := sSemi) (hw.mono (hm.trans hm1)) (Rd.blk (he _ (.head _))) (asc _ rfl) (by decide) hp1) ?_ ?_
 ·rintro _ _ ⟨e', a', h1, rfl⟩;rw [h1] at hF;skip;exact pn ⟨e', a', hF.symm, rfl⟩
 rintro _ _ ⟨_, ts2, at2, _, h1, hp2, ⟨rfl, rfl⟩, rfl⟩;rw [h1] at hF;dsimp only [R.bind] at hF;have hl2 : 1 + ts2.length ≤ ts1.length := (zO (s := sSemi) (ts := ts1)).2 _ _ h1;clear h1;refine vr 1 ?_
 exact yS [] trivial _ (.cons .here (Pick.pack2 (a := cel bF (FmtC.v ⟨K, kc, q.B, q.cb⟩ { x with banned := v1 }) 63) (b := pack [o, ek]) (.cons .h2 (Pick.pack2 (.cons .h2 .p1))))) ⟨{ x with banned := v1 }, ts2, at2, 0, _, hF.symm, hp2, by omega, by omega, ⟨⟨K, kc, q.B, q.cb⟩, pack [o, ek], rfl, fun ns h => ⟨hK ns (h.1 _ (.tail _ (.head _))), (hes ns (h.1 _ (.head _))).2⟩, rfl, ⟨hok.name, hnl, hns, hok.sin, hok.sins⟩⟩, rfl, rfl⟩
theorem WB {bX bK bF n : Nat} {seen : List (List UInt8)} (hbox : Wc m ⟨bX, 0, none⟩ (ptr b)) (hfld : Wc m ⟨bK, 0, none⟩ (.pointer (some ⟨bF, 5, none⟩))) (hT : Tabs m) (hw : WsR m A ws) : RuC m b A c ws 69 [ptr bX, ptr bK] (fmtRead n sSingle) (FmI bF seen) (FmI bF (seen ++ [sSingle])) n := by
 rintro m' hm x e at_ p ts ⟨q, o, rfl, hes, rfl, hok⟩ hp hb hn;generalize hF : fmtRead n sSingle x ts = F;unfold fmtRead at hF;rw [if_neg (by decide), if_neg (by decide), if_neg (by decide), if_neg (by decide)] at hF;have hbx := hbox.mono hm;have hfx := hfld.mono hm;clear hbox hfld;refine zg [] Tryz.func69 rfl rfl rfl ?_;refine xB _ Pick.unpack2 ?_;skip;refine tr 1 ?_
 refine Db (sq [0, 1, 102, 3, 104] .done) ?_;refine Vr 0 rfl (yM sg111 rfl hfx) ?_;refine Vr 0 rfl (yM sg54 rfl hbx) ?_;refine zA rfl (zW cl70 rfl .k0 (fun m1 hm1 he => names70 (hT.mono (hm.trans hm1)) (hw.mono (hm.trans hm1)) hp hn) rfl ?_ ?_) rfl
 ·rintro _ _ ⟨e', a', h1, rfl⟩;rw [h1] at hF;exact pn ⟨e', a', hF.symm, rfl⟩
 rintro _ _ ⟨v1, ts1, at1, _, h1, hp1, ⟨K, kc, ek, rfl, rfl, hnl, hns, hK⟩, rfl⟩;rw [h1] at hF;dsimp only [R.bind] at hF;have hl1 : ts1.length ≤ ts.length := by have h9 := (wJ n [] ts hn).2 _ _ h1; omega
 clear h1;refine vB 1 ?_;refine zA rfl (yH co61 rfl rfl rfl .h2 .h5 ?_) rfl;refine Vn 2 ?_;refine lr 0 (yM sg54 rfl hbx) ?_;refine Bs 0 sl61 fun b1 => ?_;refine Cp cl58 rfl .k1 (fun m1 hm1 he => must58 (s := sSemi) (hw.mono (hm.trans hm1)) (Rd.blk (he _ (.head _))) (asc _ rfl) (by decide) hp1) ?_ ?_
 ·rintro _ _ ⟨e', a', h1, rfl⟩;rw [h1] at hF;skip;exact pn ⟨e', a', hF.symm, rfl⟩
 rintro _ _ ⟨_, ts2, at2, _, h1, hp2, ⟨rfl, rfl⟩, rfl⟩;rw [h1] at hF;dsimp only [R.bind] at hF;have hl2 : 1 + ts2.length ≤ ts1.length := (zO (s := sSemi) (ts := ts1)).2 _ _ h1;clear h1;refine vr 1 ?_
 exact yS [] trivial _ (.cons .here (Pick.pack2 (a := cel bF (FmtC.v ⟨q.A, q.ca, K, kc⟩ { x with single := v1 }) 63) (b := pack [o, ek]) (.cons .h2 (Pick.pack2 (.cons .h2 .p1))))) ⟨{ x with single := v1 }, ts2, at2, 0, _, hF.symm, hp2, by omega, by omega, ⟨⟨q.A, q.ca, K, kc⟩, pack [o, ek], rfl, fun ns h => ⟨(hes ns (h.1 _ (.head _))).1, hK ns (h.1 _ (.tail _ (.head _)))⟩, rfl, ⟨hok.name, hok.ban, hok.bans, hnl, hns⟩⟩, rfl, rfl⟩
abbrev fmtKey : Nat → List UInt8
 | 0 => sLeast
 | 1 => sMost
 | 2 => sCopies
 | 3 => sBanned
 | _ => sSingle
abbrev fmtFn (j : Nat) : FuncId := if j < 3 then 67 else 69
abbrev fmtRu (bX : Nat) (β : Nat → Nat) (js : List Nat) : List (List UInt8 × FuncId × List Value) := js.map fun j => (fmtKey j, fmtFn j, [ptr bX, ptr (β j)])
theorem fmtCl {bX : Nat} {β : Nat → Nat} {js : List Nat} : ∀ k ∈ fmtRu bX β js, callable Tryz.prog k.2.1 = true := fun k hk => by
 obtain ⟨j, -, rfl⟩ := List.mem_map.1 hk;show callable Tryz.prog (if j < 3 then 67 else 69) = true
 split
 ·exact cl67
 ·exact cl69
theorem fmtRs {bX bF n : Nat} {β : Nat → Nat} {js : List Nat} (hjs : ∀ j ∈ js, j < 5) (hbox : Wc m ⟨bX, 0, none⟩ (ptr b)) (hf : ∀ j ∈ js, Wc m ⟨β j, 0, none⟩ (.pointer (some ⟨bF, j + 1, none⟩))) (hT : Tabs m) (hw : WsR m A ws) :
  ∀ k ∈ fmtRu bX β js, ∀ seen, k.1 ∉ seen → RuC m b A c ws k.2.1 k.2.2 (fmtRead n k.1) (FmI bF seen) (FmI bF (seen ++ [k.1])) n := fun k hk seen hs => by
 obtain ⟨j, hj, rfl⟩ := List.mem_map.1 hk;have h5 := hjs j hj;have hfj := hf j hj;clear hk hs hjs hf hj
 match j, h5 with
 | 0, _ => exact WF hbox hfj hw
 | 1, _ => exact WE hbox hfj hw
 | 2, _ => exact WD hbox hfj hw
 | 3, _ => exact WC hbox hfj hT hw
 | 4, _ => exact WB hbox hfj hT hw
end
section
open Wd Tp Kd
noncomputable def drawsOf : Code → List (List Oper)
 | .seq a b => drawsOf a ++ drawsOf b
 | .block _ c => drawsOf c
 | .scope c => drawsOf c
 | .loop c => drawsOf c
 | .cond _ a b => drawsOf a ++ drawsOf b
 | .region _ l true => [l.toList]
 | _ => []
noncomputable def l21 : List Oper := ((Tryz.f21.body.map drawsOf).getD []).headD []
structure FSt where
 mm : Bool
 k : Nat
 b0 : Bool
 b1 : Bool
 b2 : Bool
 b3 : Bool
 b4 : Bool
 mv : Bool
 fin : Bool
def FSt.bit (s : FSt) : Nat → Bool
 | 0 => s.b0
 | 1 => s.b1
 | 2 => s.b2
 | 3 => s.b3
 | 4 => s.b4
 | _ => false
def FSt.lst (s : FSt) : Array Bool := #[true, s.mm, true, true, Nat.blt 0 s.k, s.b0, true, true, Nat.blt 1 s.k, s.b1, true, true, Nat.blt 2 s.k, s.b2, true, true, Nat.blt 3 s.k, s.b3, true, true, Nat.blt 4 s.k, s.b4, s.mv, s.fin]
def nB : Bool → Nat
 | true => 0
 | false => 1
def FSt.mu (s : FSt) : Nat := nB s.mm + (5 - s.k) + nB s.b0 + nB s.b1 + nB s.b2 + nB s.b3 + nB s.b4 + nB s.mv + nB s.fin
def FSt.all (s : FSt) : Bool := s.b0 && s.b1 && s.b2 && s.b3 && s.b4
def FSt.ok (s : FSt) : Bool := Nat.ble s.k 5 && (!s.b0 || (s.mm && Nat.blt 0 s.k)) && (!s.b1 || (s.mm && Nat.blt 1 s.k)) && (!s.b2 || (s.mm && Nat.blt 2 s.k)) && (!s.b3 || (s.mm && Nat.blt 3 s.k)) && (!s.b4 || (s.mm && Nat.blt 4 s.k)) && (!s.mv || s.all) && (!s.fin || s.mv)
def FSt.nx (s : FSt) (i : Nat) : Bool := (Nat.beq i 1 && !s.mm) || ((Nat.beq i (4 + 4 * s.k) && Nat.blt s.k 5) || ((Nat.beq i 5 && (s.mm && Nat.blt 0 s.k && !s.b0)) || ((Nat.beq i 9 && (s.mm && Nat.blt 1 s.k && !s.b1)) || ((Nat.beq i 13 && (s.mm && Nat.blt 2 s.k && !s.b2)) || ((Nat.beq i 17 && (s.mm && Nat.blt 3 s.k && !s.b3)) || ((Nat.beq i 21 && (s.mm && Nat.blt 4 s.k && !s.b4)) || ((Nat.beq i 22 && (s.all && !s.mv)) || (Nat.beq i 23 && (s.mv && !s.fin)))))))))
def FSt.nxt (s : FSt) : Nat → FSt
 | 1 => { s with mm := true }
 | 5 => { s with b0 := true }
 | 9 => { s with b1 := true }
 | 13 => { s with b2 := true }
 | 17 => { s with b3 := true }
 | 21 => { s with b4 := true }
 | 22 => { s with mv := true }
 | 23 => { s with fin := true }
 | _ => { s with k := s.k + 1 }
noncomputable def FSt.chk (s : FSt) : Bool := !s.ok || (fun r => (r.all fun i => s.nx i && ((s.nxt i).ok && ((s.nxt i).lst.toList == (s.lst.setIfInBounds i true).toList && Nat.beq ((s.nxt i).mu + 1) s.mu))) && (s.fin == r.isEmpty)) (Region.ready .any l21.toArray s.lst)
abbrev bools : List Bool := [true, false]
theorem xT (b : Bool) : b ∈ bools := by cases b <;> decide
theorem chkAll : (bools.all fun mk => bools.all fun b0 => bools.all fun b1 => bools.all fun b2 => bools.all fun b3 => bools.all fun b4 => bools.all fun mv => bools.all fun fin => (List.range 6).all fun k => FSt.chk ⟨mk, k, b0, b1, b2, b3, b4, mv, fin⟩) = true := by kernel_rfl
theorem chk_all (s : FSt) : s.chk = true := by
 obtain ⟨mk, k, b0, b1, b2, b3, b4, mv, fin⟩ := s;by_cases hk : k < 6
 ·have h := chkAll;simp only [List.all_eq_true] at h;exact h mk (xT _) b0 (xT _) b1 (xT _) b2 (xT _) b3 (xT _) b4 (xT _) mv (xT _) fin (xT _) k (List.mem_range.2 hk)
 ·unfold FSt.chk FSt.ok
  have : Nat.ble k 5 = false := by
   cases h : Nat.ble k 5 with
   | false => rfl
   | true => have := Nat.le_of_ble_eq_true h; omega
  simp [this]
theorem WL {s : FSt} {i : Nat} (h : s.nx i = true) : (i = 1 ∧ s.mm = false) ∨ (i = 4 + 4 * s.k ∧ s.k < 5) ∨ (i = 5 ∧ s.mm = true ∧ 0 < s.k ∧ s.b0 = false) ∨ (i = 9 ∧ s.mm = true ∧ 1 < s.k ∧ s.b1 = false) ∨ (i = 13 ∧ s.mm = true ∧ 2 < s.k ∧ s.b2 = false) ∨ (i = 17 ∧ s.mm = true ∧ 3 < s.k ∧ s.b3 = false) ∨ (i = 21 ∧ s.mm = true ∧ 4 < s.k ∧ s.b4 = false) ∨ (i = 22 ∧ s.all = true ∧ s.mv = false) ∨ (i = 23 ∧ s.mv = true ∧ s.fin = false) := by
 have hb : ∀ a b : Nat, Nat.beq a b = true ↔ a = b := fun a b => by simp
 have hl : ∀ a b : Nat, Nat.blt a b = true ↔ a < b := fun a b => by rw [Nat.blt_eq]
 unfold FSt.nx at h;simp only [Bool.or_eq_true, Bool.and_eq_true, Bool.not_eq_true', hb, hl, and_assoc] at h;exact h
theorem ue {bX : Nat} {β : Nat → Nat} : ∀ {js : List Nat} {j : Nat}, j < 5 → (∀ i ∈ js, i < 5) → j ∉ js → putM (ruM (fmtRu bX β js)) (fmtKey j) (clo (fmtFn j) [ptr bX, ptr (β j)]) = ruM (fmtRu bX β (js ++ [j])) := by
 intro js j hj hjs hn
 have inj : ∀ a b, a < 5 → b < 5 → fmtKey a = fmtKey b → a = b := by
  have h : ∀ a : Fin 5, ∀ b : Fin 5, fmtKey a.1 = fmtKey b.1 → a.1 = b.1 := by decide
  intro a b ha hb he;exact h ⟨a, ha⟩ ⟨b, hb⟩ he
 have hnone : ∀ (l : List Nat) (n : Nat), (∀ i ∈ l, i < 5) → j ∉ l → findM (fmtKey j) n (ruM (fmtRu bX β l)) = none := by
  intro l
  induction l with
  | nil => intro n _ _; rfl
  | cons a r ih =>
    intro n h1 h2;show findM (fmtKey j) n ((fmtKey a, _) :: ruM (fmtRu bX β r)) = none;rw [findM, if_neg (fun he => h2 (by rw [inj _ _ hj (h1 a (.head _)) he]; exact .head _))];exact ih _ (fun i hi => h1 i (.tail _ hi)) fun hm => h2 (.tail _ hm)
 rw [putM, hnone js 0 hjs hn];unfold ruM fmtRu;rw [List.map_append, List.map_append]
 rfl
theorem ql {σ : Type} {K1 K2 : List (List UInt8)} (h : ∀ k, k ∈ K1 ↔ k ∈ K2) {read : List UInt8 → σ → List Wrd → R σ} {parts : σ → Nat} : ∀ (n : Nat) (seen : List (List UInt8)) (x : σ) (ts : List Wrd), pRules K1 read parts n seen x ts = pRules K2 read parts n seen x ts
 | 0, _, _, _ => rfl
 | n + 1, seen, x, ts => by
   unfold pRules;have ih := ql h (read := read) (parts := parts) n;by_cases hk : (hd ts).kind = 1 ∧ (hd ts).text ∈ K1
   ·rw [if_pos hk, if_pos (show (hd ts).kind = 1 ∧ (hd ts).text ∈ K2 from ⟨hk.1, (h _).1 hk.2⟩)];simp only [ih]
   ·rw [if_neg hk, if_neg (show ¬((hd ts).kind = 1 ∧ (hd ts).text ∈ K2) from fun h2 => hk ⟨h2.1, (h _).2 h2.2⟩)]
theorem ZI {bX : Nat} {β : Nat → Nat} {js : List Nat} (h : ∀ j, j ∈ js ↔ j < 5) : ∀ k, k ∈ (fmtRu bX β js).map (·.1) ↔ k ∈ fmtKeys := fun k => by
 simp only [fmtRu, List.map_map, List.mem_map, Function.comp]
 constructor
 ·rintro ⟨j, hj, rfl⟩;have := (h j).1 hj
  match j, this with
  | 0, _ => decide
  | 1, _ => decide
  | 2, _ => decide
  | 3, _ => decide
  | 4, _ => decide
 ·intro hk;simp only [fmtKeys, List.mem_cons, List.not_mem_nil, or_false] at hk;rcases hk with rfl | rfl | rfl | rfl | rfl
  ·exact ⟨0, (h 0).2 (by decide), rfl⟩
  ·exact ⟨1, (h 1).2 (by decide), rfl⟩
  ·exact ⟨2, (h 2).2 (by decide), rfl⟩
  ·exact ⟨3, (h 3).2 (by decide), rfl⟩
  ·exact ⟨4, (h 4).2 (by decide), rfl⟩
variable {m : Mp} {b c at_ d p : Nat} {A : Option Addr} {ws ts : List Wrd}
abbrev fptr (bF off : Nat) : Value := .pointer (some ⟨bF, off, none⟩)
abbrev fBase (b bF bX : Nat) : Env := [(4, ptr bF), (17, ptr b), (19, clo 66 [ptr bX]), (22, clo 66 [ptr bX]), (25, clo 66 [ptr bX]), (28, clo 68 [ptr bX]), (31, clo 68 [ptr bX]), (20, fptr bF 1), (23, fptr bF 2), (26, fptr bF 3), (29, fptr bF 4), (32, fptr bF 5)]
def FFin (b : Nat) (A : Option Addr) (c : Nat) (ws : List Wrd) (bF : Nat) (r : R FmtT) (L : List Ent) : Prop := ∃ x' ts' at' p' e' seen, r = .ok x' ts' ∧ Pos ws at' ts' ∧ p' ≤ 200 ∧ FmI bF seen x' p' e' ∧ Pick L [rd b A c ws at' 0 p', e']
def FIv (b : Nat) (A : Option Addr) (c : Nat) (ws : List Wrd) (at_ bF bX : Nat) (fm : Ent) (r : R FmtT) (s : FSt) (env : Env) (L : List Ent) : Prop :=
 s.ok = true ∧ Sub (fBase b bF bX) env ∧ ((s.fin = true ∧ FFin b A c ws bF r L) ∨ (s.fin = false ∧ ∃ (β : Nat → Nat) (bx : List Ent) (mb : Nat) (js : List Nat),
  Pick L ((if s.mm then [smap mb (ruM (fmtRu bX β js))] else []) ++ [rd b A c ws at_ 0 0, fm, pack bx]) ∧
  (∀ ns, (pack bx).inv ns → ∀ j, j < s.k → Wc ns ⟨β j, 0, none⟩ (fptr bF (j + 1))) ∧
  (∀ j, j < s.k → lk env (21 + 3 * j) = some (clo (fmtFn j) [ptr bX, ptr (β j)])) ∧
  (s.mm = true → lk env 18 = some (.map (some mb))) ∧ (s.mv = true → lk env 34 = some (.map (some mb))) ∧ (∀ j ∈ js, j < 5) ∧ (∀ j, j < 5 → (j ∈ js ↔ s.bit j = true)) ∧ (s.mm = false → js = [])))
theorem yT {P : Program} {n : Nat} {Q : Post} {o : Oper} {env : Env} {L L' : List Ent} {kept : Bool} {K : Env → List Ent → Prop} (hp : Pick L L') (h : StepS P n Q o env m L' kept K) : StepS P n Q o env m L kept K := fun h' hs => h h' (hp m h' hs)
theorem wW {env : Env} {d t : Nat} {v : Value} (h : d ≠ t) : lk ((d, v) :: env) t = lk env t := by
 show (match Nat.beq d t with | true => some v | false => lk env t) = _;rw [qG h]
theorem lk_eq {env : Env} {d : Nat} {v : Value} : lk ((d, v) :: env) d = some v := by
 show (match Nat.beq d d with | true => some v | false => lk env d) = _;rw [show Nat.beq d d = true by simp]
theorem xz {b bF bX d : Nat} {env : Env} {v : Value} (h : Sub (fBase b bF bX) env) (hd : d = 18 ∨ d = 21 ∨ d = 24 ∨ d = 27 ∨ d = 30 ∨ d = 33 ∨ d = 34 ∨ d = 35) : Sub (fBase b bF bX) ((d, v) :: env) := by
 obtain ⟨h1, h2, h3, h4, h5, h6, h7, h8, h9, h10, h11, h12, -⟩ := h;rcases hd with rfl | rfl | rfl | rfl | rfl | rfl | rfl | rfl <;> exact ⟨h1, h2, h3, h4, h5, h6, h7, h8, h9, h10, h11, h12, trivial⟩
theorem evs1 {env : Env} {x : Operand} {v : Value} (h : ev env x = some v) : evs env [x] = some [v] := by simp [evs, h]
theorem evs2 {env : Env} {x y : Operand} {v w : Value} (h : ev env x = some v) (h2 : ev env y = some w) : evs env [x, y] = some [v, w] := by simp [evs, h, h2]
theorem qq {s : FSt} (h : s.ok = true) {i : Nat} (hb : s.bit i = true) : i < s.k ∧ s.mm = true := by
 have hl : ∀ a b : Nat, Nat.blt a b = true ↔ a < b := fun a b => by rw [Nat.blt_eq]
 unfold FSt.ok at h;simp only [Bool.and_eq_true, Bool.or_eq_true, Bool.not_eq_true', hl] at h;obtain ⟨⟨⟨⟨⟨⟨⟨-, h0⟩, h1⟩, h2⟩, h3⟩, h4⟩, -⟩, -⟩ := h
 match i with
 | 0 => have hb : s.b0 = true := hb; rw [hb] at h0; simpa [and_comm] using h0
 | 1 => have hb : s.b1 = true := hb; rw [hb] at h1; simpa [and_comm] using h1
 | 2 => have hb : s.b2 = true := hb; rw [hb] at h2; simpa [and_comm] using h2
 | 3 => have hb : s.b3 = true := hb; rw [hb] at h3; simpa [and_comm] using h3
 | 4 => have hb : s.b4 = true := hb; rw [hb] at h4; simpa [and_comm] using h4
 | _ + 5 => cases hb
theorem ok_k {s : FSt} (h : s.ok = true) : s.k ≤ 5 ∧ (s.mv = true → s.all = true) ∧ (s.fin = true → s.mv = true) := by
 unfold FSt.ok at h;simp only [Bool.and_eq_true, Bool.or_eq_true, Bool.not_eq_true'] at h;obtain ⟨⟨⟨⟨⟨⟨⟨h5, -⟩, -⟩, -⟩, -⟩, -⟩, hv⟩, hf⟩ := h;refine ⟨Nat.le_of_ble_eq_true h5, fun h => ?_, fun h => ?_⟩
 ·rw [h] at hv; simpa using hv
 ·rw [h] at hf; simpa using hf
theorem step_of {s : FSt} (hok : s.ok = true) : (Region.ready .any l21.toArray s.lst = [] ↔ s.fin = true) ∧ ∀ i ∈ Region.ready .any l21.toArray s.lst, s.nx i = true ∧ (s.nxt i).ok = true ∧ (s.nxt i).lst = s.lst.setIfInBounds i true ∧ (s.nxt i).mu + 1 = s.mu := by
 have h := chk_all s;unfold FSt.chk at h;rw [hok, Bool.not_true, Bool.false_or, Bool.and_eq_true, List.all_eq_true] at h;obtain ⟨h1, h2⟩ := h
 constructor
 ·rw [beq_iff_eq] at h2;rw [h2, List.isEmpty_iff]
 ·intro i hi;have h3 := h1 i hi;simp only [Bool.and_eq_true, beq_iff_eq] at h3;obtain ⟨g1, g2, g3, g4⟩ := h3;exact ⟨g1, g2, Array.ext' g3, by simpa using g4⟩
theorem mu0 {s : FSt} (hok : s.ok = true) (h : s.mu = 0) : s.fin = true := by
 unfold FSt.mu at h;cases hf : s.fin with
 | true => rfl
 | false => rw [hf] at h; simp [nB] at h
theorem Pick.packS {o : Ent} {bx : List Ent} : Pick [o, pack bx] [pack (bx ++ [o])] := fun m h hs => Pick.packSnoc m h ((Pick.cons .h1 .p0) m h hs)
end
section
open Wd Tp Kd
variable {m : Mp} {b c at_ d p : Nat} {A : Option Addr} {ws ts : List Wrd}
theorem uc {bX k j : Nat} {β : Nat → Nat} {js : List Nat} (h : j ∉ js) : fmtRu bX (fun i => if i = j then k else β i) js = fmtRu bX β js := by
 unfold fmtRu;refine List.map_congr_left fun i hi => ?_;have : i ≠ j := fun e => h (e ▸ hi)
 simp [this]
theorem qd {b4 k j : Nat} {β : Nat → Nat} {bx : List Ent} {t : TypeId} (h : ∀ ns, (pack bx).inv ns → ∀ i, i < j → Wc ns ⟨β i, 0, none⟩ (fptr b4 (i + 1))) : ∀ ns, (pack (bx ++ [cel k [fptr b4 (j + 1)] t])).inv ns → ∀ i, i < j + 1 → Wc ns ⟨(fun i => if i = j then k else β i) i, 0, none⟩ (fptr b4 (i + 1)) := fun ns hi i hij => by
 obtain ⟨h1, h2⟩ := hi;dsimp only;by_cases he : i = j
 ·subst he;rw [if_pos rfl];exact Wc.cel (e := t) (h1 _ (List.mem_append_right _ (.head _))) rfl
 ·rw [if_neg he];exact h ns ⟨fun e he => h1 e (List.mem_append_left _ he), (List.pairwise_append.1 h2).1⟩ i (by omega)
theorem qv {bX k j : Nat} {β : Nat → Nat} {env : Env} {v : Value} (h : ∀ i, i < j → lk env (21 + 3 * i) = some (clo (fmtFn i) [ptr bX, ptr (β i)])) (hv : v = clo (fmtFn j) [ptr bX, ptr k]) : ∀ i, i < j + 1 → lk ((21 + 3 * j, v) :: env) (21 + 3 * i) = some (clo (fmtFn i) [ptr bX, ptr ((fun i => if i = j then k else β i) i)]) := fun i hij => by
 dsimp only;by_cases he : i = j
 ·subst he;rw [if_pos rfl, lk_eq, hv]
 ·rw [if_neg he, wW (by omega)];exact h i (by omega)
theorem ur {s s' : FSt} {js : List Nat} {k : Nat} (h : ∀ j, j < 5 → (j ∈ js ↔ s.bit j = true)) (he : ∀ j, j < 5 → (s'.bit j = true ↔ s.bit j = true ∨ j = k)) : ∀ j, j < 5 → (j ∈ js ++ [k] ↔ s'.bit j = true) := fun j hj => by rw [he j hj, ← h j hj, List.mem_append, List.mem_singleton]
theorem fmtRegion {Q : Post} {bF bX n0 : Nat} {x0 : FmtT} {fm : Ent} (hbox : Wc m ⟨bX, 0, none⟩ (ptr b)) (hT : Tabs m) (hw : WsR m A ws) (hp : Pos ws at_ ts) (hn : ts.length < n0) (hfm : FmI bF [] x0 0 fm)
  (hQp : ∀ env L e a, ((must sLb ts).bind fun _ ts => pRules fmtKeys (fmtRead n0) (fun _ => 0) n0 [] x0 ts) = .bad e a → QS Q (.panic (pan (fltV e a))) env m L)
  (hQn : ∀ env L, Sub (fBase b bF bX) env → FFin b A c ws bF ((must sLb ts).bind fun _ ts => pRules fmtKeys (fmtRead n0) (fun _ => 0) n0 [] x0 ts) L → QS Q .normal env m L)
  {env : Env} (hs : Sub (fBase b bF bX) env) : VAS Tryz.prog 37 l21 13 (FSt.lst ⟨false, 0, false, false, false, false, false, false, false⟩) env m [rd b A c ws at_ 0 0, fm] Q := by
 have hsm := hp.small;have hlen := hp.len;generalize hF : ((must sLb ts).bind fun _ ts => pRules fmtKeys (fmtRead n0) (fun _ => 0) n0 [] x0 ts) = F at hQp hQn
 refine Yq FSt.lst FSt.mu (FIv b A c ws at_ bF bX fm F) ?_ 13 ⟨false, 0, false, false, false, false, false, false, false⟩ env _ rfl ⟨rfl, hs, .inr ⟨rfl, fun _ => 0, [], 0, [], .cons .here (.cons .here (Pick.nilE (.nil _))), (fun _ _ j hj => by cases hj), (fun j hj => by cases hj), (fun h => by cases h), (fun h => by cases h), (fun j hj => by cases hj), ?_, fun _ => rfl⟩⟩
 rotate_left
 ·
  have h0 : ∀ j : Fin 5, FSt.bit ⟨false, 0, false, false, false, false, false, false, false⟩ j.1 = false := by decide
  intro j hj;have := h0 ⟨j, hj⟩;dsimp only at this;rw [this]
  simp
 intro s env L hi;obtain ⟨hok, hsub, hi⟩ := hi;obtain ⟨g1, g2⟩ := step_of hok;refine ⟨fun hr => ?_, fun h0 => g1.2 (mu0 hok h0), fun i hin => ?_⟩
 ·have hfin := g1.1 hr;rcases hi with ⟨_, hi⟩ | ⟨hff, _⟩
  ·exact hQn env L hsub hi
  ·rw [hfin] at hff; cases hff
 obtain ⟨hnx, hok', hlst, hmu⟩ := g2 i hin
 have hff : s.fin = false := by
  cases hf : s.fin with
  | false => rfl
  | true => rw [g1.2 hf] at hin; cases hin
 rcases hi with ⟨hf, _⟩ | ⟨_, β, bx, mb, js, hpk, hwc, hlk, h18, h34, hjs, hbit, hmm⟩
 ·rw [hff] at hf; cases hf
 have hkv := ok_k hok;clear g1 g2 hin;have hsub' := hsub;obtain ⟨e4, e17, e19, e22, e25, e28, e31, e20, e23, e26, e29, e32, -⟩ := hsub'
 have hnb : ∀ j, s.k ≤ j → j < 5 → j ∉ js := fun j hj h5 hm => by
  have := (qq hok ((hbit j h5).1 hm)).1;omega
 rcases WL hnx with ⟨rfl, hm0⟩ | ⟨hi, hk5⟩ | ⟨rfl, hm1, hk, hb⟩ | ⟨rfl, hm1, hk, hb⟩ | ⟨rfl, hm1, hk, hb⟩ | ⟨rfl, hm1, hk, hb⟩ | ⟨rfl, hm1, hk, hb⟩ | ⟨rfl, hall, hmv⟩ | ⟨rfl, hmv, _⟩
 ·-- the map
  refine ⟨_, true, s.nxt 1, rfl, rfl, hlst, hmu, yT hpk ?_⟩;rw [hm0, if_neg (by decide), List.nil_append];have hj0 := hmm hm0;subst hj0;refine wx rfl fun b' => ⟨hok', xz hsub (.inl rfl), .inr ⟨hff, β, bx, b', [], Pick.refl _, hwc, fun j hj => (wW (by omega)).trans (hlk j hj), fun _ => rfl, fun h => ?_, hjs, hbit, fun _ => rfl⟩⟩;have h2 := hkv.2.1 h;unfold FSt.all at h2
  simp only [Bool.and_eq_true] at h2;have h3 := (qq hok (i := 0) h2.1.1.1.1).2;rw [hm0] at h3;cases h3
 ·have hkk : s.k = 0 ∨ s.k = 1 ∨ s.k = 2 ∨ s.k = 3 ∨ s.k = 4 := by omega
  rcases hkk with hk | hk | hk | hk | hk
  ·-- a closure
   obtain rfl : i = 4 := by omega
   refine ⟨_, false, s.nxt 4, rfl, rfl, hlst, hmu, yT hpk ?_⟩;have hnj := hnb 0 (by omega) (by decide);refine vb (p := []) (q := [ptr bX]) (vs := [fptr bF 1]) cl66 e19 (evs1 e20) .nil (fun m' _ _ => mk66) rfl ?_;rintro _ _ ⟨k', rfl, rfl⟩
   refine ⟨hok', xz hsub (by decide), .inr ⟨hff, fun i => if i = 0 then k' else β i, bx ++ [cel k' [fptr bF 1] 109], mb, js, ?_, ?_, ?_, fun h => (wW (by decide)).trans (h18 h), fun h => (wW (by decide)).trans (h34 h), hjs, hbit, hmm⟩⟩
   ·rw [uc hnj];show Pick (cel k' [fptr bF 1] 109 :: ((if s.mm = true then [smap mb (ruM (fmtRu bX β js))] else []) ++ [rd b A c ws at_ 0 0, fm, pack bx])) ((if s.mm = true then [smap mb (ruM (fmtRu bX β js))] else []) ++ [rd b A c ws at_ 0 0, fm, pack (bx ++ [cel k' [fptr bF 1] 109])]);cases s.mm with
    | true => exact .cons .h1 (.cons .h1 (.cons .h1 Pick.packS))
    | false => exact .cons .h1 (.cons .h1 Pick.packS)
   ·show ∀ ns, _ → ∀ i, i < (s.nxt 4).k → _;rw [show (s.nxt 4).k = 0 + 1 by show s.k + 1 = _; omega];exact qd (fun ns h i hi => hwc ns h i (by omega))
   ·show ∀ i, i < (s.nxt 4).k → _;rw [show (s.nxt 4).k = 0 + 1 by show s.k + 1 = _; omega];exact qv (j := 0) (fun i hi => hlk i (by omega)) rfl
  ·-- a closure
   obtain rfl : i = 8 := by omega
   refine ⟨_, false, s.nxt 8, rfl, rfl, hlst, hmu, yT hpk ?_⟩;have hnj := hnb 1 (by omega) (by decide);refine vb (p := []) (q := [ptr bX]) (vs := [fptr bF 2]) cl66 e22 (evs1 e23) .nil (fun m' _ _ => mk66) rfl ?_;rintro _ _ ⟨k', rfl, rfl⟩
   refine ⟨hok', xz hsub (by decide), .inr ⟨hff, fun i => if i = 1 then k' else β i, bx ++ [cel k' [fptr bF 2] 109], mb, js, ?_, ?_, ?_, fun h => (wW (by decide)).trans (h18 h), fun h => (wW (by decide)).trans (h34 h), hjs, hbit, hmm⟩⟩
   ·rw [uc hnj];show Pick (cel k' [fptr bF 2] 109 :: ((if s.mm = true then [smap mb (ruM (fmtRu bX β js))] else []) ++ [rd b A c ws at_ 0 0, fm, pack bx])) ((if s.mm = true then [smap mb (ruM (fmtRu bX β js))] else []) ++ [rd b A c ws at_ 0 0, fm, pack (bx ++ [cel k' [fptr bF 2] 109])]);cases s.mm with
    | true => exact .cons .h1 (.cons .h1 (.cons .h1 Pick.packS))
    | false => exact .cons .h1 (.cons .h1 Pick.packS)
   ·show ∀ ns, _ → ∀ i, i < (s.nxt 8).k → _;rw [show (s.nxt 8).k = 1 + 1 by show s.k + 1 = _; omega];exact qd (fun ns h i hi => hwc ns h i (by omega))
   ·show ∀ i, i < (s.nxt 8).k → _;rw [show (s.nxt 8).k = 1 + 1 by show s.k + 1 = _; omega];exact qv (j := 1) (fun i hi => hlk i (by omega)) rfl
  ·-- a closure
   obtain rfl : i = 12 := by omega
   refine ⟨_, false, s.nxt 12, rfl, rfl, hlst, hmu, yT hpk ?_⟩;have hnj := hnb 2 (by omega) (by decide);refine vb (p := []) (q := [ptr bX]) (vs := [fptr bF 3]) cl66 e25 (evs1 e26) .nil (fun m' _ _ => mk66) rfl ?_;rintro _ _ ⟨k', rfl, rfl⟩
   refine ⟨hok', xz hsub (by decide), .inr ⟨hff, fun i => if i = 2 then k' else β i, bx ++ [cel k' [fptr bF 3] 109], mb, js, ?_, ?_, ?_, fun h => (wW (by decide)).trans (h18 h), fun h => (wW (by decide)).trans (h34 h), hjs, hbit, hmm⟩⟩
   ·rw [uc hnj];show Pick (cel k' [fptr bF 3] 109 :: ((if s.mm = true then [smap mb (ruM (fmtRu bX β js))] else []) ++ [rd b A c ws at_ 0 0, fm, pack bx])) ((if s.mm = true then [smap mb (ruM (fmtRu bX β js))] else []) ++ [rd b A c ws at_ 0 0, fm, pack (bx ++ [cel k' [fptr bF 3] 109])]);cases s.mm with
    | true => exact .cons .h1 (.cons .h1 (.cons .h1 Pick.packS))
    | false => exact .cons .h1 (.cons .h1 Pick.packS)
   ·show ∀ ns, _ → ∀ i, i < (s.nxt 12).k → _;rw [show (s.nxt 12).k = 2 + 1 by show s.k + 1 = _; omega];exact qd (fun ns h i hi => hwc ns h i (by omega))
   ·show ∀ i, i < (s.nxt 12).k → _;rw [show (s.nxt 12).k = 2 + 1 by show s.k + 1 = _; omega];exact qv (j := 2) (fun i hi => hlk i (by omega)) rfl
  ·-- a closure
   obtain rfl : i = 16 := by omega
   refine ⟨_, false, s.nxt 16, rfl, rfl, hlst, hmu, yT hpk ?_⟩;have hnj := hnb 3 (by omega) (by decide);refine vb (p := []) (q := [ptr bX]) (vs := [fptr bF 4]) cl68 e28 (evs1 e29) .nil (fun m' _ _ => mk68) rfl ?_;rintro _ _ ⟨k', rfl, rfl⟩
   refine ⟨hok', xz hsub (by decide), .inr ⟨hff, fun i => if i = 3 then k' else β i, bx ++ [cel k' [fptr bF 4] 111], mb, js, ?_, ?_, ?_, fun h => (wW (by decide)).trans (h18 h), fun h => (wW (by decide)).trans (h34 h), hjs, hbit, hmm⟩⟩
   ·rw [uc hnj];show Pick (cel k' [fptr bF 4] 111 :: ((if s.mm = true then [smap mb (ruM (fmtRu bX β js))] else []) ++ [rd b A c ws at_ 0 0, fm, pack bx])) ((if s.mm = true then [smap mb (ruM (fmtRu bX β js))] else []) ++ [rd b A c ws at_ 0 0, fm, pack (bx ++ [cel k' [fptr bF 4] 111])]);cases s.mm with
    | true => exact .cons .h1 (.cons .h1 (.cons .h1 Pick.packS))
    | false => exact .cons .h1 (.cons .h1 Pick.packS)
   ·show ∀ ns, _ → ∀ i, i < (s.nxt 16).k → _;rw [show (s.nxt 16).k = 3 + 1 by show s.k + 1 = _; omega];exact qd (fun ns h i hi => hwc ns h i (by omega))
   ·show ∀ i, i < (s.nxt 16).k → _;rw [show (s.nxt 16).k = 3 + 1 by show s.k + 1 = _; omega];exact qv (j := 3) (fun i hi => hlk i (by omega)) rfl
  ·-- a closure
   obtain rfl : i = 20 := by omega
   refine ⟨_, false, s.nxt 20, rfl, rfl, hlst, hmu, yT hpk ?_⟩;have hnj := hnb 4 (by omega) (by decide);refine vb (p := []) (q := [ptr bX]) (vs := [fptr bF 5]) cl68 e31 (evs1 e32) .nil (fun m' _ _ => mk68) rfl ?_;rintro _ _ ⟨k', rfl, rfl⟩
   refine ⟨hok', xz hsub (by decide), .inr ⟨hff, fun i => if i = 4 then k' else β i, bx ++ [cel k' [fptr bF 5] 111], mb, js, ?_, ?_, ?_, fun h => (wW (by decide)).trans (h18 h), fun h => (wW (by decide)).trans (h34 h), hjs, hbit, hmm⟩⟩
   ·rw [uc hnj];show Pick (cel k' [fptr bF 5] 111 :: ((if s.mm = true then [smap mb (ruM (fmtRu bX β js))] else []) ++ [rd b A c ws at_ 0 0, fm, pack bx])) ((if s.mm = true then [smap mb (ruM (fmtRu bX β js))] else []) ++ [rd b A c ws at_ 0 0, fm, pack (bx ++ [cel k' [fptr bF 5] 111])]);cases s.mm with
    | true => exact .cons .h1 (.cons .h1 (.cons .h1 Pick.packS))
    | false => exact .cons .h1 (.cons .h1 Pick.packS)
   ·show ∀ ns, _ → ∀ i, i < (s.nxt 20).k → _;rw [show (s.nxt 20).k = 4 + 1 by show s.k + 1 = _; omega];exact qd (fun ns h i hi => hwc ns h i (by omega))
   ·show ∀ i, i < (s.nxt 20).k → _;rw [show (s.nxt 20).k = 4 + 1 by show s.k + 1 = _; omega];exact qv (j := 4) (fun i hi => hlk i (by omega)) rfl
 ·-- a rule is laid
  refine ⟨_, false, s.nxt 5, rfl, rfl, hlst, hmu, yT hpk ?_⟩;rw [hm1, if_pos rfl];have hnj : 0 ∉ js := fun h => by have h2 : s.b0 = true := (hbit 0 (by decide)).1 h; rw [hb] at h2; cases h2
  refine ye (k := fmtKey 0) ms108 (h18 hm1) rfl (hlk 0 hk) .here ?_;rw [ue (by decide) hjs hnj];refine ⟨hok', hsub, .inr ⟨hff, β, bx, mb, js ++ [0], ?_, hwc, hlk, h18, h34, fun i hi => ?_, ur (s := s) hbit ?_, fun h => ?_⟩⟩
  ·show Pick _ ((if s.mm = true then [smap mb (ruM (fmtRu bX β (js ++ [0])))] else []) ++ [rd b A c ws at_ 0 0, fm, pack bx]);rw [hm1, if_pos rfl];exact Pick.refl _
  ·rcases List.mem_append.1 hi with h | h
   ·exact hjs i h
   ·rw [List.mem_singleton.1 h]; decide
  ·intro i hi5;have hi : i = 0 ∨ i = 1 ∨ i = 2 ∨ i = 3 ∨ i = 4 := by omega
   rcases hi with rfl | rfl | rfl | rfl | rfl <;> simp [FSt.bit, FSt.nxt]
  ·have h : s.mm = false := h;rw [hm1] at h;cases h
 ·-- a rule is laid
  refine ⟨_, false, s.nxt 9, rfl, rfl, hlst, hmu, yT hpk ?_⟩;rw [hm1, if_pos rfl];have hnj : 1 ∉ js := fun h => by have h2 : s.b1 = true := (hbit 1 (by decide)).1 h; rw [hb] at h2; cases h2
  refine ye (k := fmtKey 1) ms108 (h18 hm1) rfl (hlk 1 hk) .here ?_;rw [ue (by decide) hjs hnj];refine ⟨hok', hsub, .inr ⟨hff, β, bx, mb, js ++ [1], ?_, hwc, hlk, h18, h34, fun i hi => ?_, ur (s := s) hbit ?_, fun h => ?_⟩⟩
  ·show Pick _ ((if s.mm = true then [smap mb (ruM (fmtRu bX β (js ++ [1])))] else []) ++ [rd b A c ws at_ 0 0, fm, pack bx]);rw [hm1, if_pos rfl];exact Pick.refl _
  ·rcases List.mem_append.1 hi with h | h
   ·exact hjs i h
   ·rw [List.mem_singleton.1 h]; decide
  ·intro i hi5;have hi : i = 0 ∨ i = 1 ∨ i = 2 ∨ i = 3 ∨ i = 4 := by omega
   rcases hi with rfl | rfl | rfl | rfl | rfl <;> simp [FSt.bit, FSt.nxt]
  ·have h : s.mm = false := h;rw [hm1] at h;cases h
 ·-- a rule is laid
  refine ⟨_, false, s.nxt 13, rfl, rfl, hlst, hmu, yT hpk ?_⟩;rw [hm1, if_pos rfl];have hnj : 2 ∉ js := fun h => by have h2 : s.b2 = true := (hbit 2 (by decide)).1 h; rw [hb] at h2; cases h2
  refine ye (k := fmtKey 2) ms108 (h18 hm1) rfl (hlk 2 hk) .here ?_;rw [ue (by decide) hjs hnj];refine ⟨hok', hsub, .inr ⟨hff, β, bx, mb, js ++ [2], ?_, hwc, hlk, h18, h34, fun i hi => ?_, ur (s := s) hbit ?_, fun h => ?_⟩⟩
  ·show Pick _ ((if s.mm = true then [smap mb (ruM (fmtRu bX β (js ++ [2])))] else []) ++ [rd b A c ws at_ 0 0, fm, pack bx]);rw [hm1, if_pos rfl];exact Pick.refl _
  ·rcases List.mem_append.1 hi with h | h
   ·exact hjs i h
   ·rw [List.mem_singleton.1 h]; decide
  ·intro i hi5;have hi : i = 0 ∨ i = 1 ∨ i = 2 ∨ i = 3 ∨ i = 4 := by omega
   rcases hi with rfl | rfl | rfl | rfl | rfl <;> simp [FSt.bit, FSt.nxt]
  ·have h : s.mm = false := h;rw [hm1] at h;cases h
 ·-- a rule is laid
  refine ⟨_, false, s.nxt 17, rfl, rfl, hlst, hmu, yT hpk ?_⟩;rw [hm1, if_pos rfl];have hnj : 3 ∉ js := fun h => by have h2 : s.b3 = true := (hbit 3 (by decide)).1 h; rw [hb] at h2; cases h2
  refine ye (k := fmtKey 3) ms108 (h18 hm1) rfl (hlk 3 hk) .here ?_;rw [ue (by decide) hjs hnj];refine ⟨hok', hsub, .inr ⟨hff, β, bx, mb, js ++ [3], ?_, hwc, hlk, h18, h34, fun i hi => ?_, ur (s := s) hbit ?_, fun h => ?_⟩⟩
  ·show Pick _ ((if s.mm = true then [smap mb (ruM (fmtRu bX β (js ++ [3])))] else []) ++ [rd b A c ws at_ 0 0, fm, pack bx]);rw [hm1, if_pos rfl];exact Pick.refl _
  ·rcases List.mem_append.1 hi with h | h
   ·exact hjs i h
   ·rw [List.mem_singleton.1 h]; decide
  ·intro i hi5;have hi : i = 0 ∨ i = 1 ∨ i = 2 ∨ i = 3 ∨ i = 4 := by omega
   rcases hi with rfl | rfl | rfl | rfl | rfl <;> simp [FSt.bit, FSt.nxt]
  ·have h : s.mm = false := h;rw [hm1] at h;cases h
 ·-- a rule is laid
  refine ⟨_, false, s.nxt 21, rfl, rfl, hlst, hmu, yT hpk ?_⟩;rw [hm1, if_pos rfl];have hnj : 4 ∉ js := fun h => by have h2 : s.b4 = true := (hbit 4 (by decide)).1 h; rw [hb] at h2; cases h2
  refine ye (k := fmtKey 4) ms108 (h18 hm1) rfl (hlk 4 hk) .here ?_;rw [ue (by decide) hjs hnj];refine ⟨hok', hsub, .inr ⟨hff, β, bx, mb, js ++ [4], ?_, hwc, hlk, h18, h34, fun i hi => ?_, ur (s := s) hbit ?_, fun h => ?_⟩⟩
  ·show Pick _ ((if s.mm = true then [smap mb (ruM (fmtRu bX β (js ++ [4])))] else []) ++ [rd b A c ws at_ 0 0, fm, pack bx]);rw [hm1, if_pos rfl];exact Pick.refl _
  ·rcases List.mem_append.1 hi with h | h
   ·exact hjs i h
   ·rw [List.mem_singleton.1 h]; decide
  ·intro i hi5;have hi : i = 0 ∨ i = 1 ∨ i = 2 ∨ i = 3 ∨ i = 4 := by omega
   rcases hi with rfl | rfl | rfl | rfl | rfl <;> simp [FSt.bit, FSt.nxt]
  ·have h : s.mm = false := h;rw [hm1] at h;cases h
 ·-- the map is handed on
  refine ⟨_, true, s.nxt 22, rfl, rfl, hlst, hmu, yT hpk ?_⟩
  have hmm1 : s.mm = true := by
   unfold FSt.all at hall;simp only [Bool.and_eq_true] at hall;exact (qq hok (i := 0) hall.1.1.1.1).2
  refine yX (fun h _ => (uU (show ev env (.tmp 18) = _ from h18 hmm1)).read) rfl rfl ⟨hok', xz hsub (by decide), .inr ⟨hff, β, bx, mb, js, Pick.refl _, hwc, fun j hj => (wW (by have : s.k ≤ 5 := hkv.1; have : j < s.k := hj; omega)).trans (hlk j hj), fun h => (wW (by decide)).trans (h18 h), fun _ => lk_eq, hjs, hbit, hmm⟩⟩
 ·-- the rules are read
  have hall := hkv.2.1 hmv
  have hall5 : ∀ j, j ∈ js ↔ j < 5 := fun j => by
   refine ⟨hjs j, fun h => (hbit j h).2 ?_⟩;unfold FSt.all at hall;simp only [Bool.and_eq_true] at hall;obtain ⟨⟨⟨⟨h0, h1⟩, h2⟩, h3⟩, h4⟩ := hall
   match j, h with
   | 0, _ => exact h0
   | 1, _ => exact h1
   | 2, _ => exact h2
   | 3, _ => exact h3
   | 4, _ => exact h4
  have hmm1 : s.mm = true := (qq hok ((hbit 0 (by decide)).1 ((hall5 0).2 (by decide)))).2
  have hk5 : s.k = 5 := by
   have := (qq hok ((hbit 4 (by decide)).1 ((hall5 4).2 (by decide)))).1;have := hkv.1;omega
  refine ⟨_, false, s.nxt 23, rfl, rfl, hlst, hmu, yT hpk ?_⟩;rw [hmm1, if_pos rfl];have hKE : ∀ ts', pRules ((fmtRu bX β js).map (·.1)) (fmtRead n0) (fun _ => 0) n0 [] x0 ts' = pRules fmtKeys (fmtRead n0) (fun _ => 0) n0 [] x0 ts' := fun ts' => ql (ZI hall5) n0 [] x0 ts'
  have hFE : ((must sLb ts).bind fun _ ts => pRules ((fmtRu bX β js).map (·.1)) (fmtRead n0) (fun _ => 0) n0 [] x0 ts) = F := by
   rw [← hF]
   congr 1
   funext _ ts'
   exact hKE ts'
  refine zW cl59 (evs2 e17 (h34 hmv)) (.cons .h1 .k1) (fun m' hm he => rules59 (n := n0) (parts := fun _ => 0) (read := fmtRead n0) (I := FmI bF) (keys := fmtRu bX β js) (MapAt.of (he _ (.head _))) fmtCl (fmtRs hjs (hbox.mono hm) (fun j hj => hwc m' (he _ (.tail _ (.head _))) j (by have := hjs j hj; omega)) (hT.mono hm) (hw.mono hm)) FmI.pw hfm (hw.mono hm) hp (by omega) hn) rfl ?_ ?_
  ·rintro _ _ ⟨e', a', h1, rfl⟩;exact hQp _ _ _ _ (hFE.symm.trans h1)
  ·rintro _ _ ⟨x', ts', at', p', e', seen, h1, hp', h200, hx', rfl, rfl⟩;exact ⟨hok', xz hsub (by decide), .inl ⟨rfl, x', ts', at', p', e', seen, hFE.symm.trans h1, hp', h200, hx', .cons .here .p0⟩⟩
end
section
open Wd Tp Kd
variable {m : Mp} {b c at_ d p : Nat} {A : Option Addr} {ws ts : List Wrd}
theorem VAS_lst {P : Program} {n : Nat} {l : List Oper} {k : Nat} {lst lst' : Array Bool} {env : Env} {L : List Ent} {Q : Post} (h : lst = lst') (hv : VAS P n l k lst' env m L Q) : VAS P n l k lst env m L Q := h ▸ hv
theorem format21 {n : Nat} {at0 : Int} (hT : Tabs m) (hw : WsR m A ws) (hp : Pos ws at_ ts) (hn : ts.length < n) : CSP Tryz.prog 21 [ptr b, .int .i64 at0] m [rd b A c ws at_ 0 p]
  (fun v L' => ∃ x ts' at' p' q e, pFmt n at0 ts = .ok x ts' ∧ Pos ws at' ts' ∧ p' ≤ 200 ∧ v = .agg (FmtC.v q x).toArray ∧ L' = [rd b A c ws at' 0 p', e] ∧ FmtOk x ∧ ∀ ns, e.inv ns → RdN ns q.A q.ca x.banned ∧ RdN ns q.B q.cb x.single)
  (fun v _ => ∃ e a, pFmt n at0 ts = .bad e a ∧ v = fltV e a) := by
 generalize hF : pFmt n at0 ts = F;unfold pFmt at hF;have hsm := hp.small;have hlen := hp.len;refine zg [.cell 4 63] Tryz.func21 rfl rfl rfl ?_;refine tr 2 ?_;refine Bx 0 rfl fun b1 => ?_;refine Al 5 zl63 fun b2 => ?_;refine Lb 0 sg54 .h1 ?_;refine Cp cl55 rfl .k2 (fun m' hm he => name55 (hT.mono hm) (hw.mono hm) hp) ?_ ?_
 ·rintro _ _ ⟨e', a', h1, rfl⟩;rw [h1] at hF;exact pn ⟨e', a', hF.symm, rfl⟩
 rintro _ _ ⟨s, ts1, at1, _, h1, hp1, ⟨rfl, rfl⟩, rfl⟩;rw [h1] at hF;dsimp only [R.bind] at hF;have hl1 : 1 + ts1.length ≤ ts.length := (yp (ts := ts)).2 _ _ h1;have hs5 := wl hp h1;clear h1;refine vr 1 ?_;refine Sr 1 co3 .h1 .h6 ?_;refine Sr 16 co9 .h1 .here ?_;refine Lb 2 sg54 .h2 ?_;refine Sr 3 co3 .here .h3 ?_;refine zI .h2 (fun ns hi _ hd => ?_)
 have hbx : Wc (uni m ns) ⟨b1, 0, none⟩ (ptr b) := (Wc.cel (e := 54) hi rfl).mono (zP hd);have hl2 : Le m (uni m ns) := zN _ _;clear hi hd;refine xB [rd b A c ws at1 0 0, pack [cel b2 (FmtC.v ⟨none, 0, none, 0⟩ ⟨s, 0, 0, 0, [], [], at0⟩) 63, pack []]] (.cons .here (Pick.pack2 (.cons .here (Pick.nilE (.nil _))))) ?_;refine W4 mixed ?_
 refine Wy (i := 0) rfl (by kernel_rfl) (fun _ _ _ _ hq => hq) (fun h hs => yM sg54 rfl hbx h hs) rfl rfl rfl ?_;refine xI (i := 2) rfl (by kernel_rfl) (fun _ _ _ _ hq => hq) (uU rfl) rfl rfl rfl ?_;refine xI (i := 3) rfl (by kernel_rfl) (fun _ _ _ _ hq => hq) (xe fo63_1 rfl) rfl rfl rfl ?_
 refine xI (i := 6) rfl (by kernel_rfl) (fun _ _ _ _ hq => hq) (uU rfl) rfl rfl rfl ?_;refine xI (i := 7) rfl (by kernel_rfl) (fun _ _ _ _ hq => hq) (xe fo63_2 rfl) rfl rfl rfl ?_;refine xI (i := 10) rfl (by kernel_rfl) (fun _ _ _ _ hq => hq) (uU rfl) rfl rfl rfl ?_
 refine xI (i := 11) rfl (by kernel_rfl) (fun _ _ _ _ hq => hq) (xe fo63_3 rfl) rfl rfl rfl ?_;refine xI (i := 14) rfl (by kernel_rfl) (fun _ _ _ _ hq => hq) (uU rfl) rfl rfl rfl ?_;refine xI (i := 15) rfl (by kernel_rfl) (fun _ _ _ _ hq => hq) (xe fo63_4 rfl) rfl rfl rfl ?_
 refine xI (i := 18) rfl (by kernel_rfl) (fun _ _ _ _ hq => hq) (uU rfl) rfl rfl rfl ?_;refine xI (i := 19) rfl (by kernel_rfl) (fun _ _ _ _ hq => hq) (xe fo63_5 rfl) rfl rfl rfl ?_;refine VAS_lst (lst' := FSt.lst ⟨false, 0, false, false, false, false, false, false, false⟩) (by kernel_rfl) ?_
 refine fmtRegion (x0 := ⟨s, 0, 0, 0, [], [], at0⟩) (n0 := n) hbx (hT.mono hl2) (hw.mono hl2) hp1 (by omega) ⟨⟨none, 0, none, 0⟩, pack [], rfl, fun ns _ => ⟨RdN.z _, RdN.z _⟩, rfl, ⟨hs5, Nat.zero_le _, fun _ h => (by cases h), Nat.zero_le _, fun _ h => (by cases h)⟩⟩ ?_ ?_ ⟨rfl, rfl, rfl, rfl, rfl, rfl, rfl, rfl, rfl, rfl, rfl, rfl, trivial⟩
 ·intro env L e' a' h1;exact pW hl2 ⟨e', a', hF.symm.trans h1, rfl⟩
 ·rintro env L hsub ⟨x, ts9, at9, p9, e9, seen, h1, hp9, h200, ⟨q, o, rfl, hes, rfl, hok⟩, hpk⟩;refine qt 1 ?_;refine TS_keep [(4, ptr b2)] ⟨hsub.1, trivial⟩ ?_;refine xB _ hpk ?_;refine xB _ Pick.unpack2 ?_;refine tr 2 ?_;refine Lc 0 ag63 .h1 ?_;refine Sg 3 ag63 .h1 ?_
  exact za hl2 [_] ⟨⟨b2, _, _, _, rfl, .h1, .inr ⟨rfl, rfl⟩⟩, trivial⟩ _ (.cons .here .p1) ⟨x, ts9, at9, _, q, o, hF.symm.trans h1, hp9, h200, rfl, rfl, hok, hes⟩
end
namespace Wd
open Go Go.Eng
def elan : List UInt8 := [195, 137, 108, 97, 110, 39]
def w1 : List Wrd := [⟨1, [99, 97, 114, 100], 0, 0⟩, ⟨1, elan, 0, 5⟩, ⟨2, [], 3, 12⟩, ⟨0, [], 0, 17⟩]
end Wd
namespace Wd
open Go Go.Eng
inductive Walk (s : List UInt8) : Nat → List Wrd → Prop
 | stop {p : Nat} (h : ¬ p < s.length) : Walk s p [⟨0, [], 0, s.length⟩]
 | step {p q : Nat} {us ws : List Wrd} (hp : p < s.length) (h : stepR s p = .next q us) (t : Walk s q ws) : Walk s p (us ++ ws)
theorem WY {s : List UInt8} : ∀ {p : Nat} {acc ws : List Wrd}, goR s p acc = .ok ws → ∃ r, ws = acc ++ r ∧ Walk s p r := by
 intro p acc
 fun_induction goR s p acc with
 | case1 => intro ws h; cases h
 | case2 p acc hp q us h hq ih =>
   intro ws hw;obtain ⟨r, h1, h2⟩ := ih hw;exact ⟨us ++ r, by rw [h1, List.append_assoc], .step hp h h2⟩
 | case3 p acc hp q us h hq => exact absurd (xh hp h).1 hq
 | case4 => intro ws h; cases h; exact ⟨_, rfl, .stop ‹_›⟩
inductive OneW (s : List UInt8) (p q : Nat) : List Wrd → Prop
 | none : OneW s p q []
 | name (h : letterP ((rn s p).getD (0, 0)).1 = true) (hq : (nameGo s p 0).1 = q) : OneW s p q [⟨1, seg s p q, 0, p⟩]
 | num (n : Nat) (h : digitP (by_ s p) = true) (hd : digGo s p 0 = (q, n)) (hz : ¬ (by_ s p = 48 ∧ p + 1 < q)) (hn : n ≤ 999) : OneW s p q [⟨2, [], n, p⟩]
 | mark (m : List UInt8) (h : markP (s.drop p) = some m) (hq : q = p + m.length) : OneW s p q [⟨3, m, 0, p⟩]
theorem jb {s : List UInt8} {p q : Nat} {us : List Wrd} (h : stepR s p = .next q us) : OneW s p q us := by
 unfold stepR at h
 split at h
 ·cases h
 ·rename_i x k hr
  split at h
  ·cases h; exact .none
  ·split at h
   ·split at h
    ·cases h
    ·cases h; exact .none
   ·split at h
    ·rename_i hl
     unfold stepN at h
     split at h
     ·cases h
     ·cases h; exact .name (by rw [hr]; exact hl) rfl
    ·split at h
     ·rename_i hd
      have hx := uq hd;have hpos := y5 hr;have hxe : x = by_ s p := by omega
      unfold stepD at h
      split at h
      ·cases h
      ·rename_i hz
       split at h
       ·cases h
       ·cases h; exact .num _ (hxe ▸ hd) rfl hz (by omega)
     ·unfold stepM at h
      split at h
      ·cases h
      ·rename_i m hm
       cases h; exact .mark m hm rfl
theorem Walk.len {s : List UInt8} {p : Nat} {ws : List Wrd} (h : Walk s p ws) : ws.length ≤ s.length - p + 1 := by
 induction h with
 | stop => simp
 | step hp h t ih =>
   have h1 := (xh hp h).1;cases jb h <;> simp <;> omega
theorem qB {s : List UInt8} {ws : List Wrd} (h : cutP s = .ok ws) : s.length ≤ 65536 ∧ Walk s 0 ws := by
 unfold cutP at h
 split at h
 ·cases h
 ·obtain ⟨r, h1, h2⟩ := WY h;exact ⟨by omega, by rw [h1]; exact h2⟩
theorem Wg {s : List UInt8} {ws : List Wrd} (h : cutP s = .ok ws) : ws.length ≤ 65537 := by
 obtain ⟨h1, h2⟩ := qB h;have := h2.len;omega
end Wd
section
open Wd Tp Kd
theorem XF : ∀ t ∈ marks, t.length ≤ 65536 := by decide
theorem XD {s : List UInt8} {p q : Nat} (h : letterP ((rn s p).getD (0, 0)).1 = true) : seg s p q ≠ sOpen := fun he => by
 have h1 : by_ s p = 40 := by
  have h2 : (seg s p q).head? = some 40 := by rw [he]; rfl
  unfold seg at h2;rw [List.head?_take] at h2
  split at h2
  ·cases h2
  ·rw [List.head?_drop] at h2;unfold by_;rw [List.getD_eq_getElem?_getD, h2]
   rfl
 rw [wv (by omega), h1] at h;exact absurd h (by decide)
theorem jZ {s : List UInt8} (hl : s.length ≤ 65536) : ∀ {p : Nat} {ws : List Wrd}, Walk s p ws → GoodT ws
 | _, _, .stop _ => .last rfl
 | _, _, .step hp h t => by
   have ih := jZ hl t;cases jb h with
   | none => exact ih
   | name h1 h2 => exact .cons (show (1 : Int) ≠ 0 by decide) ⟨(by intro h; cases h), fun _ => XD h1⟩ (by show (seg s _ _).length ≤ _; unfold seg; rw [List.length_take, List.length_drop]; omega) ih
   | num n h1 h2 h3 h4 => exact .cons (show (2 : Int) ≠ 0 by decide) ⟨(by intro h; cases h), (by intro h; cases h)⟩ (Nat.zero_le _) ih
   | mark mk h1 h2 => exact .cons (show (3 : Int) ≠ 0 by decide) ⟨fun _ => List.mem_of_find?_eq_some h1, (by intro h; cases h)⟩ (XF _ (List.mem_of_find?_eq_some h1)) ih
theorem cut_pos {s : List UInt8} {ws : List Wrd} (h : cutP s = .ok ws) : Pos ws 0 ws := ⟨rfl, jZ (qB h).1 (qB h).2, Wg h⟩
theorem X7 {s : List UInt8} {p a : Nat} {e : Int} (h : stepR s p = .err e a) : e ≠ 0 := by
 unfold stepR at h
 split at h
 ·cases h; decide
 ·split at h
  ·cases h
  ·split at h
   ·split at h
    ·cases h; decide
    ·cases h
   ·split at h
    ·unfold stepN at h
     split at h
     ·cases h; decide
     ·cases h
    ·split at h
     ·unfold stepD at h
      split at h
      ·cases h; decide
      ·split at h
       ·cases h; decide
       ·cases h
     ·unfold stepM at h
      split at h
      ·cases h; decide
      ·cases h
theorem go_err {s : List UInt8} {a : Nat} {e : Int} : ∀ {p : Nat} {acc : List Wrd}, goR s p acc = .error (e, a) → e ≠ 0 := by
 intro p acc
 fun_induction goR s p acc with
 | case1 p acc hp e' a' h => intro hw; cases hw; exact X7 h
 | case2 p acc hp q us h hq ih => exact ih
 | case3 p acc hp q us h hq => exact absurd (xh hp h).1 hq
 | case4 => intro h; cases h
theorem cut_err {s : List UInt8} {a : Nat} {e : Int} (h : cutP s = .error (e, a)) : e ≠ 0 := by
 unfold cutP at h
 split at h
 ·cases h; decide
 ·exact go_err h
def readP (s : List UInt8) : R BkT := match cutP s with
 | .error (e, a) => .bad e (a : Int)
 | .ok ws => pBook cardWt ws.length (ws.length + 1) [] [] ws
theorem Y1 {m : Mp} {L : List Ent} {b2 b3 : Nat} {x : Fx} {h : Heap} {d : Nat} (hs : HS m L h) :
  CallsD Tryz.prog 17 [ptr b2, ptr b3].toArray .returning (W x h d) fun e u2 w' => e = .returned (.tuple #[]) ∧ u2 = .returning ∧ ∃ h' d' L', w' = W x h' d' ∧ (L' = L) ∧ HS m L' h' := by
 refine Y2 (post := fun _ L' => L' = L) Tryz.func17 rfl rfl rfl rfl .ret ?_ hs;refine vr 5 ?_;refine pe 7 (Zg (by kernel_rfl) rfl) ?_;exact xD [] trivial L (Pick.refl _) rfl
theorem D17_pan {m : Mp} {b2 b3 : Nat} {v1 v2 v3 v4 v : Value} {x : Fx} {h : Heap} {d : Nat} {e a : Int} (hv : v = fltV e a) (hs : HS m [cel b3 [v3, v4] 29, cel b2 [v1, v2] 26] h) :
  CallsD Tryz.prog 17 [ptr b2, ptr b3].toArray (.panicking (pan v)) (W x h d) fun e' u2 w' => e' = .returned (.tuple #[]) ∧ u2 = .panicking [{ v := v, recovered := true }] ∧ ∃ h' d' L', w' = W x h' d' ∧ (L' = [cel b3 [.int .i64 e, .int .i64 a] 29, cel b2 [.slice none 0 0, .slice none 0 0] 26]) ∧ HS m L' h' := by
 subst hv;refine Y2 (post := fun _ L' => L' = [cel b3 [.int .i64 e, .int .i64 a] 29, cel b2 [.slice none 0 0, .slice none 0 0] 26]) Tryz.func17 rfl rfl rfl rfl (.pan _ _) ?_ hs;unfold fltV;refine vr 5 ?_;refine pe 5 (Yy (by kernel_rfl) rfl) ?_;refine pe 7 (qV ni29 us29 rfl) ?_;refine Al 0 zl29 fun b1 => ?_;refine Sg 2 ag29 .here ?_
 refine yA (sT [0] (.fork (sT [201, 302, 303] .done) (sT [302, 101, 303] .done))) mixed (by kernel_rfl) (fun _ _ _ _ hq => hq) ?_;refine Vt 0 rfl (zV zl26 pl26 rfl rfl) ?_;refine wA ?_ ?_;refine xm rfl (yd ag29 rfl .here rfl) rfl rfl rfl ?_;refine zY rfl rfl (zQ ag26 rfl rfl rfl .h2 rfl rfl ?_) rfl
 refine zY rfl rfl (zQ ag29 rfl rfl rfl .h1 rfl rfl ?_) rfl;refine Vm 1 ?_
 ·exact xD [] trivial _ (.cons .h1 .p1) rfl
 ·refine zY rfl rfl (zQ ag26 rfl rfl rfl .h2 rfl rfl ?_) rfl;refine Vu 0 rfl (yd ag29 rfl .here rfl) ?_;refine zY rfl rfl (zQ ag29 rfl rfl rfl .h1 rfl rfl ?_) rfl;refine Vm 1 ?_;exact xD [] trivial _ (.cons .h1 .p1) rfl
end
section
open Wd Tp Kd
def CdsC (m : Mp) (xs : List Value) (l : List CardT) : Prop := xs.length = l.length * 12 ∧ ∀ (i : Nat) (hi : i < l.length), CardQ m ((xs.drop (i * 12)).take 12) l[i]
theorem CdsC.mono {m m' : Mp} {xs : List Value} {l : List CardT} (h : CdsC m xs l) (hl : Le m m') : CdsC m' xs l := ⟨h.1, fun i hi => (h.2 i hi).mono hl⟩
theorem CdsC.snoc {m : Mp} {xs ys : List Value} {l : List CardT} {x : CardT} (h : CdsC m xs l) (hx : CardQ m ys x) (hy : ys.length = 12) : CdsC m (xs ++ ys) (l ++ [x]) := by
 obtain ⟨h1, h2⟩ := h;refine ⟨by rw [List.length_append, List.length_append, h1, hy]; show l.length * 12 + 12 = (l.length + 1) * 12; omega, fun i hi => ?_⟩;have hi2 : i < l.length + 1 := by simpa using hi
 by_cases hlt : i < l.length
 ·rw [List.getElem_append_left hlt, List.drop_append_of_le_length (by omega), List.take_append_of_le_length (by rw [List.length_drop]; omega)];exact h2 i hlt
 ·have : i = l.length := by omega
  subst this;rw [← h1, List.drop_left, ← hy, List.take_length];simp only [List.getElem_concat_length];exact hx
def CardsQ (m : Mp) (A : Option Addr) (l : List CardT) : Prop := ∃ xs, Rd m A xs ∧ CdsC m xs l
theorem CardsQ.mono {m m' : Mp} {A : Option Addr} {l : List CardT} (h : CardsQ m A l) (hl : Le m m') : CardsQ m' A l := by
 obtain ⟨xs, h1, h2⟩ := h;exact ⟨xs, h1.mono hl, h2.mono hl⟩
def FmsC (m : Mp) (xs : List Value) (l : List FmtT) : Prop := xs.length = l.length * 7 ∧ ∀ (i : Nat) (hi : i < l.length), FmtQ m ((xs.drop (i * 7)).take 7) l[i]
theorem FmsC.mono {m m' : Mp} {xs : List Value} {l : List FmtT} (h : FmsC m xs l) (hl : Le m m') : FmsC m' xs l := ⟨h.1, fun i hi => (h.2 i hi).mono hl⟩
theorem FmsC.snoc {m : Mp} {xs ys : List Value} {l : List FmtT} {x : FmtT} (h : FmsC m xs l) (hx : FmtQ m ys x) (hy : ys.length = 7) : FmsC m (xs ++ ys) (l ++ [x]) := by
 obtain ⟨h1, h2⟩ := h;refine ⟨by rw [List.length_append, List.length_append, h1, hy]; show l.length * 7 + 7 = (l.length + 1) * 7; omega, fun i hi => ?_⟩;have hi2 : i < l.length + 1 := by simpa using hi
 by_cases hlt : i < l.length
 ·rw [List.getElem_append_left hlt, List.drop_append_of_le_length (by omega), List.take_append_of_le_length (by rw [List.length_drop]; omega)];exact h2 i hlt
 ·have : i = l.length := by omega
  subst this;rw [← h1, List.drop_left, ← hy, List.take_length];simp only [List.getElem_concat_length];exact hx
def FmtsQ (m : Mp) (A : Option Addr) (l : List FmtT) : Prop := ∃ xs, Rd m A xs ∧ FmsC m xs l
theorem FmtsQ.mono {m m' : Mp} {A : Option Addr} {l : List FmtT} (h : FmtsQ m A l) (hl : Le m m') : FmtsQ m' A l := by
 obtain ⟨xs, h1, h2⟩ := h;exact ⟨xs, h1.mono hl, h2.mono hl⟩
abbrev bkV (K : Option Addr) (k kc : Nat) (F : Option Addr) (f fc : Nat) : Value := .agg [.slice K k kc, .slice F f fc].toArray
def ReadPost (r : R BkT) (v : Value) (L' : List Ent) : Prop :=
 (∃ bk ts K kc F fc e, r = .ok bk ts ∧ v = .tuple [bkV K bk.cards.length kc F bk.fmts.length fc, faultV 0 0].toArray ∧ L' = [e] ∧ bk.cards.length ≤ 240 ∧ bk.fmts.length ≤ 240 ∧ ∀ ns, e.inv ns → CardsQ ns K bk.cards ∧ FmtsQ ns F bk.fmts) ∨
 (∃ e a, r = .bad e a ∧ v = .tuple [bkV none 0 0 none 0 0, faultV e a].toArray ∧ L' = [])
structure BkS where
 n : Nat
 at_ : Nat
 p : Nat
 ts : List Wrd
 cs : List CardT
 fs : List FmtT
 K : Option Addr
 kc : Nat
 xs : List Value
 F : Option Addr
 fc : Nat
 ys : List Value
 e : Ent
abbrev rB (b2 b3 : Nat) : Env := [(2, ptr b2), (3, ptr b3)]
def rGood (b2 b3 : Nat) (s : List UInt8) (env : Env) (L : List Ent) : Prop := Sub (rB b2 b3) env ∧ ∃ bk ts K kc F fc e, readP s = .ok bk ts ∧ L = [cel b3 [.int .i64 0, .int .i64 0] 29, cel b2 [.slice K bk.cards.length kc, .slice F bk.fmts.length fc] 26, e] ∧ bk.cards.length ≤ 240 ∧ bk.fmts.length ≤ 240 ∧ ∀ ns, e.inv ns → CardsQ ns K bk.cards ∧ FmtsQ ns F bk.fmts
def rBad (b2 b3 : Nat) (s : List UInt8) (env : Env) (v : Value) (L : List Ent) : Prop := Sub (rB b2 b3) env ∧ ∃ e a v1 v2 v3 v4, readP s = .bad e a ∧ v = fltV e a ∧ L = [cel b3 [v3, v4] 29, cel b2 [v1, v2] 26]
theorem Yw {m : Mp} (hT : Tabs m) {s : List UInt8} (hs : s.length ≤ 9223372036854775807) : CS Tryz.prog 7 [.string (bs s)] m [] (ReadPost (readP s)) := by
 intro h hs0 x0 d0;refine calls_of_wp_defers Tryz.func7 rfl ?_;refine at_W (x := ⟨x0.tape, x0.os, x0.out, []⟩) (h := h) (d := d0) rfl (fun a hag => ?_) (agD0 (by show 1 ≤ 102; decide))
 refine uW (m := m) (L := []) (K := fun env' L' => ∃ b2 b3, L' = [cel b3 [.int .i64 0, .int .i64 0] 29, cel b2 [.slice none 0 0, .slice none 0 0] 26] ∧ Sub [(0, .string (bs s)), (2, ptr b2), (3, ptr b3)] env') ?_ hs0 hag ?_
 ·refine tr 1 ?_;refine Al 0 zl26 fun b1 => ?_;refine Al 1 zl29 fun b2 => ?_;exact kV _ (Pick.refl _) ⟨b1, b2, rfl, rfl, rfl, rfl, trivial⟩
 rintro env1 _ h1 d1' a1' ⟨b2, b3, rfl, hsub⟩ hs1 hag1;have hag1 := hag1.sub hsub;cases hcut : cutP s with
 | error er =>
   obtain ⟨e, a⟩ := er;have he0 := cut_err hcut;have hrp : readP s = .bad e (a : Int) := by rw [readP, hcut]
   refine X1 (x := ⟨x0.tape, x0.os, x0.out, []⟩) (Qr := endQ m (fun env L' => Sub (rB b2 b3) env ∧ L' = [cel b3 [.int .i64 e, .int .i64 (a : Nat)] 29, cel b2 [.slice none 0 0, .slice none 0 0] 26]) (fun _ _ _ => False)) ?_ hs1 hag1 ?_
   ·refine tr 3 ?_;refine zC ((wB cl16 rfl (fun m' hm he => VC (hT.mono hm) hs) rfl ?_)) rfl;rintro _ _ hc;rw [hcut] at hc;obtain ⟨rfl, rfl⟩ := hc;unfold faultV;refine vr 4 ?_;refine Sg 6 ag29 .here ?_;refine Lb 0 sg27 .here ?_;refine cta 4 ?_;refine yA (sT [0] (.fork (sT [201, 302, 303] .done) (sT [302, 101, 303] .done))) mixed (by kernel_rfl) (fun _ _ _ _ hq => hq) ?_
    refine Vt 0 rfl (zV zl26 pl26 rfl rfl) ?_;refine wA ?_ ?_;refine xm rfl (yd ag29 rfl .here rfl) rfl rfl rfl ?_;refine zY rfl rfl (zQ ag26 rfl rfl rfl .h1 rfl rfl ?_) rfl;refine zY rfl rfl (zQ ag29 rfl rfl rfl .here rfl rfl ?_) rfl;refine Vm 3 ?_
    ·exact kW (Le.refl _) [_, _] (Pick.refl _) ⟨⟨rfl, rfl, trivial⟩, rfl⟩
    ·refine zY rfl rfl (zQ ag26 rfl rfl rfl .h1 rfl rfl ?_) rfl;refine Vu 0 rfl (yd ag29 rfl .here rfl) ?_;refine zY rfl rfl (zQ ag29 rfl rfl rfl .here rfl rfl ?_) rfl;refine Vm 3 ?_;exact kW (Le.refl _) [_, _] (Pick.refl _) ⟨⟨rfl, rfl, trivial⟩, rfl⟩
   ·rintro e1 env' h' d' a' hq hag';have hdf : a'.defers = [] := hag'.defers
    have good : ∀ L', (Sub (rB b2 b3) env' ∧ L' = [cel b3 [.int .i64 e, .int .i64 (a : Nat)] 29, cel b2 [.slice none 0 0, .slice none 0 0] 26]) → HS m L' h' → Leaves Tryz.prog Tryz.f7 a'.tmps (fun e w' => ∃ v h' d', e = Ending.returned v ∧ w' = W x0 h' d' ∧ postS m (ReadPost (readP s)) v h') [] .returning (W ⟨x0.tape, x0.os, x0.out, []⟩ h' d') := by
     rintro L' ⟨hsub, rfl⟩ hh;exact ⟨_, RvsOk.results (rs := [.cell 2 26, .cell 3 29]) rfl hag'.toAg (RvsS.ok hh (vs := [_, _]) ⟨⟨_, _, _, _, hsub.1, .h1, .inr ⟨ag26, rfl⟩⟩, ⟨_, _, _, _, hsub.2.1, .here, .inr ⟨ag29, rfl⟩⟩, trivial⟩), _, h', d', rfl, rfl, _, .inr ⟨e, a, hrp, rfl, rfl⟩, hh.tail.tail⟩
    cases e1 with
    | normal =>
      obtain ⟨L', hp, hh⟩ := hq;show Leaves _ _ _ _ a'.defers _ _;rw [hdf];exact good _ hp hh
    | ret =>
      obtain ⟨L', hp, hh⟩ := hq;show Leaves _ _ _ _ a'.defers _ _;rw [hdf];exact good _ hp hh
    | panic c => obtain ⟨v, L', _, hf, _⟩ := hq; exact hf.elim
    | exit i => exact hq.elim
    | goto i => exact hq.elim
    | outgrown => exact hq.elim
 | ok ws =>
   have hrp : readP s = pBook cardWt ws.length (ws.length + 1) [] [] ws := by rw [readP, hcut]
   have hpos := cut_pos hcut;refine uW (m := m) (K := fun env' L' => ∃ A c, L' = [cel b3 [.int .i64 0, .int .i64 0] 29, cel b2 [.slice none 0 0, .slice none 0 0] 26, own 58 4 A ws.length c (wsV ws)] ∧ Sub [(2, ptr b2), (3, ptr b3), (4, .slice A ws.length c)] env') ?_ hs1 hag1 ?_
   ·refine tr 2 ?_;refine zC ((wB cl16 rfl (fun m' hm he => VC (hT.mono hm) hs) rfl ?_)) rfl;rintro _ _ hc;rw [hcut] at hc;obtain ⟨A, c, rfl, rfl⟩ := hc;unfold faultV;refine vr 4 ?_;refine Sg 1 ag29 .h1 ?_;exact kV _ (.cons .h1 (.cons .h1 .p0)) ⟨A, c, rfl, rfl, rfl, rfl, trivial⟩
   rintro env2 _ h2 d2' a2' ⟨A, c, rfl, hsub2⟩ hs2 hag2;have hag2 := hag2.sub hsub2;refine uW (m := m) (K := fun env' L' => L' = [cel b3 [.int .i64 0, .int .i64 0] 29, cel b2 [.slice none 0 0, .slice none 0 0] 26, own 58 4 A ws.length c (wsV ws)] ∧ Sub [(2, ptr b2), (3, ptr b3), (4, .slice A ws.length c)] env') ?_ hs2 hag2 ?_
   ·refine tr 3 ?_;refine Lb 0 sg27 .here ?_;refine cfo 4 ?_;exact kV _ (Pick.refl _) ⟨rfl, rfl, rfl, rfl, trivial⟩
   rintro env3 _ h3 d3' a3' ⟨rfl, hsub3⟩ hs3 hag3;have hag3 := hag3.sub hsub3;refine wp_seq ?_;refine kf rfl rfl hag3 fun a5' hag5 => ?_;refine X1 (x := ⟨x0.tape, x0.os, x0.out, [dfr (.func 17) [ptr b2, ptr b3]]⟩) (Qr := endQ m (rGood b2 b3 s) (rBad b2 b3 s)) ?_ hs3 hag5 ?_
   ·refine zI .h2 (fun ns hi _ hd => ?_);have hw : WsR (uni m ns) A ws := (Eng.Own.rd hi).mono (zP hd);have hcap : ws.length ≤ c := Eng.Own.le hi;have hl2 : Le m (uni m ns) := zN _ _;have hT := hT.mono hl2;clear hi hd
    have hQk : ∀ {d : Nat} {c : _} {env : Env} {h : Heap}, Nat.blt 3 d = true → endQ m (rGood b2 b3 s) (rBad b2 b3 s) (.panic c) env h → endQ m (rGood b2 b3 s) (rBad b2 b3 s) (.panic c) (dropE d env) h := fun {d c env h} hd ⟨v, L', e, ⟨hsub, r⟩, hh⟩ => by
     rw [Nat.blt_eq] at hd;exact ⟨v, L', e, ⟨⟨(ui (by omega)).trans hsub.1, (ui (by omega)).trans hsub.2.1, trivial⟩, r⟩, hh⟩
    refine tr 3 ?_;refine pe 0 (zV zl56 pl56 rfl rfl) ?_;refine Bx 5 rfl fun b1 => ?_;refine xC 40 12 ?_;refine xC 63 7 ?_
    refine zu (α := BkS) (fun y => [(2, ptr b2), (3, ptr b3), (5, ptr b1)]) (fun y => [rd b1 A c ws y.at_ 0 y.p, cel b2 [.slice y.K y.cs.length y.kc, .slice y.F y.fs.length y.fc] 26, cel b3 [.int .i64 0, .int .i64 0] 29, own 40 12 y.K y.cs.length y.kc y.xs, own 63 7 y.F y.fs.length y.fc y.ys, y.e])
     (fun y => pBook cardWt ws.length y.n y.cs y.fs y.ts = readP s ∧ Pos ws y.at_ y.ts ∧ y.ts.length < y.n ∧ y.cs.length ≤ 240 ∧ y.fs.length ≤ 240 ∧ ∀ ns, y.e.inv ns → CdsC ns y.xs y.cs ∧ FmsC ns y.ys y.fs) (fun y => y.n)
     ⟨ws.length + 1, 0, 0, ws, [], [], none, 0, [], none, 0, [], pack []⟩ ⟨rfl, rfl, rfl, trivial⟩ (.cons .h2 (.cons .h3 (.cons .h2 (.cons .h1 (.cons .here (Pick.nilE (.nil _))))))) ⟨hrp.symm, hpos, Nat.lt_succ_self _, Nat.zero_le _, Nat.zero_le _, fun ns _ => ⟨⟨rfl, fun i h => by cases h⟩, ⟨rfl, fun i h => by cases h⟩⟩⟩ ?_
    rintro ⟨j, at_, p, ts, cs, fs, K, kc, xs, F, fc, ys, e⟩ ⟨hF, hp, hj, hcs, hfs, he⟩;dsimp only at hF hp hj hcs hfs he;dsimp only;obtain ⟨j, rfl⟩ : ∃ j', j = j' + 1 := ⟨j - 1, by omega⟩;unfold pBook at hF;have hat := hp.word hw;have hA := hp.isSome hw;have hlt := hp.lt;have hsm := hp.small;have hlen := hp.len;by_cases h0 : (hd ts).kind = 0
    ·rw [if_pos h0] at hF;refine tr 2 ?_;refine ww (.step 0 .pure (.step 1 .pure (.step 2 .pure (.step 4 .pure (.step 5 .pure (.step 6 .pure (.step 3 .read (.step 7 .read (.step 8 .pure (.step 9 .pure (.step 10 .read (.step 11 .pure (.done))))))))))))) mixed (by kernel_rfl) 3 (by kernel_rfl) (fun _ _ _ _ hd hq => hQk hd hq) ?_;refine vt 6 ?_;refine Vl 0 rfl sg51 .here ?_
     refine Vl 0 rfl sg3 .here ?_;refine Vt 1 rfl (zM ez51 rfl rfl hA (by omega)) ?_;refine Vu 0 rfl (zG sg42 rfl (hat.at_ rfl)) ?_;refine Vt 0 rfl (df (jR rfl rfl) (by omega)) ?_;refine Vm 4 ?_;refine zE ?_;refine zD ?_;refine qt 3 ?_;refine Lc 0 ag26 .h1 ?_;refine pe 0 (zV zl29 pl29 rfl rfl) ?_;refine Sg 0 ag26 .h1 ?_;refine Sg 3 ag29 .h2 ?_
     exact kW hl2 [_, _, _] (.cons .h2 (.cons .h1 (Pick.pack3 (.cons .h1 (.cons .h1 .p1))))) ⟨⟨rfl, rfl, trivial⟩, ⟨cs, fs⟩, ts, K, kc, F, fc, pack [own 40 12 K cs.length kc xs, own 63 7 F fs.length fc ys, e], hF.symm, rfl, hcs, hfs, fun ns h => ⟨⟨xs, Eng.Own.rd (h.1 _ (.head _)), (he ns (h.1 _ (.tail _ (.tail _ (.head _))))).1⟩, ⟨ys, Eng.Own.rd (h.1 _ (.tail _ (.head _))), (he ns (h.1 _ (.tail _ (.tail _ (.head _))))).2⟩⟩⟩
    rw [if_neg h0] at hF;refine tr 2 ?_;refine ww (.step 0 .pure (.step 1 .pure (.step 2 .pure (.step 4 .pure (.step 5 .pure (.step 6 .pure (.step 3 .read (.step 7 .read (.step 8 .pure (.step 9 .pure (.step 10 .read (.step 11 .pure (.done))))))))))))) mixed (by kernel_rfl) 3 (by kernel_rfl) (fun _ _ _ _ hd hq => hQk hd hq) ?_;refine vt 6 ?_;refine Vl 0 rfl sg51 .here ?_
    refine Vl 0 rfl sg3 .here ?_;refine Vt 1 rfl (zM ez51 rfl rfl hA (by omega)) ?_;refine Vu 0 rfl (zG sg42 rfl (hat.at_ rfl)) ?_;refine Vt 0 rfl (dt (jR rfl rfl) (by assumption)) ?_;refine Vm 6 ?_
    refine ww (.step 0 .pure (.step 1 .pure (.step 2 .pure (.step 4 .pure (.step 5 .pure (.step 6 .pure (.step 3 .read (.step 7 .read (.step 8 .pure (.step 9 .pure (.step 10 .read (.step 11 .pure (.done))))))))))))) mixed (by kernel_rfl) 3 (by kernel_rfl) (fun _ _ _ _ hd hq => hQk hd hq) ?_;refine vt 6 ?_;refine Vl 0 rfl sg51 .here ?_;refine Vl 0 rfl sg3 .here ?_
    refine Vt 1 rfl (zM ez51 rfl rfl hA (by omega)) ?_;refine Vu 1 rfl (zG sg3 rfl (hat.at_ rfl)) ?_;refine Vm 5 ?_;refine C1 cl18 rfl .here (fun m' hm he => is18 (s := sCard) (hw.mono hm) hp (asc _ rfl) (by decide)) ?_;rintro _ _ ⟨rfl, rfl⟩;cases hkc : isW sCard ts with
    | true =>
      by_cases hf0 : fs.length = 0
      ·rw [if_pos ⟨hkc, hf0⟩] at hF;have hnx := hp.isW hkc
       have htl : ts.tail.length + 1 = ts.length := by
        have := hnx.len;omega
       by_cases h240 : cs.length = 240
       ·rw [if_pos h240] at hF;refine vr 2 ?_;refine Lb 1 sg24 .h1 ?_;refine cto 9 ?_;refine Lb 1 sg23 .h1 ?_;refine cto 5 ?_;refine Cp cl19 rfl .k0 (fun m' hm he => bad19 3 (hw.mono hm) hp) ?_ ?_
        ·rintro _ _ rfl;refine zX ?_;refine zK ?_;refine zX ?_;exact xL hl2 [_, _] (Pick.app (.cons .h1 .p0)) ⟨⟨rfl, rfl, trivial⟩, 3, _, _, _, _, _, hF.symm, rfl, rfl⟩
        ·rintro _ _ h;exact h.elim
       rw [if_neg h240] at hF;skip;refine vr 2 ?_;refine Lb 1 sg24 .h1 ?_;refine cto 9 ?_;refine Lb 1 sg23 .h1 ?_;refine cfo 10 ?_;refine Lb 0 sg3 .here ?_;refine Pa 2 ?_;refine Sr 2 co3 .here .h1 ?_
       refine ww (.step 0 .pure (.step 2 .pure (.step 3 .pure (.fork (.step 1 .kept (.step 4 .wild (.step 5 .kept (.step 6 .wild (.step 7 .pure (.step 8 .wild (.done))))))) (.step 4 .wild (.step 1 .read (.step 5 .kept (.step 6 .wild (.step 7 .pure (.step 8 .wild (.done))))))))))) mixed (by kernel_rfl) 3 (by kernel_rfl) (fun _ _ _ _ hd hq => hQk hd hq) ?_;refine vt 3 ?_;refine wA ?_ ?_
       refine xm rfl (zf sg23 rfl .h1 rfl) rfl rfl rfl ?_
       ·refine zY rfl rfl (zW cl20 rfl .k0 (fun m' hm he => card20 (n := ws.length) (hT.mono hm) (hw.mono hm) hcap hnx (by omega)) rfl ?_ ?_) rfl
        ·rintro _ _ ⟨e', a', h1, rfl⟩;rw [h1] at hF;refine zX ?_;refine zK ?_;refine zX ?_;exact xL hl2 [_, _] (Pick.app (.cons .h1 .p0)) ⟨⟨rfl, rfl, trivial⟩, e', a', _, _, _, _, hF.symm, rfl, rfl⟩
        rintro _ _ ⟨x, ts2, at2, p2, q, ek, h1, hp2, h200, rfl, rfl, hnm, hwt, hk⟩;rw [h1] at hF;dsimp only [R.bind] at hF;have hlx := (jl (parts := cardWt) (n := ws.length) (at_ := (hd ts).at_) (ts := ts.tail) (by omega)).2 _ _ h1;clear h1;have e1 : cs.length + 1 = (cs ++ [x]).length := by simp
        refine z6 rfl (zR sl23 rfl rfl rfl rfl (fun b4 => ?_)) rfl;refine zY rfl rfl (yf sl23 rfl rfl rfl rfl .here (fun _ _ => .h5) rfl rfl (by first | omega | (simp only [maxLen]; omega)) (by omega) rfl (fun A1 c1 => ?_)) rfl;refine vt 1 ?_;refine zY rfl rfl (yH co23 rfl rfl rfl .h3 .here ?_) rfl;refine Vm 2 ?_;rw [e1]
        exact QR (⟨j, at2, p2, ts2, cs ++ [x], fs, A1, c1, xs ++ q.v x, F, fc, ys, pack [ek, e]⟩ : BkS) (.cons .h1 (.cons .h2 (.cons .h2 (.cons .h2 (.cons .h2 (Pick.pack2 (.cons .h1 .p1)))))))
         ⟨hF, hp2, by show ts2.length < j; omega, by show (cs ++ [x]).length ≤ 240; rw [← e1]; omega, hfs, fun ns h => ⟨(he ns (h.1 _ (.tail _ (.head _)))).1.snoc ⟨q, rfl, hnm, hk ns (h.1 _ (.head _))⟩ rfl, (he ns (h.1 _ (.tail _ (.head _)))).2⟩⟩ (Nat.lt_succ_self _)
       ·skip;refine zY rfl rfl (zW cl20 rfl .k0 (fun m' hm he => card20 (n := ws.length) (hT.mono hm) (hw.mono hm) hcap hnx (by omega)) rfl ?_ ?_) rfl
        ·rintro _ _ ⟨e', a', h1, rfl⟩;rw [h1] at hF;refine zX ?_;refine zK ?_;refine zX ?_;exact xL hl2 [_, _] (Pick.app (.cons .h1 .p0)) ⟨⟨rfl, rfl, trivial⟩, e', a', _, _, _, _, hF.symm, rfl, rfl⟩
        rintro _ _ ⟨x, ts2, at2, p2, q, ek, h1, hp2, h200, rfl, rfl, hnm, hwt, hk⟩;rw [h1] at hF;dsimp only [R.bind] at hF;have hlx := (jl (parts := cardWt) (n := ws.length) (at_ := (hd ts).at_) (ts := ts.tail) (by omega)).2 _ _ h1;clear h1;have e1 : cs.length + 1 = (cs ++ [x]).length := by simp
        refine Vl 0 rfl sg23 .h2 ?_;refine z6 rfl (zR sl23 rfl rfl rfl rfl (fun b4 => ?_)) rfl;refine zY rfl rfl (yf sl23 rfl rfl rfl rfl .here (fun _ _ => .h5) rfl rfl (by first | omega | (simp only [maxLen]; omega)) (by omega) rfl (fun A1 c1 => ?_)) rfl;refine vt 1 ?_;refine zY rfl rfl (yH co23 rfl rfl rfl .h3 .here ?_) rfl;refine Vm 2 ?_;rw [e1]
        exact QR (⟨j, at2, p2, ts2, cs ++ [x], fs, A1, c1, xs ++ q.v x, F, fc, ys, pack [ek, e]⟩ : BkS) (.cons .h1 (.cons .h2 (.cons .h2 (.cons .h2 (.cons .h2 (Pick.pack2 (.cons .h1 .p1)))))))
         ⟨hF, hp2, by show ts2.length < j; omega, by show (cs ++ [x]).length ≤ 240; rw [← e1]; omega, hfs, fun ns h => ⟨(he ns (h.1 _ (.tail _ (.head _)))).1.snoc ⟨q, rfl, hnm, hk ns (h.1 _ (.head _))⟩ rfl, (he ns (h.1 _ (.tail _ (.head _)))).2⟩⟩ (Nat.lt_succ_self _)
      rw [if_neg (fun h => hf0 h.2)] at hF;refine vr 2 ?_;refine Lb 1 sg24 .h1 ?_;refine cfo 8 ?_;refine C1 cl18 rfl .here (fun m' hm he => is18 (s := sFormat) (hw.mono hm) hp (asc _ rfl) (by decide)) ?_;rintro _ _ ⟨rfl, rfl⟩;cases hkf : isW sFormat ts with
      | true =>
        rw [if_pos hkf] at hF;have hnx := hp.isW hkf
        have htl : ts.tail.length + 1 = ts.length := by
         have := hnx.len;omega
        by_cases h240 : fs.length = 240
        ·rw [if_pos h240] at hF;refine vr 8 ?_;refine Lb 1 sg24 .h1 ?_;refine cto 5 ?_;refine Cp cl19 rfl .k0 (fun m' hm he => bad19 3 (hw.mono hm) hp) ?_ ?_
         ·rintro _ _ rfl;refine zX ?_;refine zK ?_;refine zX ?_;exact xL hl2 [_, _] (Pick.app (.cons .h1 .p0)) ⟨⟨rfl, rfl, trivial⟩, 3, _, _, _, _, _, hF.symm, rfl, rfl⟩
         ·rintro _ _ h;exact h.elim
        rw [if_neg h240] at hF;skip;refine vr 8 ?_;refine Lb 1 sg24 .h1 ?_;refine cfo 10 ?_;refine Lb 0 sg3 .here ?_;refine Pa 2 ?_;refine Sr 2 co3 .here .h1 ?_
        refine ww (.step 0 .pure (.step 2 .pure (.step 3 .pure (.fork (.step 1 .kept (.step 4 .wild (.step 5 .kept (.step 6 .wild (.step 7 .pure (.step 8 .wild (.done))))))) (.step 4 .wild (.step 1 .read (.step 5 .kept (.step 6 .wild (.step 7 .pure (.step 8 .wild (.done))))))))))) mixed (by kernel_rfl) 3 (by kernel_rfl) (fun _ _ _ _ hd hq => hQk hd hq) ?_;refine vt 3 ?_;refine wA ?_ ?_
        refine xm rfl (zf sg24 rfl .h1 rfl) rfl rfl rfl ?_
        ·refine zY rfl rfl (zW cl21 rfl .k0 (fun m' hm he => format21 (n := ws.length) (hT.mono hm) (hw.mono hm) hnx (by omega)) rfl ?_ ?_) rfl
         ·rintro _ _ ⟨e', a', h1, rfl⟩;rw [h1] at hF;refine zX ?_;refine zK ?_;refine zX ?_;exact xL hl2 [_, _] (Pick.app (.cons .h1 .p0)) ⟨⟨rfl, rfl, trivial⟩, e', a', _, _, _, _, hF.symm, rfl, rfl⟩
         rintro _ _ ⟨x, ts2, at2, p2, q, ek, h1, hp2, h200, rfl, rfl, hok, hk⟩;rw [h1] at hF;dsimp only [R.bind] at hF;have hlx := (un (n := ws.length) (at_ := (hd ts).at_) (ts := ts.tail) (by omega)).2 _ _ h1;clear h1;have e1 : fs.length + 1 = (fs ++ [x]).length := by simp
         refine z6 rfl (zR sl24 rfl rfl rfl rfl (fun b4 => ?_)) rfl;refine zY rfl rfl (yf sl24 rfl rfl rfl rfl .here (fun _ _ => .h6) rfl rfl (by first | omega | (simp only [maxLen]; omega)) (by omega) rfl (fun A1 c1 => ?_)) rfl;refine vt 1 ?_;refine zY rfl rfl (yH co24 rfl rfl rfl .h3 .h1 ?_) rfl;refine Vm 2 ?_;rw [e1]
         exact QR (⟨j, at2, p2, ts2, cs, fs ++ [x], K, kc, xs, A1, c1, ys ++ q.v x, pack [ek, e]⟩ : BkS) (.cons .h1 (.cons .h2 (.cons .h2 (.cons .h2 (.cons .h2 (Pick.pack2 (.cons .h1 .p1)))))))
          ⟨hF, hp2, by show ts2.length < j; omega, hcs, by show (fs ++ [x]).length ≤ 240; rw [← e1]; omega, fun ns h => ⟨(he ns (h.1 _ (.tail _ (.head _)))).1, (he ns (h.1 _ (.tail _ (.head _)))).2.snoc ⟨q, rfl, hok, hk ns (h.1 _ (.head _))⟩ rfl⟩⟩ (Nat.lt_succ_self _)
        ·skip;refine zY rfl rfl (zW cl21 rfl .k0 (fun m' hm he => format21 (n := ws.length) (hT.mono hm) (hw.mono hm) hnx (by omega)) rfl ?_ ?_) rfl
         ·rintro _ _ ⟨e', a', h1, rfl⟩;rw [h1] at hF;refine zX ?_;refine zK ?_;refine zX ?_;exact xL hl2 [_, _] (Pick.app (.cons .h1 .p0)) ⟨⟨rfl, rfl, trivial⟩, e', a', _, _, _, _, hF.symm, rfl, rfl⟩
         rintro _ _ ⟨x, ts2, at2, p2, q, ek, h1, hp2, h200, rfl, rfl, hok, hk⟩;rw [h1] at hF;dsimp only [R.bind] at hF;have hlx := (un (n := ws.length) (at_ := (hd ts).at_) (ts := ts.tail) (by omega)).2 _ _ h1;clear h1;have e1 : fs.length + 1 = (fs ++ [x]).length := by simp
         refine Vl 0 rfl sg24 .h2 ?_;refine z6 rfl (zR sl24 rfl rfl rfl rfl (fun b4 => ?_)) rfl;refine zY rfl rfl (yf sl24 rfl rfl rfl rfl .here (fun _ _ => .h6) rfl rfl (by first | omega | (simp only [maxLen]; omega)) (by omega) rfl (fun A1 c1 => ?_)) rfl;refine vt 1 ?_;refine zY rfl rfl (yH co24 rfl rfl rfl .h3 .h1 ?_) rfl;refine Vm 2 ?_;rw [e1]
         exact QR (⟨j, at2, p2, ts2, cs, fs ++ [x], K, kc, xs, A1, c1, ys ++ q.v x, pack [ek, e]⟩ : BkS) (.cons .h1 (.cons .h2 (.cons .h2 (.cons .h2 (.cons .h2 (Pick.pack2 (.cons .h1 .p1)))))))
          ⟨hF, hp2, by show ts2.length < j; omega, hcs, by show (fs ++ [x]).length ≤ 240; rw [← e1]; omega, fun ns h => ⟨(he ns (h.1 _ (.tail _ (.head _)))).1, (he ns (h.1 _ (.tail _ (.head _)))).2.snoc ⟨q, rfl, hok, hk ns (h.1 _ (.head _))⟩ rfl⟩⟩ (Nat.lt_succ_self _)
      | false =>
        rw [if_neg (by rw [hkf]; decide)] at hF;refine vr 6 ?_;refine Cp cl19 rfl .k0 (fun m' hm he => bad19 120 (hw.mono hm) hp) ?_ ?_
        ·rintro _ _ rfl;refine zX ?_;refine zK ?_;refine zX ?_;exact xL hl2 [_, _] (Pick.app (.cons .h1 .p0)) ⟨⟨rfl, rfl, trivial⟩, 120, _, _, _, _, _, hF.symm, rfl, rfl⟩
        ·rintro _ _ h;exact h.elim
    | false =>
      rw [if_neg (fun h => by rw [hkc] at h; cases h.1)] at hF;refine vr 13 ?_;refine C1 cl18 rfl .here (fun m' hm he => is18 (s := sFormat) (hw.mono hm) hp (asc _ rfl) (by decide)) ?_;rintro _ _ ⟨rfl, rfl⟩;cases hkf : isW sFormat ts with
      | true =>
        rw [if_pos hkf] at hF;have hnx := hp.isW hkf
        have htl : ts.tail.length + 1 = ts.length := by
         have := hnx.len;omega
        by_cases h240 : fs.length = 240
        ·rw [if_pos h240] at hF;refine vr 8 ?_;refine Lb 1 sg24 .h1 ?_;refine cto 5 ?_;refine Cp cl19 rfl .k0 (fun m' hm he => bad19 3 (hw.mono hm) hp) ?_ ?_
         ·rintro _ _ rfl;refine zX ?_;refine zK ?_;refine zX ?_;exact xL hl2 [_, _] (Pick.app (.cons .h1 .p0)) ⟨⟨rfl, rfl, trivial⟩, 3, _, _, _, _, _, hF.symm, rfl, rfl⟩
         ·rintro _ _ h;exact h.elim
        rw [if_neg h240] at hF;skip;refine vr 8 ?_;refine Lb 1 sg24 .h1 ?_;refine cfo 10 ?_;refine Lb 0 sg3 .here ?_;refine Pa 2 ?_;refine Sr 2 co3 .here .h1 ?_
        refine ww (.step 0 .pure (.step 2 .pure (.step 3 .pure (.fork (.step 1 .kept (.step 4 .wild (.step 5 .kept (.step 6 .wild (.step 7 .pure (.step 8 .wild (.done))))))) (.step 4 .wild (.step 1 .read (.step 5 .kept (.step 6 .wild (.step 7 .pure (.step 8 .wild (.done))))))))))) mixed (by kernel_rfl) 3 (by kernel_rfl) (fun _ _ _ _ hd hq => hQk hd hq) ?_;refine vt 3 ?_;refine wA ?_ ?_
        refine xm rfl (zf sg24 rfl .h1 rfl) rfl rfl rfl ?_
        ·refine zY rfl rfl (zW cl21 rfl .k0 (fun m' hm he => format21 (n := ws.length) (hT.mono hm) (hw.mono hm) hnx (by omega)) rfl ?_ ?_) rfl
         ·rintro _ _ ⟨e', a', h1, rfl⟩;rw [h1] at hF;refine zX ?_;refine zK ?_;refine zX ?_;exact xL hl2 [_, _] (Pick.app (.cons .h1 .p0)) ⟨⟨rfl, rfl, trivial⟩, e', a', _, _, _, _, hF.symm, rfl, rfl⟩
         rintro _ _ ⟨x, ts2, at2, p2, q, ek, h1, hp2, h200, rfl, rfl, hok, hk⟩;rw [h1] at hF;dsimp only [R.bind] at hF;have hlx := (un (n := ws.length) (at_ := (hd ts).at_) (ts := ts.tail) (by omega)).2 _ _ h1;clear h1;have e1 : fs.length + 1 = (fs ++ [x]).length := by simp
         refine z6 rfl (zR sl24 rfl rfl rfl rfl (fun b4 => ?_)) rfl;refine zY rfl rfl (yf sl24 rfl rfl rfl rfl .here (fun _ _ => .h6) rfl rfl (by first | omega | (simp only [maxLen]; omega)) (by omega) rfl (fun A1 c1 => ?_)) rfl;refine vt 1 ?_;refine zY rfl rfl (yH co24 rfl rfl rfl .h3 .h1 ?_) rfl;refine Vm 2 ?_;rw [e1]
         exact QR (⟨j, at2, p2, ts2, cs, fs ++ [x], K, kc, xs, A1, c1, ys ++ q.v x, pack [ek, e]⟩ : BkS) (.cons .h1 (.cons .h2 (.cons .h2 (.cons .h2 (.cons .h2 (Pick.pack2 (.cons .h1 .p1)))))))
          ⟨hF, hp2, by show ts2.length < j; omega, hcs, by show (fs ++ [x]).length ≤ 240; rw [← e1]; omega, fun ns h => ⟨(he ns (h.1 _ (.tail _ (.head _)))).1, (he ns (h.1 _ (.tail _ (.head _)))).2.snoc ⟨q, rfl, hok, hk ns (h.1 _ (.head _))⟩ rfl⟩⟩ (Nat.lt_succ_self _)
        ·skip;refine zY rfl rfl (zW cl21 rfl .k0 (fun m' hm he => format21 (n := ws.length) (hT.mono hm) (hw.mono hm) hnx (by omega)) rfl ?_ ?_) rfl
         ·rintro _ _ ⟨e', a', h1, rfl⟩;rw [h1] at hF;refine zX ?_;refine zK ?_;refine zX ?_;exact xL hl2 [_, _] (Pick.app (.cons .h1 .p0)) ⟨⟨rfl, rfl, trivial⟩, e', a', _, _, _, _, hF.symm, rfl, rfl⟩
         rintro _ _ ⟨x, ts2, at2, p2, q, ek, h1, hp2, h200, rfl, rfl, hok, hk⟩;rw [h1] at hF;dsimp only [R.bind] at hF;have hlx := (un (n := ws.length) (at_ := (hd ts).at_) (ts := ts.tail) (by omega)).2 _ _ h1;clear h1;have e1 : fs.length + 1 = (fs ++ [x]).length := by simp
         refine Vl 0 rfl sg24 .h2 ?_;refine z6 rfl (zR sl24 rfl rfl rfl rfl (fun b4 => ?_)) rfl;refine zY rfl rfl (yf sl24 rfl rfl rfl rfl .here (fun _ _ => .h6) rfl rfl (by first | omega | (simp only [maxLen]; omega)) (by omega) rfl (fun A1 c1 => ?_)) rfl;refine vt 1 ?_;refine zY rfl rfl (yH co24 rfl rfl rfl .h3 .h1 ?_) rfl;refine Vm 2 ?_;rw [e1]
         exact QR (⟨j, at2, p2, ts2, cs, fs ++ [x], K, kc, xs, A1, c1, ys ++ q.v x, pack [ek, e]⟩ : BkS) (.cons .h1 (.cons .h2 (.cons .h2 (.cons .h2 (.cons .h2 (Pick.pack2 (.cons .h1 .p1)))))))
          ⟨hF, hp2, by show ts2.length < j; omega, hcs, by show (fs ++ [x]).length ≤ 240; rw [← e1]; omega, fun ns h => ⟨(he ns (h.1 _ (.tail _ (.head _)))).1, (he ns (h.1 _ (.tail _ (.head _)))).2.snoc ⟨q, rfl, hok, hk ns (h.1 _ (.head _))⟩ rfl⟩⟩ (Nat.lt_succ_self _)
      | false =>
        rw [if_neg (by rw [hkf]; decide)] at hF;refine vr 6 ?_;refine Cp cl19 rfl .k0 (fun m' hm he => bad19 120 (hw.mono hm) hp) ?_ ?_
        ·rintro _ _ rfl;refine zX ?_;refine zK ?_;refine zX ?_;exact xL hl2 [_, _] (Pick.app (.cons .h1 .p0)) ⟨⟨rfl, rfl, trivial⟩, 120, _, _, _, _, _, hF.symm, rfl, rfl⟩
        ·rintro _ _ h;exact h.elim
   ·rintro e1 env' h' d' a' hq hag';have hdf : a'.defers = [dfr (.func 17) [ptr b2, ptr b3]] := hag'.defers
    have good : ∀ L', rGood b2 b3 s env' L' → ∀ h2 d2, HS m L' h2 → ∃ vs, RvsOk Tryz.prog env' h2 [.cell 2 26, .cell 3 29] vs ∧ ∃ v h' d', Ending.returned (tup vs) = .returned v ∧ W x0 h2 d2 = W x0 h' d' ∧ postS m (ReadPost (readP s)) v h' := by
     rintro L' ⟨hsub, bk, ts, K, kc, F, fc, e, hx, rfl, hcs, hfs, he⟩ h2 d2 hh;exact ⟨[_, _], RvsS.ok hh ⟨⟨_, _, _, _, hsub.1, .h1, .inr ⟨ag26, rfl⟩⟩, ⟨_, _, _, _, hsub.2.1, .here, .inr ⟨ag29, rfl⟩⟩, trivial⟩, _, h2, d2, rfl, rfl, _, .inl ⟨bk, ts, K, kc, F, fc, e, hx, rfl, rfl, hcs, hfs, he⟩, hh.tail.tail⟩
    have bad : ∀ e a : Int, Sub (rB b2 b3) env' → readP s = .bad e a → ∀ h2 d2, HS m [cel b3 [.int .i64 e, .int .i64 a] 29, cel b2 [.slice none 0 0, .slice none 0 0] 26] h2 → ∃ vs, RvsOk Tryz.prog env' h2 [.cell 2 26, .cell 3 29] vs ∧ ∃ v h' d', Ending.returned (tup vs) = .returned v ∧ W x0 h2 d2 = W x0 h' d' ∧ postS m (ReadPost (readP s)) v h' := by
     rintro e a hsub hx h2 d2 hh;exact ⟨[_, _], RvsS.ok hh ⟨⟨_, _, _, _, hsub.1, .h1, .inr ⟨ag26, rfl⟩⟩, ⟨_, _, _, _, hsub.2.1, .here, .inr ⟨ag29, rfl⟩⟩, trivial⟩, _, h2, d2, rfl, rfl, _, .inr ⟨e, a, hx, rfl, rfl⟩, hh.tail.tail⟩
    cases e1 with
    | normal =>
      obtain ⟨L', hp, hh⟩ := hq;show Leaves _ _ _ _ a'.defers _ _;rw [hdf];exact xk (post := fun _ L2 => L2 = L') (rs := [.cell 2 26, .cell 3 29]) rfl (by kernel_rfl) (by simp) rfl (Y1 hh) hag'.toAg (fun h2 d2 L2 e hs2 => by subst e; exact good _ hp h2 d2 hs2)
    | ret =>
      obtain ⟨L', hp, hh⟩ := hq;show Leaves _ _ _ _ a'.defers _ _;rw [hdf];exact xk (post := fun _ L2 => L2 = L') (rs := [.cell 2 26, .cell 3 29]) rfl (by kernel_rfl) (by simp) rfl (Y1 hh) hag'.toAg (fun h2 d2 L2 e hs2 => by subst e; exact good _ hp h2 d2 hs2)
    | panic c =>
      obtain ⟨v', L', rfl, ⟨hsub, e, a, v1, v2, v3, v4, hx, hv, rfl⟩, hh⟩ := hq;show Leaves _ _ _ _ a'.defers _ _;rw [hdf]
      exact xk (post := fun _ L2 => L2 = [cel b3 [.int .i64 e, .int .i64 a] 29, cel b2 [.slice none 0 0, .slice none 0 0] 26]) (rs := [.cell 2 26, .cell 3 29]) rfl (by kernel_rfl) (by simp) rfl (D17_pan hv hh) hag'.toAg (fun h2 d2 L2 e' hs2 => by subst e'; exact bad e a hsub hx h2 d2 hs2)
    | exit i => exact hq.elim
    | goto i => exact hq.elim
    | outgrown => exact hq.elim
end
section
open Wd Tp Kd
variable {m : Mp}
theorem wy {m : Mp} {A : Option Addr} {c : Nat} {xs : List (List UInt8)} (hx : RdN m A c xs) (hb : ∀ s ∈ xs, nameP s = true) (hn : xs.length ≤ 1000000000) : CS Tryz.prog 89 [.slice A xs.length c, .string (bs [44, 32])] m [] (Gives (.string (bs (Lib.join xs [44, 32])))) := by
 have h1 := wL (k := 40) (sep := [44, 32]) (l := xs) (fun s hs => yF (hb s hs));have h2 : xs.length * (40 + [44, (32 : UInt8)].length) = xs.length * 42 := rfl;exact Join_ok hx.1 hx.2 (by omega) (by omega)
theorem uz {n : Int} (h : smallB n = true) : 0 ≤ n ∧ n ≤ 999 := of_decide_eq_true h
theorem xj {w : List UInt8} (n : Int) (hw : w.length ≤ 10) : (ruleT w n).length ≤ 20 := by
 have := ze n;unfold ruleT
 split <;> simp only [List.length_append, List.length_cons, List.length_nil] <;> omega
theorem xS {w : List UInt8} {l : List (List UInt8)} (hw : w.length ≤ 10) (hb : ∀ s ∈ l, nameP s = true) (hn : l.length ≤ 1000000000) : (namesT w l).length ≤ 43000000000 := by
 have h1 := wL (k := 40) (sep := [44, 32]) (l := l) (fun s hs => yF (hb s hs));have h2 : l.length * (40 + [44, (32 : UInt8)].length) = l.length * 42 := rfl;unfold namesT
 split <;> simp only [List.length_append, List.length_cons, List.length_nil] <;> omega
inductive FrI (H : List UInt8) (f : FmtT) : Nat → List UInt8 → Prop
 | z {l : List UInt8} (hl : l = H) : FrI H f 0 l
 | a {l : List UInt8} (hl : l = H ++ ruleT sLeast f.least) : FrI H f 1 l
 | b {l : List UInt8} (hl : l = H ++ ruleT sLeast f.least ++ ruleT sMost f.most) : FrI H f 2 l
 | e {l : List UInt8} (hl : l = H ++ ruleT sLeast f.least ++ ruleT sMost f.most ++ ruleT sCopies f.copies) : FrI H f 3 l
theorem FrI.len {H : List UInt8} {f : FmtT} {i : Nat} {l : List UInt8} (h : FrI H f i l) : l.length ≤ H.length + 60 := by
 have h1 := xj (w := sLeast) f.least (by decide);have h2 := xj (w := sMost) f.most (by decide);have h3 := xj (w := sCopies) f.copies (by decide);cases h with
 | z hl => rw [hl]; omega
 | a hl => rw [hl]; simp only [List.length_append]; omega
 | b hl => rw [hl]; simp only [List.length_append]; omega
 | e hl => rw [hl]; simp only [List.length_append]; omega
inductive FnI (G : List UInt8) (f : FmtT) : Nat → List UInt8 → Prop
 | z {l : List UInt8} (hl : l = G) : FnI G f 0 l
 | a {l : List UInt8} (hb : ∀ s ∈ f.banned, nameP s = true) (hl : l = G ++ namesT sBanned f.banned) : FnI G f 1 l
 | b {l : List UInt8} (hb : ∀ s ∈ f.banned, nameP s = true) (hs : ∀ s ∈ f.single, nameP s = true) (hl : l = G ++ namesT sBanned f.banned ++ namesT sSingle f.single) : FnI G f 2 l
theorem FnI.len {G : List UInt8} {f : FmtT} {i : Nat} {l : List UInt8} (hs : FmtSm f) (h : FnI G f i l) : l.length ≤ G.length + 86000000000 := by
 cases h with
 | z hl => rw [hl]; omega
 | a hb hl => have := xS (w := sBanned) (by decide) hb hs.lb; rw [hl]; simp only [List.length_append]; omega
 | b hb hb2 hl => have := xS (w := sBanned) (by decide) hb hs.lb; have := xS (w := sSingle) (by decide) hb2 hs.ls; rw [hl]; simp only [List.length_append]; omega
theorem qu {w : List UInt8} {l : List (List UInt8)} (h : ¬ 0 < l.length) : namesT w l = [] := by unfold namesT; rw [if_pos (by omega)]
theorem y7 {w : List UInt8} {l : List (List UInt8)} (h : 0 < l.length) : namesT w l = sSp ++ w ++ sSp ++ Lib.join l [44, 32] ++ [59, 10] := by unfold namesT; rw [if_neg (by omega)]
theorem vu {w : List UInt8} {n : Int} (h : n = 0) : ruleT w n = [] := by unfold ruleT; rw [if_pos h]
theorem yj {w : List UInt8} {n : Int} (h : ¬ n = 0) : ruleT w n = sSp ++ w ++ sSp ++ decP n ++ [59, 10] := by unfold ruleT; rw [if_neg h]
def numsF (f : FmtT) : List Int := [f.least, f.most, f.copies]
theorem je {f : FmtT} : (∀ x ∈ numsF f, smallB x = true) ↔ smallB f.least = true ∧ smallB f.most = true ∧ smallB f.copies = true := by
 unfold numsF
 simp
structure LpS where
 i : Nat
 l : List UInt8
theorem format37 (hT : TabI m) (hU : Tabs m) {f : FmtT} {q : FmtC} (hB : RdN m q.A q.ca f.banned) (hS : RdN m q.B q.cb f.single) (hs : FmtSm f) : TxC 37 [.agg (q.v f).toArray] m (fmtP f) := by
 have hnl := hs.name;skip;refine zg [.tmp 2] Tryz.func37 rfl rfl rfl ?_;refine tr 2 ?_;refine Bx 4 rfl fun b1 => ?_;refine zI .here (fun ns hi _ hd1 => ?_);have hR : Rd (uni m ns) (some ⟨b1, 0, none⟩) (q.v f) := (Rd.blk hi).mono (zP hd1);have hlm : Le m (uni m ns) := zN _ _;clear hi hd1;generalize uni m ns = m8 at hR hlm;have hT := hT.mono hlm;have hU := hU.mono hlm
 have hB := hB.mono hlm;have hS := hS.mono hlm;have hc0 : mc m8 ⟨b1, 0, none⟩ = some (.string (bs f.name)) := hR.at_ (i := 0) rfl;have hc1 : mc m8 ⟨b1, 1, none⟩ = some (.int .i64 f.least) := hR.at_ (i := 1) rfl;have hc2 : mc m8 ⟨b1, 2, none⟩ = some (.int .i64 f.most) := hR.at_ (i := 2) rfl;have hc3 : mc m8 ⟨b1, 3, none⟩ = some (.int .i64 f.copies) := hR.at_ (i := 3) rfl
 have hc4 : mc m8 ⟨b1, 4, none⟩ = some (.slice q.A f.banned.length q.ca) := hR.at_ (i := 4) rfl;have hc5 : mc m8 ⟨b1, 5, none⟩ = some (.slice q.B f.single.length q.cb) := hR.at_ (i := 5) rfl;cases hnp : nameP f.name with
 | false =>
   refine tr 2 ?_;refine Lo 0 sg9 rfl hc0 ?_;refine Cr cl41 rfl (fun m' hm he => (xf (hU.mono hm) hnl)) ?_;rintro _ rfl;rw [hnp];skip;refine Mf fun _ => ?_;exact pW hlm ⟨xa (fun h => by rw [hnp] at h; exact absurd h.1 (by decide)), rfl⟩
 | true =>
 have hn40 := yF hnp;refine tr 2 ?_;refine Lo 0 sg9 rfl hc0 ?_;refine Cr cl41 rfl (fun m' hm he => (xf (hU.mono hm) hnl)) ?_;rintro _ rfl;rw [hnp];skip;refine Mt 5 ?_;refine Lo 1 sg3 rfl hc1 ?_;refine Lo 1 sg3 rfl hc2 ?_;refine Lo 0 sg3 rfl hc3 ?_;refine Bs 0 sl121 fun b2 => ?_
 refine Cp cl42 rfl .nil (fun m' hm he => numbers42 (l := numsF f) (Rd.blk (he _ (.head _))) (by show 3 ≤ 100; decide)) ?_ ?_
 ·rintro _ _ ⟨h1, rfl⟩;exact pW hlm ⟨xa (fun h => h1 (je.2 ⟨h.2.1, h.2.2.1, h.2.2.2.1⟩)), rfl⟩
 rintro _ _ ⟨h1, rfl, rfl⟩;have hnm := je.1 h1;have s1 := uz hnm.1;have s2 := uz hnm.2.1;have s3 := uz hnm.2.2;refine vr 5 ?_;refine Lo 0 sg9 rfl hc0 ?_;refine Ps 0 ?_;refine Ps 7 ?_;refine Lo 1 sg3 rfl hc1 ?_;refine Lo 1 sg3 rfl hc2 ?_;refine Lo 0 sg3 rfl hc3 ?_;refine Bs 5 sl121 fun b3 => ?_;refine zI .here (fun ns hi _ hd => ?_)
 have hR3 : Rd (uni m8 ns) (some ⟨b3, 0, none⟩) [.int .i64 f.least, .int .i64 f.most, .int .i64 f.copies] := (Rd.blk hi).mono (zP hd);have hl3 : Le m8 (uni m8 ns) := zN _ _;clear hi hd;have hlm := hlm.trans hl3;generalize uni m8 ns = m9 at hR3 hl3 hlm;have hT := hT.mono hl3;have hU := hU.mono hl3;have hB := hB.mono hl3;have hS := hS.mono hl3;have hc0 := zq hl3 hc0
 have hc1 := zq hl3 hc1;have hc2 := zq hl3 hc2;have hc3 := zq hl3 hc3;have hc4 := zq hl3 hc4;have hc5 := zq hl3 hc5;have hq0 : mc m9 ⟨b3, 0, none⟩ = some (.int .i64 f.least) := hR3.at_ (i := 0) rfl;have hq1 : mc m9 ⟨b3, 1, none⟩ = some (.int .i64 f.most) := hR3.at_ (i := 1) rfl;have hq2 : mc m9 ⟨b3, 2, none⟩ = some (.int .i64 f.copies) := hR3.at_ (i := 2) rfl
 refine zu (α := LpS) (fun y => [(1, ptr b1), (3, .string (bs y.l)), (32, .slice (some ⟨b3, 0, none⟩) 3 3), (33, .int .i64 (3 : Nat)), (34, .int .i64 (y.i : Nat))]) (fun _ => []) (fun y => FrI (sFormat ++ sSp ++ f.name ++ [32, 123, 10]) f y.i y.l) (fun y => 3 - y.i) ⟨0, _⟩ ⟨rfl, rfl, rfl, rfl, rfl, trivial⟩ (Pick.nil _) (.z (by simp)) ?_
 have hHl : (sFormat ++ sSp ++ f.name ++ [32, 123, 10]).length ≤ 60 := by simp only [List.length_append, List.length_cons, List.length_nil]; omega
 rintro ⟨i, l⟩ hI;dsimp only at hI;dsimp only;have hlen := hI.len;cases hI with
 | z hl =>
   by_cases h0 : f.least = 0
   ·refine tr 2 ?_;refine cto 11 ?_;refine pe 0 (zH ez121 rfl rfl (hR3.isSome (by simp <;> omega)) (by omega)) ?_;refine Lo 7 sg3 rfl hq0 ?_;refine cfo 7 ?_;refine Pa 2 ?_;exact QR (⟨1, l⟩ : LpS) (Pick.nil _) (.a (by rw [hl, vu h0] <;> simp)) (by dsimp only; omega)
   skip;refine tr 2 ?_;refine cto 11 ?_;refine pe 0 (zH ez121 rfl rfl (hR3.isSome (by simp <;> omega)) (by omega)) ?_;refine Lo 7 sg3 rfl hq0 ?_;refine cta 3 ?_;refine Db (sq [0, 2, 7] (.fork (sq [101, 3] (.fork (sq [104, 5, 6, 108, 9, 10, 11, 12] .done) (sq [108, 104, 5, 6, 9, 10, 11, 12] .done))) (sq [108, 101, 3, 104, 5, 6, 9, 10, 11, 12] .done))) ?_;refine vB 3 ?_
   refine zt ?_ ?_;refine zA rfl (zR sl61 rfl rfl rfl rfl (fun b4 => ?_)) rfl;refine Vb 0 rfl (zH ez61 rfl rfl (hR3.isSome (by simp <;> omega)) (by omega)) ?_;refine zt ?_ ?_
   ·refine Ve 0 rfl ((zf (b := b4) (i := 0) (l := [.string (bs [108, 101, 97, 115, 116]), .string (bs [109, 111, 115, 116]), .string (bs [99, 111, 112, 105, 101, 115])]) sg9 rfl .here rfl)) ?_;refine Vs 0 rfl ?_;refine Vs 0 rfl ?_;refine zA rfl (zU cl43 rfl (fun m' hm he => (yG (hT.mono hm) (by omega) (by omega))) rfl ?_) rfl;rintro _ rfl;rw [zy s1.1 s1.2]
    have hd := ze f.least
    iterate 3 (refine Vs 0 rfl ?_)
    refine vB 1 ?_;refine Vn 3 ?_;refine Pa 2 ?_;exact zh (⟨1, _⟩ : LpS) ⟨rfl, rfl, rfl, rfl, rfl, trivial⟩ (Pick.nil _) (.a (by rw [hl, yj h0] <;> simp)) (by dsimp only; omega)
   ·skip;refine zA rfl (zU cl43 rfl (fun m' hm he => (yG (hT.mono hm) (by omega) (by omega))) rfl ?_) rfl;rintro _ rfl;rw [zy s1.1 s1.2];have hd := ze f.least;skip;refine Ve 0 rfl ((zf (b := b4) (i := 0) (l := [.string (bs [108, 101, 97, 115, 116]), .string (bs [109, 111, 115, 116]), .string (bs [99, 111, 112, 105, 101, 115])]) sg9 rfl .here rfl)) ?_
    iterate 5 (refine Vs 0 rfl ?_)
    refine vB 1 ?_;refine Vn 3 ?_;refine Pa 2 ?_;exact zh (⟨1, _⟩ : LpS) ⟨rfl, rfl, rfl, rfl, rfl, trivial⟩ (Pick.nil _) (.a (by rw [hl, yj h0] <;> simp)) (by dsimp only; omega)
   ·refine zA rfl (zU cl43 rfl (fun m' hm he => (yG (hT.mono hm) (by omega) (by omega))) rfl ?_) rfl;rintro _ rfl;rw [zy s1.1 s1.2];have hd := ze f.least;refine zA rfl (zR sl61 rfl rfl rfl rfl (fun b4 => ?_)) rfl;refine Vb 0 rfl (zH ez61 rfl rfl (hR3.isSome (by simp <;> omega)) (by omega)) ?_
    refine Ve 0 rfl ((zf (b := b4) (i := 0) (l := [.string (bs [108, 101, 97, 115, 116]), .string (bs [109, 111, 115, 116]), .string (bs [99, 111, 112, 105, 101, 115])]) sg9 rfl .here rfl)) ?_
    iterate 5 (refine Vs 0 rfl ?_)
    refine vB 1 ?_;refine Vn 3 ?_;refine Pa 2 ?_;exact zh (⟨1, _⟩ : LpS) ⟨rfl, rfl, rfl, rfl, rfl, trivial⟩ (Pick.nil _) (.a (by rw [hl, yj h0] <;> simp)) (by dsimp only; omega)
 | a hl =>
   by_cases h0 : f.most = 0
   ·refine tr 2 ?_;refine cto 11 ?_;refine pe 0 (zH ez121 rfl rfl (hR3.isSome (by simp <;> omega)) (by omega)) ?_;refine Lo 7 sg3 rfl hq1 ?_;refine cfo 7 ?_;refine Pa 2 ?_;exact QR (⟨2, l⟩ : LpS) (Pick.nil _) (.b (by rw [hl, vu h0] <;> simp)) (by dsimp only; omega)
   skip;refine tr 2 ?_;refine cto 11 ?_;refine pe 0 (zH ez121 rfl rfl (hR3.isSome (by simp <;> omega)) (by omega)) ?_;refine Lo 7 sg3 rfl hq1 ?_;refine cta 3 ?_;refine Db (sq [0, 2, 7] (.fork (sq [101, 3] (.fork (sq [104, 5, 6, 108, 9, 10, 11, 12] .done) (sq [108, 104, 5, 6, 9, 10, 11, 12] .done))) (sq [108, 101, 3, 104, 5, 6, 9, 10, 11, 12] .done))) ?_;refine vB 3 ?_
   refine zt ?_ ?_;refine zA rfl (zR sl61 rfl rfl rfl rfl (fun b4 => ?_)) rfl;refine Vb 0 rfl (zH ez61 rfl rfl (hR3.isSome (by simp <;> omega)) (by omega)) ?_;refine zt ?_ ?_
   ·refine Ve 0 rfl ((zf (b := b4) (i := 1) (l := [.string (bs [108, 101, 97, 115, 116]), .string (bs [109, 111, 115, 116]), .string (bs [99, 111, 112, 105, 101, 115])]) sg9 rfl .here rfl)) ?_;refine Vs 0 rfl ?_;refine Vs 0 rfl ?_;refine zA rfl (zU cl43 rfl (fun m' hm he => (yG (hT.mono hm) (by omega) (by omega))) rfl ?_) rfl;rintro _ rfl;rw [zy s2.1 s2.2]
    have hd := ze f.most
    iterate 3 (refine Vs 0 rfl ?_)
    refine vB 1 ?_;refine Vn 3 ?_;refine Pa 2 ?_;exact zh (⟨2, _⟩ : LpS) ⟨rfl, rfl, rfl, rfl, rfl, trivial⟩ (Pick.nil _) (.b (by rw [hl, yj h0] <;> simp)) (by dsimp only; omega)
   ·skip;refine zA rfl (zU cl43 rfl (fun m' hm he => (yG (hT.mono hm) (by omega) (by omega))) rfl ?_) rfl;rintro _ rfl;rw [zy s2.1 s2.2];have hd := ze f.most;skip;refine Ve 0 rfl ((zf (b := b4) (i := 1) (l := [.string (bs [108, 101, 97, 115, 116]), .string (bs [109, 111, 115, 116]), .string (bs [99, 111, 112, 105, 101, 115])]) sg9 rfl .here rfl)) ?_
    iterate 5 (refine Vs 0 rfl ?_)
    refine vB 1 ?_;refine Vn 3 ?_;refine Pa 2 ?_;exact zh (⟨2, _⟩ : LpS) ⟨rfl, rfl, rfl, rfl, rfl, trivial⟩ (Pick.nil _) (.b (by rw [hl, yj h0] <;> simp)) (by dsimp only; omega)
   ·refine zA rfl (zU cl43 rfl (fun m' hm he => (yG (hT.mono hm) (by omega) (by omega))) rfl ?_) rfl;rintro _ rfl;rw [zy s2.1 s2.2];have hd := ze f.most;refine zA rfl (zR sl61 rfl rfl rfl rfl (fun b4 => ?_)) rfl;refine Vb 0 rfl (zH ez61 rfl rfl (hR3.isSome (by simp <;> omega)) (by omega)) ?_
    refine Ve 0 rfl ((zf (b := b4) (i := 1) (l := [.string (bs [108, 101, 97, 115, 116]), .string (bs [109, 111, 115, 116]), .string (bs [99, 111, 112, 105, 101, 115])]) sg9 rfl .here rfl)) ?_
    iterate 5 (refine Vs 0 rfl ?_)
    refine vB 1 ?_;refine Vn 3 ?_;refine Pa 2 ?_;exact zh (⟨2, _⟩ : LpS) ⟨rfl, rfl, rfl, rfl, rfl, trivial⟩ (Pick.nil _) (.b (by rw [hl, yj h0] <;> simp)) (by dsimp only; omega)
 | b hl =>
   by_cases h0 : f.copies = 0
   ·refine tr 2 ?_;refine cto 11 ?_;refine pe 0 (zH ez121 rfl rfl (hR3.isSome (by simp <;> omega)) (by omega)) ?_;refine Lo 7 sg3 rfl hq2 ?_;refine cfo 7 ?_;refine Pa 2 ?_;exact QR (⟨3, l⟩ : LpS) (Pick.nil _) (.e (by rw [hl, vu h0] <;> simp)) (by dsimp only; omega)
   skip;refine tr 2 ?_;refine cto 11 ?_;refine pe 0 (zH ez121 rfl rfl (hR3.isSome (by simp <;> omega)) (by omega)) ?_;refine Lo 7 sg3 rfl hq2 ?_;refine cta 3 ?_;refine Db (sq [0, 2, 7] (.fork (sq [101, 3] (.fork (sq [104, 5, 6, 108, 9, 10, 11, 12] .done) (sq [108, 104, 5, 6, 9, 10, 11, 12] .done))) (sq [108, 101, 3, 104, 5, 6, 9, 10, 11, 12] .done))) ?_;refine vB 3 ?_
   refine zt ?_ ?_;refine zA rfl (zR sl61 rfl rfl rfl rfl (fun b4 => ?_)) rfl;refine Vb 0 rfl (zH ez61 rfl rfl (hR3.isSome (by simp <;> omega)) (by omega)) ?_;refine zt ?_ ?_
   ·refine Ve 0 rfl ((zf (b := b4) (i := 2) (l := [.string (bs [108, 101, 97, 115, 116]), .string (bs [109, 111, 115, 116]), .string (bs [99, 111, 112, 105, 101, 115])]) sg9 rfl .here rfl)) ?_;refine Vs 0 rfl ?_;refine Vs 0 rfl ?_;refine zA rfl (zU cl43 rfl (fun m' hm he => (yG (hT.mono hm) (by omega) (by omega))) rfl ?_) rfl;rintro _ rfl;rw [zy s3.1 s3.2]
    have hd := ze f.copies
    iterate 3 (refine Vs 0 rfl ?_)
    refine vB 1 ?_;refine Vn 3 ?_;refine Pa 2 ?_;exact zh (⟨3, _⟩ : LpS) ⟨rfl, rfl, rfl, rfl, rfl, trivial⟩ (Pick.nil _) (.e (by rw [hl, yj h0] <;> simp)) (by dsimp only; omega)
   ·skip;refine zA rfl (zU cl43 rfl (fun m' hm he => (yG (hT.mono hm) (by omega) (by omega))) rfl ?_) rfl;rintro _ rfl;rw [zy s3.1 s3.2];have hd := ze f.copies;skip;refine Ve 0 rfl ((zf (b := b4) (i := 2) (l := [.string (bs [108, 101, 97, 115, 116]), .string (bs [109, 111, 115, 116]), .string (bs [99, 111, 112, 105, 101, 115])]) sg9 rfl .here rfl)) ?_
    iterate 5 (refine Vs 0 rfl ?_)
    refine vB 1 ?_;refine Vn 3 ?_;refine Pa 2 ?_;exact zh (⟨3, _⟩ : LpS) ⟨rfl, rfl, rfl, rfl, rfl, trivial⟩ (Pick.nil _) (.e (by rw [hl, yj h0] <;> simp)) (by dsimp only; omega)
   ·refine zA rfl (zU cl43 rfl (fun m' hm he => (yG (hT.mono hm) (by omega) (by omega))) rfl ?_) rfl;rintro _ rfl;rw [zy s3.1 s3.2];have hd := ze f.copies;refine zA rfl (zR sl61 rfl rfl rfl rfl (fun b4 => ?_)) rfl;refine Vb 0 rfl (zH ez61 rfl rfl (hR3.isSome (by simp <;> omega)) (by omega)) ?_
    refine Ve 0 rfl ((zf (b := b4) (i := 2) (l := [.string (bs [108, 101, 97, 115, 116]), .string (bs [109, 111, 115, 116]), .string (bs [99, 111, 112, 105, 101, 115])]) sg9 rfl .here rfl)) ?_
    iterate 5 (refine Vs 0 rfl ?_)
    refine vB 1 ?_;refine Vn 3 ?_;refine Pa 2 ?_;exact zh (⟨3, _⟩ : LpS) ⟨rfl, rfl, rfl, rfl, rfl, trivial⟩ (Pick.nil _) (.e (by rw [hl, yj h0] <;> simp)) (by dsimp only; omega)
 | e hl =>
   skip;refine tr 2 ?_;refine cfo 6 ?_;refine zE ?_;refine zD ?_;refine qt 5 ?_;refine Lo 1 sg61 rfl hc4 ?_;refine Lo 0 sg61 rfl hc5 ?_;refine Bs 5 sl122 fun b4 => ?_;refine zI .here (fun ns hi _ hd => ?_);have hR4 : Rd (uni m9 ns) (some ⟨b4, 0, none⟩) [.slice q.A f.banned.length q.ca, .slice q.B f.single.length q.cb] := (Rd.blk hi).mono (zP hd)
   have hl4 : Le m9 (uni m9 ns) := zN _ _;clear hi hd;have hlm := hlm.trans hl4;generalize uni m9 ns = m10 at hR4 hl4 hlm;have hT := hT.mono hl4;have hU := hU.mono hl4;have hB := hB.mono hl4;have hS := hS.mono hl4;have hq0 : mc m10 ⟨b4, 0, none⟩ = some (.slice q.A f.banned.length q.ca) := hR4.at_ (i := 0) rfl
   have hq1 : mc m10 ⟨b4, 1, none⟩ = some (.slice q.B f.single.length q.cb) := hR4.at_ (i := 1) rfl;have hlb : f.banned.length ≤ 1000000000 := hs.lb;have hls : f.single.length ≤ 1000000000 := hs.ls
   refine zu (α := LpS) (fun y => [(1, ptr b1), (3, .string (bs y.l)), (58, .slice (some ⟨b4, 0, none⟩) 2 2), (59, .int .i64 (2 : Nat)), (60, .int .i64 (y.i : Nat))]) (fun _ => []) (fun y => FnI l f y.i y.l) (fun y => 2 - y.i) ⟨0, l⟩ ⟨rfl, rfl, rfl, rfl, rfl, trivial⟩ (Pick.nil _) (.z rfl) ?_;rintro ⟨i, l2⟩ hI;dsimp only at hI;dsimp only;have hlen2 := hI.len hs;cases hI with
   | z hl2 =>
     refine tr 2 ?_;refine cto 11 ?_;refine pe 0 (zH ez122 rfl rfl (hR4.isSome (by simp <;> omega)) (by omega)) ?_;refine Lo 13 sg61 rfl hq0 ?_
     refine zu (α := Nat) (fun j => [(1, ptr b1), (3, .string (bs l2)), (6, .int .i64 (0 : Nat)), (7, .slice q.A f.banned.length q.ca), (58, .slice (some ⟨b4, 0, none⟩) 2 2), (59, .int .i64 (2 : Nat)), (60, .int .i64 (0 : Nat)), (65, .slice q.A f.banned.length q.ca), (66, .int .i64 (f.banned.length : Nat)), (67, .int .i64 (j : Nat))]) (fun _ => []) (fun j => j ≤ f.banned.length ∧ ∀ s ∈ f.banned.take j, nameP s = true) (fun j => f.banned.length - j) 0 ⟨rfl, rfl, rfl, rfl, rfl, rfl, rfl, rfl, rfl, rfl, trivial⟩ (Pick.nil _) ⟨Nat.zero_le _, fun s h => by simp at h⟩ ?_
     rintro j ⟨hj, hok⟩;by_cases hlt : j < f.banned.length
     ·have hA : q.A.isSome = true := hB.1.isSome (by rw [List.length_map]; omega);have hcx := hB.1.at_ (show (f.banned.map strV)[j]? = some (strV f.banned[j]) by simp [hlt]);have hmem : f.banned[j] ∈ f.banned := List.getElem_mem hlt;have htl := hs.b _ hmem
      have hnx : nameP f.banned[j] = true → ∀ s ∈ f.banned.take (j + 1), nameP s = true := fun h s hx => by
       rw [List.take_add_one, List.getElem?_eq_getElem hlt] at hx;rcases List.mem_append.1 hx with hx | hx
       ·exact hok s hx
       ·simp at hx; rw [hx]; exact h
      generalize f.banned[j] = t at hcx hmem htl hnx;refine tr 2 ?_;refine cto 10 ?_;refine pe 0 (zH ez61 rfl rfl hA (by omega)) ?_;refine Lo 5 sg9 rfl hcx ?_;refine Cr cl41 rfl (fun m' hm he => (xf (hU.mono hm) htl)) ?_;rintro _ rfl;cases hnt : nameP t with
      | false =>
        skip;refine Cn cl33 rfl must33 ?_ ?_
        ·rintro _ _ ⟨h1, rfl⟩;refine zX ?_;refine zK ?_;refine zX ?_;refine zK ?_;exact pW hlm ⟨xa (fun h => by have h1 := List.all_eq_true.1 h.2.2.2.2.1 _ hmem; rw [hnt] at h1; exact absurd h1 (by decide)), rfl⟩
        rintro _ _ ⟨h1, rfl, rfl⟩;cases h1
      | true =>
        skip;refine Mt 4 ?_;refine Pa 2 ?_;exact QR (j + 1) (Pick.nil _) ⟨hlt, hnx hnt⟩ (by omega)
     have hj2 : j = f.banned.length := by omega
     subst hj2;rw [List.take_length] at hok;have hall := hok;have hjl := wL (k := 40) (sep := [44, 32]) (l := f.banned) (fun s hs => yF (hall s hs));have hjl : (Lib.join f.banned [44, 32]).length ≤ f.banned.length * 42 := hjl;by_cases hl0 : 0 < f.banned.length
     rotate_left
     ·refine tr 2 ?_;refine cfo 6 ?_;refine zE ?_;refine zD ?_;refine qt 5 ?_;refine cfo 7 ?_;refine Pa 2 ?_;exact QR (⟨1, l2⟩ : LpS) (Pick.nil _) (.a hall (by rw [hl2, qu hl0] <;> simp)) (by dsimp only; omega)
     skip;refine tr 2 ?_;refine cfo 6 ?_;refine zE ?_;refine zD ?_;refine qt 5 ?_;refine cto 3 ?_;refine Db (sq [0, 2, 7] (.fork (sq [101, 3] (.fork (sq [104, 5, 6, 108, 9, 10, 11, 12] .done) (sq [108, 104, 5, 6, 9, 10, 11, 12] .done))) (sq [108, 101, 3, 104, 5, 6, 9, 10, 11, 12] .done))) ?_;refine vB 3 ?_;refine zt ?_ ?_
     refine zA rfl (zR sl61 rfl rfl rfl rfl (fun b5 => ?_)) rfl;refine Vb 0 rfl (zH ez61 rfl rfl (hR4.isSome (by simp <;> omega)) (by omega)) ?_;refine zt ?_ ?_
     ·refine Ve 0 rfl ((zf (b := b5) (i := 0) (l := [.string (bs [98, 97, 110, 110, 101, 100]), .string (bs [115, 105, 110, 103, 108, 101])]) sg9 rfl .here rfl)) ?_;refine Vs 0 rfl ?_;refine Vs 0 rfl ?_;refine zA rfl (zU cl89 rfl (fun m' hm he => (wy (hB.mono hm) hall hlb)) rfl ?_) rfl;rintro _ rfl
      iterate 3 (refine Vs 0 rfl ?_)
      refine vB 1 ?_;refine Vn 3 ?_;refine Pa 2 ?_;exact zh (⟨1, _⟩ : LpS) ⟨rfl, rfl, rfl, rfl, rfl, trivial⟩ (Pick.nil _) (.a hall (by rw [hl2, y7 hl0] <;> simp)) (by dsimp only; omega)
     ·skip;refine zA rfl (zU cl89 rfl (fun m' hm he => (wy (hB.mono hm) hall hlb)) rfl ?_) rfl;rintro _ rfl;skip;refine Ve 0 rfl ((zf (b := b5) (i := 0) (l := [.string (bs [98, 97, 110, 110, 101, 100]), .string (bs [115, 105, 110, 103, 108, 101])]) sg9 rfl .here rfl)) ?_
      iterate 5 (refine Vs 0 rfl ?_)
      refine vB 1 ?_;refine Vn 3 ?_;refine Pa 2 ?_;exact zh (⟨1, _⟩ : LpS) ⟨rfl, rfl, rfl, rfl, rfl, trivial⟩ (Pick.nil _) (.a hall (by rw [hl2, y7 hl0] <;> simp)) (by dsimp only; omega)
     ·refine zA rfl (zU cl89 rfl (fun m' hm he => (wy (hB.mono hm) hall hlb)) rfl ?_) rfl;rintro _ rfl;refine zA rfl (zR sl61 rfl rfl rfl rfl (fun b5 => ?_)) rfl;refine Vb 0 rfl (zH ez61 rfl rfl (hR4.isSome (by simp <;> omega)) (by omega)) ?_
      refine Ve 0 rfl ((zf (b := b5) (i := 0) (l := [.string (bs [98, 97, 110, 110, 101, 100]), .string (bs [115, 105, 110, 103, 108, 101])]) sg9 rfl .here rfl)) ?_
      iterate 5 (refine Vs 0 rfl ?_)
      refine vB 1 ?_;refine Vn 3 ?_;refine Pa 2 ?_;exact zh (⟨1, _⟩ : LpS) ⟨rfl, rfl, rfl, rfl, rfl, trivial⟩ (Pick.nil _) (.a hall (by rw [hl2, y7 hl0] <;> simp)) (by dsimp only; omega)
   | a hbn hl2 =>
     refine tr 2 ?_;refine cto 11 ?_;refine pe 0 (zH ez122 rfl rfl (hR4.isSome (by simp <;> omega)) (by omega)) ?_;refine Lo 13 sg61 rfl hq1 ?_
     refine zu (α := Nat) (fun j => [(1, ptr b1), (3, .string (bs l2)), (6, .int .i64 (1 : Nat)), (7, .slice q.B f.single.length q.cb), (58, .slice (some ⟨b4, 0, none⟩) 2 2), (59, .int .i64 (2 : Nat)), (60, .int .i64 (1 : Nat)), (65, .slice q.B f.single.length q.cb), (66, .int .i64 (f.single.length : Nat)), (67, .int .i64 (j : Nat))]) (fun _ => []) (fun j => j ≤ f.single.length ∧ ∀ s ∈ f.single.take j, nameP s = true) (fun j => f.single.length - j) 0 ⟨rfl, rfl, rfl, rfl, rfl, rfl, rfl, rfl, rfl, rfl, trivial⟩ (Pick.nil _) ⟨Nat.zero_le _, fun s h => by simp at h⟩ ?_
     rintro j ⟨hj, hok⟩;by_cases hlt : j < f.single.length
     ·have hA : q.B.isSome = true := hS.1.isSome (by rw [List.length_map]; omega);have hcx := hS.1.at_ (show (f.single.map strV)[j]? = some (strV f.single[j]) by simp [hlt]);have hmem : f.single[j] ∈ f.single := List.getElem_mem hlt;have htl := hs.s _ hmem
      have hnx : nameP f.single[j] = true → ∀ s ∈ f.single.take (j + 1), nameP s = true := fun h s hx => by
       rw [List.take_add_one, List.getElem?_eq_getElem hlt] at hx;rcases List.mem_append.1 hx with hx | hx
       ·exact hok s hx
       ·simp at hx; rw [hx]; exact h
      generalize f.single[j] = t at hcx hmem htl hnx;refine tr 2 ?_;refine cto 10 ?_;refine pe 0 (zH ez61 rfl rfl hA (by omega)) ?_;refine Lo 5 sg9 rfl hcx ?_;refine Cr cl41 rfl (fun m' hm he => (xf (hU.mono hm) htl)) ?_;rintro _ rfl;cases hnt : nameP t with
      | false =>
        skip;refine Cn cl33 rfl must33 ?_ ?_
        ·rintro _ _ ⟨h1, rfl⟩;refine zX ?_;refine zK ?_;refine zX ?_;refine zK ?_;exact pW hlm ⟨xa (fun h => by have h1 := List.all_eq_true.1 h.2.2.2.2.2 _ hmem; rw [hnt] at h1; exact absurd h1 (by decide)), rfl⟩
        rintro _ _ ⟨h1, rfl, rfl⟩;cases h1
      | true =>
        skip;refine Mt 4 ?_;refine Pa 2 ?_;exact QR (j + 1) (Pick.nil _) ⟨hlt, hnx hnt⟩ (by omega)
     have hj2 : j = f.single.length := by omega
     subst hj2;rw [List.take_length] at hok;have hall := hok;have hjl := wL (k := 40) (sep := [44, 32]) (l := f.single) (fun s hs => yF (hall s hs));have hjl : (Lib.join f.single [44, 32]).length ≤ f.single.length * 42 := hjl;by_cases hl0 : 0 < f.single.length
     rotate_left
     ·refine tr 2 ?_;refine cfo 6 ?_;refine zE ?_;refine zD ?_;refine qt 5 ?_;refine cfo 7 ?_;refine Pa 2 ?_;exact QR (⟨2, l2⟩ : LpS) (Pick.nil _) (.b hbn hall (by rw [hl2, qu hl0] <;> simp)) (by dsimp only; omega)
     skip;refine tr 2 ?_;refine cfo 6 ?_;refine zE ?_;refine zD ?_;refine qt 5 ?_;refine cto 3 ?_;refine Db (sq [0, 2, 7] (.fork (sq [101, 3] (.fork (sq [104, 5, 6, 108, 9, 10, 11, 12] .done) (sq [108, 104, 5, 6, 9, 10, 11, 12] .done))) (sq [108, 101, 3, 104, 5, 6, 9, 10, 11, 12] .done))) ?_;refine vB 3 ?_;refine zt ?_ ?_
     refine zA rfl (zR sl61 rfl rfl rfl rfl (fun b5 => ?_)) rfl;refine Vb 0 rfl (zH ez61 rfl rfl (hR4.isSome (by simp <;> omega)) (by omega)) ?_;refine zt ?_ ?_
     ·refine Ve 0 rfl ((zf (b := b5) (i := 1) (l := [.string (bs [98, 97, 110, 110, 101, 100]), .string (bs [115, 105, 110, 103, 108, 101])]) sg9 rfl .here rfl)) ?_;refine Vs 0 rfl ?_;refine Vs 0 rfl ?_;refine zA rfl (zU cl89 rfl (fun m' hm he => (wy (hS.mono hm) hall hls)) rfl ?_) rfl;rintro _ rfl
      iterate 3 (refine Vs 0 rfl ?_)
      refine vB 1 ?_;refine Vn 3 ?_;refine Pa 2 ?_;exact zh (⟨2, _⟩ : LpS) ⟨rfl, rfl, rfl, rfl, rfl, trivial⟩ (Pick.nil _) (.b hbn hall (by rw [hl2, y7 hl0] <;> simp)) (by dsimp only; omega)
     ·skip;refine zA rfl (zU cl89 rfl (fun m' hm he => (wy (hS.mono hm) hall hls)) rfl ?_) rfl;rintro _ rfl;skip;refine Ve 0 rfl ((zf (b := b5) (i := 1) (l := [.string (bs [98, 97, 110, 110, 101, 100]), .string (bs [115, 105, 110, 103, 108, 101])]) sg9 rfl .here rfl)) ?_
      iterate 5 (refine Vs 0 rfl ?_)
      refine vB 1 ?_;refine Vn 3 ?_;refine Pa 2 ?_;exact zh (⟨2, _⟩ : LpS) ⟨rfl, rfl, rfl, rfl, rfl, trivial⟩ (Pick.nil _) (.b hbn hall (by rw [hl2, y7 hl0] <;> simp)) (by dsimp only; omega)
     ·refine zA rfl (zU cl89 rfl (fun m' hm he => (wy (hS.mono hm) hall hls)) rfl ?_) rfl;rintro _ rfl;refine zA rfl (zR sl61 rfl rfl rfl rfl (fun b5 => ?_)) rfl;refine Vb 0 rfl (zH ez61 rfl rfl (hR4.isSome (by simp <;> omega)) (by omega)) ?_
      refine Ve 0 rfl ((zf (b := b5) (i := 1) (l := [.string (bs [98, 97, 110, 110, 101, 100]), .string (bs [115, 105, 110, 103, 108, 101])]) sg9 rfl .here rfl)) ?_
      iterate 5 (refine Vs 0 rfl ?_)
      refine vB 1 ?_;refine Vn 3 ?_;refine Pa 2 ?_;exact zh (⟨2, _⟩ : LpS) ⟨rfl, rfl, rfl, rfl, rfl, trivial⟩ (Pick.nil _) (.b hbn hall (by rw [hl2, y7 hl0] <;> simp)) (by dsimp only; omega)
   | b hbn hsn hl2 =>
     skip;refine tr 2 ?_;refine cfo 6 ?_;refine zE ?_;refine zD ?_;refine qt 4 ?_;refine Ps 4 ?_;exact rt4 hlm ⟨rfl, trivial⟩ ⟨_, by unfold fmtP; rw [if_pos ⟨hnp, hnm.1, hnm.2.1, hnm.2.2, List.all_eq_true.2 hbn, List.all_eq_true.2 hsn⟩], congrArg (fun t => Value.string (bs t)) (by rw [hl2, hl] <;> simp), rfl⟩
end
section
open Wd Tp Kd
variable {m : Mp}
def CardX (m : Mp) (vs : List Value) (c : CardT) : Prop := ∃ q : CardC, vs = q.v c ∧ EffsR m q.A c.played.length c.played ∧ EffsR m q.B c.dead.length c.dead ∧ EffsR m q.D c.dawn.length c.dawn
def FmtX (m : Mp) (vs : List Value) (f : FmtT) : Prop := ∃ q : FmtC, vs = q.v f ∧ RdN m q.A q.ca f.banned ∧ RdN m q.B q.cb f.single
theorem CardX.mono {m m' : Mp} {vs : List Value} {c : CardT} (h : CardX m vs c) (hl : Le m m') : CardX m' vs c := by
 obtain ⟨q, h1, h2, h3, h4⟩ := h;exact ⟨q, h1, h2.mono hl, h3.mono hl, h4.mono hl⟩
theorem FmtX.mono {m m' : Mp} {vs : List Value} {f : FmtT} (h : FmtX m vs f) (hl : Le m m') : FmtX m' vs f := by
 obtain ⟨q, h1, h2, h3⟩ := h;exact ⟨q, h1, h2.mono hl, h3.mono hl⟩
def CardsX (m : Mp) (A : Option Addr) (l : List CardT) : Prop := ∃ vs, Rd m A vs ∧ vs.length = l.length * 12 ∧ ∀ (i : Nat) (hi : i < l.length), CardX m ((vs.drop (i * 12)).take 12) l[i]
def FmtsX (m : Mp) (A : Option Addr) (l : List FmtT) : Prop := ∃ vs, Rd m A vs ∧ vs.length = l.length * 7 ∧ ∀ (i : Nat) (hi : i < l.length), FmtX m ((vs.drop (i * 7)).take 7) l[i]
theorem CardsX.mono {m m' : Mp} {A : Option Addr} {l : List CardT} (h : CardsX m A l) (hl : Le m m') : CardsX m' A l := by
 obtain ⟨vs, h1, h2, h3⟩ := h;exact ⟨vs, h1.mono hl, h2, fun i hi => (h3 i hi).mono hl⟩
theorem FmtsX.mono {m m' : Mp} {A : Option Addr} {l : List FmtT} (h : FmtsX m A l) (hl : Le m m') : FmtsX m' A l := by
 obtain ⟨vs, h1, h2, h3⟩ := h;exact ⟨vs, h1.mono hl, h2, fun i hi => (h3 i hi).mono hl⟩
theorem CardQ.x {m : Mp} {vs : List Value} {c : CardT} (h : CardQ m vs c) : CardX m vs c := by
 obtain ⟨q, h1, -, h2, h3, h4⟩ := h;exact ⟨q, h1, h2, h3, h4⟩
theorem FmtQ.x {m : Mp} {vs : List Value} {f : FmtT} (h : FmtQ m vs f) : FmtX m vs f := by
 obtain ⟨q, h1, -, h2, h3⟩ := h;exact ⟨q, h1, h2, h3⟩
theorem CardsQ.x {m : Mp} {A : Option Addr} {l : List CardT} (h : CardsQ m A l) : CardsX m A l := by
 obtain ⟨vs, h1, h2, h3⟩ := h;exact ⟨vs, h1, h2, fun i hi => CardQ.x (h3 i hi)⟩
theorem FmtsQ.x {m : Mp} {A : Option Addr} {l : List FmtT} (h : FmtsQ m A l) : FmtsX m A l := by
 obtain ⟨vs, h1, h2, h3⟩ := h;exact ⟨vs, h1, h2, fun i hi => FmtQ.x (h3 i hi)⟩
theorem TxC.weak {f : FuncId} {args : List Value} {r : Option (List UInt8)} (h : TxC f args m r) : CSP Tryz.prog f args m [] (fun v L' => ∃ s, v = .string (bs s) ∧ r = some s ∧ L' = []) (fun v _ => r = none ∧ v = wrongV) := by
 have e : (fun (v : Value) (L' : List Ent) => ∃ s, v = .string (bs s) ∧ r = some s ∧ L' = []) = fun v L' => ∃ s, r = some s ∧ v = .string (bs s) ∧ L' = [] := by
  funext v L'
  refine propext ⟨fun ⟨s, h1, h2, h3⟩ => ⟨s, h2, h1, h3⟩, fun ⟨s, h1, h2, h3⟩ => ⟨s, h2, h1, h3⟩⟩
 rw [e];exact h
theorem Card14 (hT : TabI m) (hU : Tabs m) {c : CardT} {vs : List Value} (hx : CardX m vs c) (hs : CardSm c) : CS Tryz.prog 14 [.agg vs.toArray] m [] (Gives (okT (cardP c))) := by
 obtain ⟨q, rfl, hpl, hde, hda⟩ := hx;refine zn [.tmp 2, .tmp 3] Tryz.func14 rfl rfl rfl ?_;refine tr 2 ?_;refine Bx 5 rfl fun b1 => ?_;refine zI .here (fun ns hi _ hd1 => ?_);have hR : Rd (uni m ns) (some ⟨b1, 0, none⟩) (q.v c) := (Rd.blk hi).mono (zP hd1);have hl2 : Le m (uni m ns) := zN _ _;clear hi hd1;refine tr 2 ?_
 refine zC ((wB cl31 rfl (fun m' hm he => safe31 (g := 40) (q := [ptr b1]) (pre := []) (N := cardP c = none) (I := fun s L' => cardP c = some s ∧ L' = []) cl40 (fun m2 h2 => have hl := hl2.trans (hm.trans h2); (card40 (hT.mono hl) (hU.mono hl) (hR.mono (hm.trans h2)) (hpl.mono hl) (hde.mono hl) (hda.mono hl) hs).weak)) rfl ?_)) rfl;rintro _ _ hq
 rcases hq with ⟨s, rfl, hs, rfl⟩ | ⟨hs, rfl, rfl⟩
 ·rw [hs];dsimp only [okT];refine vr 7 ?_;exact zB hl2 [_, _] ⟨rfl, rfl, trivial⟩ [] (Pick.nil _) ⟨rfl, rfl⟩
 ·rw [hs];dsimp only [okT];refine vr 7 ?_;exact zB hl2 [_, _] ⟨rfl, rfl, trivial⟩ [] (Pick.nil _) ⟨rfl, rfl⟩
abbrev lgE (bl : Nat) (q : Bool) : Ent := cel bl [.bool q] 4
theorem put34 {bl bb c : Nat} {p : Value} {A : Option Addr} {l s : List UInt8} {q : Bool} (hp : PB bb p) (hA : Buf A l) (hl : l.length ≤ 65536) (hs : s.length ≤ 100000000000) :
  CS Tryz.prog 34 [.string (bs s), ptr bl, ptr bb] m (lgE bl q :: buL bb p A c l) (fun v L' => v = U0 ∧ (((q = true ∨ 65536 < l.length + s.length) ∧ L' = lgE bl true :: buL bb p A c l) ∨ (q = false ∧ l.length + s.length ≤ 65536 ∧ ∃ A' c', Buf A' (l ++ s) ∧ L' = lgE bl false :: buL bb (ptr bb) A' c' (l ++ s)))) := by
 refine zn [] Tryz.func34 rfl rfl rfl ?_;cases q with
 | true =>
   refine tr 2 ?_;refine Lb 7 sg4 .here ?_;refine Sr 4 co4 .here .here ?_;refine Lb 5 sg4 .here ?_;exact xD [] trivial [_, _, _] (Pick.refl _) ⟨rfl, .inl ⟨.inl rfl, rfl⟩⟩
 | false =>
   by_cases hlong : 65536 < l.length + s.length
   ·refine tr 2 ?_;refine Lb 1 sg4 .here ?_;refine zC ((zF cl35 rfl (.cons .h1 .k1) (fun m' hm he => Len35) rfl ?_)) rfl;rintro _ _ ⟨rfl, rfl⟩;refine vr 1 ?_;refine pe 0 (zb rfl st9) ?_;refine pe 0 (zp rfl rfl (by omega)) ?_;refine cto 1 ?_;refine Sr 4 co4 .h2 .here ?_;refine Lb 5 sg4 .h2 ?_;exact xD [] trivial [_, _, _] (.cons .h2 .pp) ⟨rfl, .inl ⟨.inr hlong, rfl⟩⟩
   ·refine tr 2 ?_;refine Lb 1 sg4 .here ?_;refine zC ((zF cl35 rfl (.cons .h1 .k1) (fun m' hm he => Len35) rfl ?_)) rfl;rintro _ _ ⟨rfl, rfl⟩;refine vr 1 ?_;refine pe 0 (zb rfl st9) ?_;refine pe 0 (zp rfl rfl (by omega)) ?_;refine cfo 1 ?_;refine Sr 4 co4 .h2 .here ?_;refine Lb 6 sg4 .h2 ?_
    refine zC ((zF cl36 rfl (.cons .here .k0) (fun m' hm he => Write36 hp hA (by omega)) rfl ?_)) rfl;rintro _ _ ⟨A2, c2, hB2, rfl, rfl⟩;refine vr 1 ?_;exact xD [] trivial [_, _, _] (.cons .h2 .pp) ⟨rfl, .inr ⟨rfl, by omega, A2, c2, hB2, rfl⟩⟩
end
section
open Wd Tp Kd
variable {m : Mp}
theorem txeq {a b : List UInt8} (h : a = b) : some (Value.string (bs a)) = some (Value.string (bs b)) := by rw [h]
theorem digitsR {n : Int} (h0 : 0 ≤ n) (h9 : n ≤ 999) : CS Tryz.prog 47 [.int .i64 n] m [] (Gives (.string (bs (decP n)))) := digits47 h0 h9
theorem smallR {n : Int} : CS Tryz.prog 46 [.int .i64 n] m [] (Gives (.bool (smallB n))) := small46
theorem vo {p p1 : Nat} {q q1 : Bool} {w s : List UInt8} {l : List EffT} (hw : w.length ≤ 10) (hl : 0 < l.length) (h : Out p q (blkP l 0) (effsW l) (100 * effsW l) 140737488355328 s p1 q1) : Out p q (secP w l) (effsW l) (100 * effsW l + 20) 140737488355328 (sSp ++ w ++ [32, 123] ++ s ++ [32, 125, 10]) p1 q1 := by
 unfold secP;rw [if_neg (by omega)];exact h.map (g := fun s => sSp ++ w ++ [32, 123] ++ s ++ [32, 125, 10]) (k := 20) (by simp; omega)
theorem vq {p : Nat} {q : Bool} {w : List UInt8} {l : List EffT} (hl : ¬ 0 < l.length) (hp : q = false → p ≤ 200) : Out p q (secP w l) (effsW l) (100 * effsW l + 20) 140737488355328 [] p q := by
 have e := List.eq_nil_of_length_eq_zero (show l.length = 0 by omega);subst e;exact (Out.keep rfl hp (Nat.zero_le _)).congr rfl rfl rfl
theorem jc (c : CardT) : secsP c = putP (· ++ ·) (putP (· ++ ·) (secP sPlayed c.played) (secP sDead c.dead)) (secP sDawn c.dawn) := by
 unfold secsP putP;cases secP sPlayed c.played with
 | none => rfl
 | some a =>
   cases secP sDead c.dead with
   | none => rfl
   | some b => cases secP sDawn c.dawn <;> rfl
theorem vG {c : CardT} (h : ¬ (c.apow = 0 ∧ c.aheal = 0)) : auraT c = sSp ++ sAura ++ sSp ++ decP c.apow ++ sSlash ++ decP c.aheal ++ [59, 10] := by unfold auraT; rw [if_neg h]
theorem jL {c : CardT} (h : c.apow = 0 ∧ c.aheal = 0) : auraT c = [] := by unfold auraT; rw [if_pos h]
theorem qi {c : CardT} (h : ¬ c.shield = 0) : shldT c = sSp ++ sShield ++ sSp ++ decP c.shield ++ [59, 10] := by unfold shldT; rw [if_neg h]
theorem qj {c : CardT} (h : c.shield = 0) : shldT c = [] := by unfold shldT; rw [if_pos h]
theorem Card15 {c : CardT} {vs : List Value} (hx : CardX m vs c) (hs : CardSm c) (hwt : cardWt c ≤ 900000) : CS Tryz.prog 15 [.agg vs.toArray] m [] (Gives (okT (cardP c))) := by
 obtain ⟨q, rfl, hpl, hde, hda⟩ := hx;have hnl := hs.name;skip;refine zn [.tmp 2, .tmp 3] Tryz.func15 rfl rfl rfl ?_;refine tr 2 ?_;refine Bx 6 rfl fun b1 => ?_;refine zI .here (fun ns hi _ hd1 => ?_);have hR : Rd (uni m ns) (some ⟨b1, 0, none⟩) (q.v c) := (Rd.blk hi).mono (zP hd1);have hl2 : Le m (uni m ns) := zN _ _;clear hi hd1;generalize uni m ns = m9 at hR hl2
 have hpl := hpl.mono hl2;have hde := hde.mono hl2;have hda := hda.mono hl2;have hc0 : mc m9 ⟨b1, 0, none⟩ = some (.string (bs c.name)) := hR.at_ (i := 0) rfl;have hc1 : mc m9 ⟨b1, 1, none⟩ = some (.bool c.unit) := hR.at_ (i := 1) rfl;have hc2 : mc m9 ⟨b1, 2, none⟩ = some (.int .i64 c.cost) := hR.at_ (i := 2) rfl;have hc3 : mc m9 ⟨b1, 3, none⟩ = some (.int .i64 c.power) := hR.at_ (i := 3) rfl
 have hc4 : mc m9 ⟨b1, 4, none⟩ = some (.int .i64 c.health) := hR.at_ (i := 4) rfl;have hc5 : mc m9 ⟨b1, 5, none⟩ = some (.int .i64 c.shield) := hR.at_ (i := 5) rfl;have hc6 : mc m9 ⟨b1, 6, none⟩ = some (.int .i64 c.apow) := hR.at_ (i := 6) rfl;have hc7 : mc m9 ⟨b1, 7, none⟩ = some (.int .i64 c.aheal) := hR.at_ (i := 7) rfl
 have hc8 : mc m9 ⟨b1, 8, none⟩ = some (.slice q.A c.played.length q.ca) := hR.at_ (i := 8) rfl;have hc9 : mc m9 ⟨b1, 9, none⟩ = some (.slice q.B c.dead.length q.cb) := hR.at_ (i := 9) rfl;have hc10 : mc m9 ⟨b1, 10, none⟩ = some (.slice q.D c.dawn.length q.cd) := hR.at_ (i := 10) rfl;refine tr 2 ?_;refine Lo 0 sg9 rfl hc0 ?_;refine Cr cl45 rfl (fun m' hm he => (vi hnl)) ?_;rintro _ rfl
 cases hnp : nameP c.name with
 | false =>
   refine vr 63 ?_;exact zB hl2 [_, _] ⟨rfl, rfl, trivial⟩ [] (Pick.nil _) ⟨by rw [zw (fun h => by rw [hnp] at h; exact absurd h.1 (by decide))]; rfl, rfl⟩
 | true =>
 have hn40 := yF hnp;refine vr 3 ?_;refine Lo 0 sg3 rfl hc2 ?_;refine Cr cl46 rfl (fun m' hm he => smallR) ?_;rintro _ rfl;cases hsn1 : smallB c.cost with
 | false =>
   refine vr 58 ?_;exact zB hl2 [_, _] ⟨rfl, rfl, trivial⟩ [] (Pick.nil _) ⟨by rw [zw (fun h => by have h3 := h.2.2.1; unfold numsB at h3; rw [hsn1] at h3; simp at h3)]; rfl, rfl⟩
 | true =>
 have n1 := yL hsn1;refine vr 4 ?_;refine Lo 0 sg3 rfl hc3 ?_;refine Cr cl46 rfl (fun m' hm he => smallR) ?_;rintro _ rfl;cases hsn2 : smallB c.power with
 | false =>
   refine vr 52 ?_;exact zB hl2 [_, _] ⟨rfl, rfl, trivial⟩ [] (Pick.nil _) ⟨by rw [zw (fun h => by have h3 := h.2.2.1; unfold numsB at h3; rw [hsn2] at h3; simp at h3)]; rfl, rfl⟩
 | true =>
 have n2 := yL hsn2;refine vr 4 ?_;refine Lo 0 sg3 rfl hc4 ?_;refine Cr cl46 rfl (fun m' hm he => smallR) ?_;rintro _ rfl;cases hsn3 : smallB c.health with
 | false =>
   refine vr 46 ?_;exact zB hl2 [_, _] ⟨rfl, rfl, trivial⟩ [] (Pick.nil _) ⟨by rw [zw (fun h => by have h3 := h.2.2.1; unfold numsB at h3; rw [hsn3] at h3; simp at h3)]; rfl, rfl⟩
 | true =>
 have n3 := yL hsn3;refine vr 4 ?_;refine Lo 0 sg3 rfl hc5 ?_;refine Cr cl46 rfl (fun m' hm he => smallR) ?_;rintro _ rfl;cases hsn4 : smallB c.shield with
 | false =>
   refine vr 40 ?_;exact zB hl2 [_, _] ⟨rfl, rfl, trivial⟩ [] (Pick.nil _) ⟨by rw [zw (fun h => by have h3 := h.2.2.1; unfold numsB at h3; rw [hsn4] at h3; simp at h3)]; rfl, rfl⟩
 | true =>
 have n4 := yL hsn4;refine vr 4 ?_;refine Lo 0 sg3 rfl hc6 ?_;refine Cr cl46 rfl (fun m' hm he => smallR) ?_;rintro _ rfl;cases hsn5 : smallB c.apow with
 | false =>
   refine vr 34 ?_;exact zB hl2 [_, _] ⟨rfl, rfl, trivial⟩ [] (Pick.nil _) ⟨by rw [zw (fun h => by have h3 := h.2.2.1; unfold numsB at h3; rw [hsn5] at h3; simp at h3)]; rfl, rfl⟩
 | true =>
 have n5 := yL hsn5;refine vr 4 ?_;refine Lo 0 sg3 rfl hc7 ?_;refine Cr cl46 rfl (fun m' hm he => smallR) ?_;rintro _ rfl;cases hsn6 : smallB c.aheal with
 | false =>
   refine vr 28 ?_;exact zB hl2 [_, _] ⟨rfl, rfl, trivial⟩ [] (Pick.nil _) ⟨by rw [zw (fun h => by have h3 := h.2.2.1; unfold numsB at h3; rw [hsn6] at h3; simp at h3)]; rfl, rfl⟩
 | true =>
 have n6 := yL hsn6;have hnb : numsB c = true := by unfold numsB; rw [hsn1, hsn2, hsn3, hsn4, hsn5, hsn6]; rfl
 have hdl1 := ze c.cost;have hdl2 := ze c.power;have hdl3 := ze c.health;have hdl4 := ze c.shield;have hdl5 := ze c.apow;have hdl6 := ze c.aheal;have hhl := vC c;have hpl2 := hs.lp;have hde2 := hs.ld;have hda2 := hs.lw;have hwts : effsW c.played + effsW c.dead + effsW c.dawn ≤ 900000 := hwt;cases hu : c.unit with
 | false =>
   rw [hu] at hc1;have hhd : headT c = sSp ++ sCharm ++ sSp ++ decP c.cost ++ [32, 123, 10] := by unfold headT; rw [hu]; rfl
   by_cases hpw : c.power = 0
   rotate_left
   ·refine vr 4 ?_;refine Lo 3 sg4 rfl hc1 ?_;refine Lo 0 sg3 rfl hc3 ?_;refine cta 18 ?_;exact zB hl2 [_, _] ⟨rfl, rfl, trivial⟩ [] (Pick.nil _) ⟨by rw [zw (fun h => by have h3 := h.2.1; unfold kindB at h3; rw [hu] at h3; simp [hpw] at h3)]; rfl, rfl⟩
   by_cases hhe : c.health = 0
   rotate_left
   ·refine vr 4 ?_;refine Lo 3 sg4 rfl hc1 ?_;refine Lo 0 sg3 rfl hc3 ?_;refine cfo 2 ?_;refine Lo 0 sg3 rfl hc4 ?_;refine cta 14 ?_;exact zB hl2 [_, _] ⟨rfl, rfl, trivial⟩ [] (Pick.nil _) ⟨by rw [zw (fun h => by have h3 := h.2.1; unfold kindB at h3; rw [hu] at h3; simp [hhe] at h3)]; rfl, rfl⟩
   have hkb : kindB c = true := by unfold kindB; rw [hu]; simp [hpw, hhe]
   refine vr 4 ?_;refine Lo 3 sg4 rfl hc1 ?_;refine Lo 0 sg3 rfl hc3 ?_;refine cfo 2 ?_;refine Lo 0 sg3 rfl hc4 ?_;refine cfo 11 ?_;refine Lo 0 sg9 rfl hc0 ?_;refine Ps 5 ?_;refine y3 (α := Unit) (fun y => [(1, .pointer (some ⟨b1, 0, none⟩)), (4, .string (bs (sCard ++ sSp ++ c.name ++ headT c)))]) (fun y => []) (fun y => True) ?_ ?_
   ·rw [hhd];refine tr 2 ?_;refine Lo 5 sg4 rfl hc1 ?_;refine Ps 1 ?_;refine Lo 0 sg3 rfl hc2 ?_;refine Cr cl47 rfl (fun m' hm he => (digitsR n1.1 n1.2)) ?_;rintro _ rfl;refine Ps 0 ?_;refine Ps 2 ?_;exact zh () ⟨rfl, txeq (by simp), trivial⟩ (Pick.nil _) trivial (by decide)
   rintro ⟨⟩ -;refine tr 2 ?_;refine pe 0 (zV zl97 pl97 rfl rfl) ?_;refine Bx 5 rfl fun b2 => ?_;generalize hHD : (sCard ++ sSp ++ c.name ++ headT c) = HD;have hHDl : HD.length ≤ 100 := by rw [← hHD]; simp; omega
   have hp200 : false = false → 0 ≤ 200 := fun _ => by decide
   have e0 : HD = HD ++ [] := (List.append_nil _).symm;refine y3 (α := List UInt8 × Nat × Bool) (fun y => [(1, .pointer (some ⟨b1, 0, none⟩)), (4, .string (bs (HD ++ y.1))), (5, .pointer (some ⟨b2, 0, none⟩))]) (fun y => [pd b2 y.2.1 0 y.2.2]) (fun y => Out 0 false (secP sPlayed c.played) (effsW c.played) (100 * effsW c.played + 20) 140737488355328 y.1 y.2.1 y.2.2) ?_ ?_
   ·by_cases hlt : 0 < c.played.length
    ·refine tr 2 ?_;refine Lo 1 sg38 rfl hc8 ?_;refine cto 5 ?_;refine Ps 2 ?_;refine Lo 0 sg38 rfl hc8 ?_;refine zC ((zF cl48 rfl .k0 (fun m' hm he => blk48 c.played hs.p m' b2 _ _ (hpl.mono hm) hpl2 m' (Le.refl m') 0 0 false (by omega) (by decide) (fun e => ⟨by decide, hp200 e⟩)) rfl ?_)) rfl;rintro _ _ ⟨s, p1, q1, rfl, rfl, h1⟩;have hsl := h1.len;refine Ps 0 ?_;refine Ps 2 ?_
     exact zh (sSp ++ sPlayed ++ [32, 123] ++ s ++ [32, 125, 10], p1, q1) ⟨rfl, txeq (by simp), rfl, trivial⟩ .p0 (vo (by decide) hlt h1) (by decide)
    ·refine tr 2 ?_;refine Lo 1 sg38 rfl hc8 ?_;refine cfo 4 ?_;exact zh ([], 0, false) ⟨rfl, txeq (by simp), rfl, trivial⟩ .p0 (vq hlt hp200) (by decide)
   rintro ⟨t5, p5, q5⟩ h5;dsimp only at h5 ⊢;have hl5 := h5.len;have hh5 := h5.hi;have hp200 : q5 = false → p5 ≤ 200 := fun e => (h5.good e).2.2;refine tr 2 ?_
   refine y3 (α := List UInt8 × Nat × Bool) (fun y => [(1, .pointer (some ⟨b1, 0, none⟩)), (4, .string (bs (HD ++ t5 ++ y.1))), (5, .pointer (some ⟨b2, 0, none⟩))]) (fun y => [pd b2 y.2.1 0 y.2.2]) (fun y => Out p5 q5 (secP sDead c.dead) (effsW c.dead) (100 * effsW c.dead + 20) 140737488355328 y.1 y.2.1 y.2.2) ?_ ?_
   ·by_cases hlt : 0 < c.dead.length
    ·refine tr 2 ?_;refine Lo 1 sg38 rfl hc9 ?_;refine cto 5 ?_;refine Ps 2 ?_;refine Lo 0 sg38 rfl hc9 ?_;refine zC ((zF cl48 rfl .k0 (fun m' hm he => blk48 c.dead hs.d m' b2 _ _ (hde.mono hm) hde2 m' (Le.refl m') p5 0 q5 (by omega) (by decide) (fun e => ⟨by decide, hp200 e⟩)) rfl ?_)) rfl;rintro _ _ ⟨s, p1, q1, rfl, rfl, h1⟩;have hsl := h1.len;refine Ps 0 ?_;refine Ps 2 ?_
     exact zh (sSp ++ sDead ++ [32, 123] ++ s ++ [32, 125, 10], p1, q1) ⟨rfl, txeq (by simp), rfl, trivial⟩ .p0 (vo (by decide) hlt h1) (by decide)
    ·refine tr 2 ?_;refine Lo 1 sg38 rfl hc9 ?_;refine cfo 4 ?_;exact zh ([], p5, q5) ⟨rfl, txeq (by simp), rfl, trivial⟩ .p0 (vq hlt hp200) (by decide)
   rintro ⟨t6, p6, q6⟩ h6;dsimp only at h6 ⊢;have hl6 := h6.len;have hh6 := h6.hi;have hp200 : q6 = false → p6 ≤ 200 := fun e => (h6.good e).2.2;refine tr 2 ?_
   refine y3 (α := List UInt8 × Nat × Bool) (fun y => [(1, .pointer (some ⟨b1, 0, none⟩)), (4, .string (bs (HD ++ t5 ++ t6 ++ y.1))), (5, .pointer (some ⟨b2, 0, none⟩))]) (fun y => [pd b2 y.2.1 0 y.2.2]) (fun y => Out p6 q6 (secP sDawn c.dawn) (effsW c.dawn) (100 * effsW c.dawn + 20) 140737488355328 y.1 y.2.1 y.2.2) ?_ ?_
   ·by_cases hlt : 0 < c.dawn.length
    ·refine tr 2 ?_;refine Lo 1 sg38 rfl hc10 ?_;refine cto 5 ?_;refine Ps 2 ?_;refine Lo 0 sg38 rfl hc10 ?_;refine zC ((zF cl48 rfl .k0 (fun m' hm he => blk48 c.dawn hs.w m' b2 _ _ (hda.mono hm) hda2 m' (Le.refl m') p6 0 q6 (by omega) (by decide) (fun e => ⟨by decide, hp200 e⟩)) rfl ?_)) rfl;rintro _ _ ⟨s, p1, q1, rfl, rfl, h1⟩;have hsl := h1.len;refine Ps 0 ?_;refine Ps 2 ?_
     exact zh (sSp ++ sDawn ++ [32, 123] ++ s ++ [32, 125, 10], p1, q1) ⟨rfl, txeq (by simp), rfl, trivial⟩ .p0 (vo (by decide) hlt h1) (by decide)
    ·refine tr 2 ?_;refine Lo 1 sg38 rfl hc10 ?_;refine cfo 4 ?_;exact zh ([], p6, q6) ⟨rfl, txeq (by simp), rfl, trivial⟩ .p0 (vq hlt hp200) (by decide)
   rintro ⟨t7, p7, q7⟩ h7;dsimp only at h7 ⊢;have hl7 := h7.len;have hh7 := h7.hi;have hp200 : q7 = false → p7 ≤ 200 := fun e => (h7.good e).2.2;have h56 := h5.put (f := (· ++ ·)) h6 (K := 0) (by simp);have h567 := h56.put (f := (· ++ ·)) h7 (K := 0) (by simp; omega);rw [← jc] at h567;cases q7 with
   | true =>
     have hno : cardP c = none := by
      rcases h567.bad rfl rfl with e | e
      ·unfold cardP; rw [e]; exact ite_self _
      ·exact zw (fun h => by have h4 := h.2.2.2; unfold cardWt at h4; omega)
     refine tr 6 ?_;refine Lb 11 sg4 .here ?_;exact zB hl2 [_, _] ⟨rfl, rfl, trivial⟩ [] (Pick.nil _) ⟨by rw [hno]; rfl, rfl⟩
   | false =>
   have hyes : cardP c = some (HD ++ (t5 ++ t6 ++ t7) ++ auraT c ++ shldT c ++ [125, 10]) := by
    obtain ⟨g1, g2, g3⟩ := h567.good rfl;unfold cardP;rw [if_pos ⟨hnp, hkb, hnb, by unfold cardWt; omega⟩, g1, ← hHD]
    rfl
   have hal := uT c;have hsl := uK c;refine tr 6 ?_;refine Lb 7 sg4 .here ?_;refine y3 (α := Unit) (fun y => [(1, .pointer (some ⟨b1, 0, none⟩)), (4, .string (bs (HD ++ t5 ++ t6 ++ t7 ++ auraT c)))]) (fun y => []) (fun y => True) ?_ ?_
   ·by_cases hap : c.apow = 0
    ·by_cases hah : c.aheal = 0
     ·rw [jL ⟨hap, hah⟩];refine tr 2 ?_;refine Lo 0 sg3 rfl hc6 ?_;refine cfo 2 ?_;refine Lo 0 sg3 rfl hc7 ?_;refine cfo 5 ?_;exact zh () ⟨rfl, txeq (by simp), trivial⟩ (Pick.nil _) trivial (by decide)
     ·rw [vG (fun h => hah h.2)];refine tr 2 ?_;refine Lo 0 sg3 rfl hc6 ?_;refine cfo 2 ?_;refine Lo 0 sg3 rfl hc7 ?_;refine cta 4 ?_;refine Db (sq [0, 1, 2, 3, 7, 8, 104, 5, 6, 109, 10, 11, 12] .done) ?_;refine vB 1 ?_;refine Vs 1 rfl ?_;refine Vr 1 rfl (zG sg3 rfl hc6) ?_;refine Vr 0 rfl (zG sg3 rfl hc7) ?_
      refine zA rfl (zU cl47 rfl (fun m' hm he => (digitsR n5.1 n5.2)) rfl ?_) rfl;rintro _ rfl;refine Vs 0 rfl ?_;refine Vs 0 rfl ?_;refine zA rfl (zU cl47 rfl (fun m' hm he => (digitsR n6.1 n6.2)) rfl ?_) rfl;rintro _ rfl;refine Vs 0 rfl ?_;refine Vs 1 rfl ?_;refine Vn 0 ?_;exact zh () ⟨rfl, txeq (by simp), trivial⟩ (Pick.nil _) trivial (by decide)
    ·rw [vG (fun h => hap h.1)];refine tr 2 ?_;refine Lo 0 sg3 rfl hc6 ?_;refine cta 8 ?_;refine Db (sq [0, 1, 2, 3, 7, 8, 104, 5, 6, 109, 10, 11, 12] .done) ?_;refine vB 1 ?_;refine Vs 1 rfl ?_;refine Vr 1 rfl (zG sg3 rfl hc6) ?_;refine Vr 0 rfl (zG sg3 rfl hc7) ?_;refine zA rfl (zU cl47 rfl (fun m' hm he => (digitsR n5.1 n5.2)) rfl ?_) rfl;rintro _ rfl
     refine Vs 0 rfl ?_;refine Vs 0 rfl ?_;refine zA rfl (zU cl47 rfl (fun m' hm he => (digitsR n6.1 n6.2)) rfl ?_) rfl;rintro _ rfl;refine Vs 0 rfl ?_;refine Vs 1 rfl ?_;refine Vn 0 ?_;exact zh () ⟨rfl, txeq (by simp), trivial⟩ (Pick.nil _) trivial (by decide)
   rintro ⟨⟩ -;by_cases hsh : c.shield = 0
   ·refine tr 4 ?_;refine Lo 0 sg3 rfl hc5 ?_;refine cfo 8 ?_;refine Ps 5 ?_;exact zB hl2 [_, _] ⟨rfl, rfl, trivial⟩ [] (Pick.nil _) ⟨by rw [hyes, qj hsh]; simp [okT]; rfl, rfl⟩
   ·refine tr 4 ?_;refine Lo 0 sg3 rfl hc5 ?_;refine cta 5 ?_;refine Ps 1 ?_;refine Lo 0 sg3 rfl hc5 ?_;refine Cr cl47 rfl (fun m' hm he => (digitsR n4.1 n4.2)) ?_;rintro _ rfl;refine Ps 0 ?_;refine Ps 6 ?_;refine Ps 5 ?_;exact zB hl2 [_, _] ⟨rfl, rfl, trivial⟩ [] (Pick.nil _) ⟨by rw [hyes, qi hsh]; simp [okT]; rfl, rfl⟩
 | true =>
   rw [hu] at hc1;have hhd : headT c = sSp ++ sUnit ++ sSp ++ decP c.cost ++ sSp ++ decP c.power ++ sSlash ++ decP c.health ++ [32, 123, 10] := by unfold headT; rw [hu]; rfl
   have hkb : kindB c = true := by unfold kindB; rw [hu]; rfl
   refine vr 4 ?_;refine Lo 20 sg4 rfl hc1 ?_;refine Lo 0 sg9 rfl hc0 ?_;refine Ps 5 ?_;refine y3 (α := Unit) (fun y => [(1, .pointer (some ⟨b1, 0, none⟩)), (4, .string (bs (sCard ++ sSp ++ c.name ++ headT c)))]) (fun y => []) (fun y => True) ?_ ?_
   ·rw [hhd];refine tr 2 ?_;refine Lo 3 sg4 rfl hc1 ?_;refine Db (sq [0, 1, 2, 3, 7, 8, 12, 13, 104, 5, 6, 109, 10, 11, 114, 15, 16, 17] .done) ?_;refine vB 1 ?_;refine Vs 1 rfl ?_;refine Vr 1 rfl (zG sg3 rfl hc2) ?_;refine Vr 1 rfl (zG sg3 rfl hc3) ?_;refine Vr 0 rfl (zG sg3 rfl hc4) ?_;refine zA rfl (zU cl47 rfl (fun m' hm he => (digitsR n1.1 n1.2)) rfl ?_) rfl;rintro _ rfl
    refine Vs 0 rfl ?_;refine Vs 0 rfl ?_;refine zA rfl (zU cl47 rfl (fun m' hm he => (digitsR n2.1 n2.2)) rfl ?_) rfl;rintro _ rfl;refine Vs 0 rfl ?_;refine Vs 0 rfl ?_;refine zA rfl (zU cl47 rfl (fun m' hm he => (digitsR n3.1 n3.2)) rfl ?_) rfl;rintro _ rfl;refine Vs 0 rfl ?_;refine Vs 1 rfl ?_;refine Vn 0 ?_
    exact zh () ⟨rfl, txeq (by simp), trivial⟩ (Pick.nil _) trivial (by decide)
   rintro ⟨⟩ -;refine tr 2 ?_;refine pe 0 (zV zl97 pl97 rfl rfl) ?_;refine Bx 5 rfl fun b2 => ?_;generalize hHD : (sCard ++ sSp ++ c.name ++ headT c) = HD;have hHDl : HD.length ≤ 100 := by rw [← hHD]; simp; omega
   have hp200 : false = false → 0 ≤ 200 := fun _ => by decide
   have e0 : HD = HD ++ [] := (List.append_nil _).symm;refine y3 (α := List UInt8 × Nat × Bool) (fun y => [(1, .pointer (some ⟨b1, 0, none⟩)), (4, .string (bs (HD ++ y.1))), (5, .pointer (some ⟨b2, 0, none⟩))]) (fun y => [pd b2 y.2.1 0 y.2.2]) (fun y => Out 0 false (secP sPlayed c.played) (effsW c.played) (100 * effsW c.played + 20) 140737488355328 y.1 y.2.1 y.2.2) ?_ ?_
   ·by_cases hlt : 0 < c.played.length
    ·refine tr 2 ?_;refine Lo 1 sg38 rfl hc8 ?_;refine cto 5 ?_;refine Ps 2 ?_;refine Lo 0 sg38 rfl hc8 ?_;refine zC ((zF cl48 rfl .k0 (fun m' hm he => blk48 c.played hs.p m' b2 _ _ (hpl.mono hm) hpl2 m' (Le.refl m') 0 0 false (by omega) (by decide) (fun e => ⟨by decide, hp200 e⟩)) rfl ?_)) rfl;rintro _ _ ⟨s, p1, q1, rfl, rfl, h1⟩;have hsl := h1.len;refine Ps 0 ?_;refine Ps 2 ?_
     exact zh (sSp ++ sPlayed ++ [32, 123] ++ s ++ [32, 125, 10], p1, q1) ⟨rfl, txeq (by simp), rfl, trivial⟩ .p0 (vo (by decide) hlt h1) (by decide)
    ·refine tr 2 ?_;refine Lo 1 sg38 rfl hc8 ?_;refine cfo 4 ?_;exact zh ([], 0, false) ⟨rfl, txeq (by simp), rfl, trivial⟩ .p0 (vq hlt hp200) (by decide)
   rintro ⟨t5, p5, q5⟩ h5;dsimp only at h5 ⊢;have hl5 := h5.len;have hh5 := h5.hi;have hp200 : q5 = false → p5 ≤ 200 := fun e => (h5.good e).2.2;refine tr 2 ?_
   refine y3 (α := List UInt8 × Nat × Bool) (fun y => [(1, .pointer (some ⟨b1, 0, none⟩)), (4, .string (bs (HD ++ t5 ++ y.1))), (5, .pointer (some ⟨b2, 0, none⟩))]) (fun y => [pd b2 y.2.1 0 y.2.2]) (fun y => Out p5 q5 (secP sDead c.dead) (effsW c.dead) (100 * effsW c.dead + 20) 140737488355328 y.1 y.2.1 y.2.2) ?_ ?_
   ·by_cases hlt : 0 < c.dead.length
    ·refine tr 2 ?_;refine Lo 1 sg38 rfl hc9 ?_;refine cto 5 ?_;refine Ps 2 ?_;refine Lo 0 sg38 rfl hc9 ?_;refine zC ((zF cl48 rfl .k0 (fun m' hm he => blk48 c.dead hs.d m' b2 _ _ (hde.mono hm) hde2 m' (Le.refl m') p5 0 q5 (by omega) (by decide) (fun e => ⟨by decide, hp200 e⟩)) rfl ?_)) rfl;rintro _ _ ⟨s, p1, q1, rfl, rfl, h1⟩;have hsl := h1.len;refine Ps 0 ?_;refine Ps 2 ?_
     exact zh (sSp ++ sDead ++ [32, 123] ++ s ++ [32, 125, 10], p1, q1) ⟨rfl, txeq (by simp), rfl, trivial⟩ .p0 (vo (by decide) hlt h1) (by decide)
    ·refine tr 2 ?_;refine Lo 1 sg38 rfl hc9 ?_;refine cfo 4 ?_;exact zh ([], p5, q5) ⟨rfl, txeq (by simp), rfl, trivial⟩ .p0 (vq hlt hp200) (by decide)
   rintro ⟨t6, p6, q6⟩ h6;dsimp only at h6 ⊢;have hl6 := h6.len;have hh6 := h6.hi;have hp200 : q6 = false → p6 ≤ 200 := fun e => (h6.good e).2.2;refine tr 2 ?_
   refine y3 (α := List UInt8 × Nat × Bool) (fun y => [(1, .pointer (some ⟨b1, 0, none⟩)), (4, .string (bs (HD ++ t5 ++ t6 ++ y.1))), (5, .pointer (some ⟨b2, 0, none⟩))]) (fun y => [pd b2 y.2.1 0 y.2.2]) (fun y => Out p6 q6 (secP sDawn c.dawn) (effsW c.dawn) (100 * effsW c.dawn + 20) 140737488355328 y.1 y.2.1 y.2.2) ?_ ?_
   ·by_cases hlt : 0 < c.dawn.length
    ·refine tr 2 ?_;refine Lo 1 sg38 rfl hc10 ?_;refine cto 5 ?_;refine Ps 2 ?_;refine Lo 0 sg38 rfl hc10 ?_;refine zC ((zF cl48 rfl .k0 (fun m' hm he => blk48 c.dawn hs.w m' b2 _ _ (hda.mono hm) hda2 m' (Le.refl m') p6 0 q6 (by omega) (by decide) (fun e => ⟨by decide, hp200 e⟩)) rfl ?_)) rfl;rintro _ _ ⟨s, p1, q1, rfl, rfl, h1⟩;have hsl := h1.len;refine Ps 0 ?_;refine Ps 2 ?_
     exact zh (sSp ++ sDawn ++ [32, 123] ++ s ++ [32, 125, 10], p1, q1) ⟨rfl, txeq (by simp), rfl, trivial⟩ .p0 (vo (by decide) hlt h1) (by decide)
    ·refine tr 2 ?_;refine Lo 1 sg38 rfl hc10 ?_;refine cfo 4 ?_;exact zh ([], p6, q6) ⟨rfl, txeq (by simp), rfl, trivial⟩ .p0 (vq hlt hp200) (by decide)
   rintro ⟨t7, p7, q7⟩ h7;dsimp only at h7 ⊢;have hl7 := h7.len;have hh7 := h7.hi;have hp200 : q7 = false → p7 ≤ 200 := fun e => (h7.good e).2.2;have h56 := h5.put (f := (· ++ ·)) h6 (K := 0) (by simp);have h567 := h56.put (f := (· ++ ·)) h7 (K := 0) (by simp; omega);rw [← jc] at h567;cases q7 with
   | true =>
     have hno : cardP c = none := by
      rcases h567.bad rfl rfl with e | e
      ·unfold cardP; rw [e]; exact ite_self _
      ·exact zw (fun h => by have h4 := h.2.2.2; unfold cardWt at h4; omega)
     refine tr 6 ?_;refine Lb 11 sg4 .here ?_;exact zB hl2 [_, _] ⟨rfl, rfl, trivial⟩ [] (Pick.nil _) ⟨by rw [hno]; rfl, rfl⟩
   | false =>
   have hyes : cardP c = some (HD ++ (t5 ++ t6 ++ t7) ++ auraT c ++ shldT c ++ [125, 10]) := by
    obtain ⟨g1, g2, g3⟩ := h567.good rfl;unfold cardP;rw [if_pos ⟨hnp, hkb, hnb, by unfold cardWt; omega⟩, g1, ← hHD]
    rfl
   have hal := uT c;have hsl := uK c;refine tr 6 ?_;refine Lb 7 sg4 .here ?_;refine y3 (α := Unit) (fun y => [(1, .pointer (some ⟨b1, 0, none⟩)), (4, .string (bs (HD ++ t5 ++ t6 ++ t7 ++ auraT c)))]) (fun y => []) (fun y => True) ?_ ?_
   ·by_cases hap : c.apow = 0
    ·by_cases hah : c.aheal = 0
     ·rw [jL ⟨hap, hah⟩];refine tr 2 ?_;refine Lo 0 sg3 rfl hc6 ?_;refine cfo 2 ?_;refine Lo 0 sg3 rfl hc7 ?_;refine cfo 5 ?_;exact zh () ⟨rfl, txeq (by simp), trivial⟩ (Pick.nil _) trivial (by decide)
     ·rw [vG (fun h => hah h.2)];refine tr 2 ?_;refine Lo 0 sg3 rfl hc6 ?_;refine cfo 2 ?_;refine Lo 0 sg3 rfl hc7 ?_;refine cta 4 ?_;refine Db (sq [0, 1, 2, 3, 7, 8, 104, 5, 6, 109, 10, 11, 12] .done) ?_;refine vB 1 ?_;refine Vs 1 rfl ?_;refine Vr 1 rfl (zG sg3 rfl hc6) ?_;refine Vr 0 rfl (zG sg3 rfl hc7) ?_
      refine zA rfl (zU cl47 rfl (fun m' hm he => (digitsR n5.1 n5.2)) rfl ?_) rfl;rintro _ rfl;refine Vs 0 rfl ?_;refine Vs 0 rfl ?_;refine zA rfl (zU cl47 rfl (fun m' hm he => (digitsR n6.1 n6.2)) rfl ?_) rfl;rintro _ rfl;refine Vs 0 rfl ?_;refine Vs 1 rfl ?_;refine Vn 0 ?_;exact zh () ⟨rfl, txeq (by simp), trivial⟩ (Pick.nil _) trivial (by decide)
    ·rw [vG (fun h => hap h.1)];refine tr 2 ?_;refine Lo 0 sg3 rfl hc6 ?_;refine cta 8 ?_;refine Db (sq [0, 1, 2, 3, 7, 8, 104, 5, 6, 109, 10, 11, 12] .done) ?_;refine vB 1 ?_;refine Vs 1 rfl ?_;refine Vr 1 rfl (zG sg3 rfl hc6) ?_;refine Vr 0 rfl (zG sg3 rfl hc7) ?_;refine zA rfl (zU cl47 rfl (fun m' hm he => (digitsR n5.1 n5.2)) rfl ?_) rfl;rintro _ rfl
     refine Vs 0 rfl ?_;refine Vs 0 rfl ?_;refine zA rfl (zU cl47 rfl (fun m' hm he => (digitsR n6.1 n6.2)) rfl ?_) rfl;rintro _ rfl;refine Vs 0 rfl ?_;refine Vs 1 rfl ?_;refine Vn 0 ?_;exact zh () ⟨rfl, txeq (by simp), trivial⟩ (Pick.nil _) trivial (by decide)
   rintro ⟨⟩ -;by_cases hsh : c.shield = 0
   ·refine tr 4 ?_;refine Lo 0 sg3 rfl hc5 ?_;refine cfo 8 ?_;refine Ps 5 ?_;exact zB hl2 [_, _] ⟨rfl, rfl, trivial⟩ [] (Pick.nil _) ⟨by rw [hyes, qj hsh]; simp [okT]; rfl, rfl⟩
   ·refine tr 4 ?_;refine Lo 0 sg3 rfl hc5 ?_;refine cta 5 ?_;refine Ps 1 ?_;refine Lo 0 sg3 rfl hc5 ?_;refine Cr cl47 rfl (fun m' hm he => (digitsR n4.1 n4.2)) ?_;rintro _ rfl;refine Ps 0 ?_;refine Ps 6 ?_;refine Ps 5 ?_;exact zB hl2 [_, _] ⟨rfl, rfl, trivial⟩ [] (Pick.nil _) ⟨by rw [hyes, qi hsh]; simp [okT]; rfl, rfl⟩
end
section
open Wd Tp Kd
variable {m : Mp}
theorem XH (l : List (List UInt8)) (x sep : List UInt8) : Lib.join (l ++ [x]) sep = if l = [] then x else Lib.join l sep ++ sep ++ x := by
 cases l with
 | nil => rw [if_pos rfl, List.nil_append, Lib.join_one]
 | cons y r =>
   rw [if_neg (by simp), List.cons_append, Lib.join_cons, Lib.join_cons]
   simp [Lib.joinTail]
theorem XI {l : List (List UInt8)} {i : Nat} (h : i < l.length) (sep : List UInt8) : Lib.join (l.take (i + 1)) sep = if i = 0 then l[i] else Lib.join (l.take i) sep ++ sep ++ l[i] := by
 rw [List.take_add_one, List.getElem?_eq_getElem h, Option.toList_some, XH];by_cases h0 : i = 0
 ·rw [if_pos h0, if_pos (by subst h0; rfl)]
 ·rw [if_neg h0, if_neg (fun e => by have := congrArg List.length e; rw [List.length_take, List.length_nil] at this; omega)]
abbrev nmV (w : List UInt8) (l : List (List UInt8)) : Value := .tuple #[.string (bs (if l.all nameP = true then namesT w l else [])), .bool (l.all nameP)]
theorem all_no {l : List (List UInt8)} {i : Nat} (h : i < l.length) (hn : nameP l[i] = false) : l.all nameP = false := by
 cases ha : l.all nameP with
 | false => rfl
 | true => have := List.all_eq_true.1 ha _ (List.getElem_mem h); rw [hn] at this; cases this
theorem names90 {w : List UInt8} {l : List (List UInt8)} {K : Option Addr} {kc : Nat} (hw : w.length ≤ 10) (hr : RdN m K kc l) (hb : ∀ s ∈ l, s.length ≤ 140737488355328) (hn : l.length ≤ 1000000000) : CS Tryz.prog 90 [.string (bs w), .slice K l.length kc] m [] (Gives (nmV w l)) := by
 refine zn [.tmp 4, .tmp 5] Tryz.func90 rfl rfl rfl ?_;by_cases h0 : l.length = 0
 ·have e := List.eq_nil_of_length_eq_zero h0;subst e;refine tr 11 ?_;refine ctr 11 ?_;exact zl [_, _] ⟨rfl, rfl, trivial⟩ [] (Pick.nil _) ⟨rfl, rfl⟩
 refine tr 11 ?_;refine cfo 8 ?_;refine Ps 0 ?_;refine Ps 10 ?_
 refine zu (α := LpS) (fun y => [(0, .string (bs w)), (1, .slice K l.length kc), (6, .string (bs y.l)), (7, .int .i64 (y.i : Nat))]) (fun y => [])
  (fun y => y.i ≤ l.length ∧ (∀ s ∈ l.take y.i, nameP s = true) ∧ y.l = sSp ++ w ++ sSp ++ Lib.join (l.take y.i) [44, 32]) (fun y => l.length - y.i) ⟨0, [32] ++ w ++ [32]⟩ ⟨rfl, rfl, rfl, rfl, trivial⟩ (Pick.nil _) ⟨Nat.zero_le _, by simp, by simp [Lib.join_nil]⟩ ?_
 rintro ⟨i, s⟩ ⟨hi, hall, hs⟩;dsimp only at hi hall hs;dsimp only
 have hsl : s.length ≤ 43000000000 := by
  have h1 := wL (k := 40) (sep := [44, 32]) (l := l.take i) (fun s hs => yF (hall s hs));have h2 : (l.take i).length * (40 + [44, (32 : UInt8)].length) = (l.take i).length * 42 := rfl;have h3 : (l.take i).length ≤ l.length := by rw [List.length_take]; omega
  rw [hs];simp only [List.length_append, List.length_cons, List.length_nil];omega
 by_cases hlt : i < l.length
 ·have hA : K.isSome = true := hr.1.isSome (by simp; omega);have hat : mc m ((sa K).add i) = some (.string (bs l[i])) := hr.1.at_ (i := i) (by rw [List.getElem?_map, List.getElem?_eq_getElem hlt]; rfl);have hxl := hb _ (List.getElem_mem hlt);have hnx := XI hlt [44, 32];have hrc := hr.2;refine tr 6 ?_;refine cto 12 ?_;refine pe 0 (zH ez61 rfl rfl hA (by omega)) ?_
  refine Lo 0 sg9 rfl hat ?_;refine Cr cl45 rfl (fun m' hm he => (vi hxl)) ?_;rintro _ rfl;cases hnp : nameP l[i] with
  | false =>
    refine vr 14 ?_;refine zS ?_;refine zT ?_;refine zd ?_;exact zl [_, _] ⟨rfl, rfl, trivial⟩ [] (Pick.nil _) ⟨by unfold nmV; rw [all_no hlt hnp]; rfl, rfl⟩
  | true =>
  have hall2 : ∀ s ∈ l.take (i + 1), nameP s = true := by
   intro t ht;rw [List.take_add_one, List.getElem?_eq_getElem hlt, Option.toList_some] at ht;rcases List.mem_append.1 ht with h | h
   ·exact hall _ h
   ·rw [List.mem_singleton.1 h]; exact hnp
  by_cases hz : i = 0
  ·rw [if_pos hz] at hnx;refine vr 10 ?_;refine cfo 9 ?_;refine pe 0 (zH ez61 rfl rfl hA (by omega)) ?_;refine Lo 0 sg9 rfl hat ?_;refine pe 6 (vf rfl rfl (by omega)) ?_;refine Pa 2 ?_
   exact zh (⟨i + 1, sSp ++ w ++ sSp ++ l[i]⟩ : LpS) ⟨rfl, rfl, txeq (by rw [hs]; subst hz; simp [Lib.join_nil]), rfl, trivial⟩ (Pick.nil _) ⟨hlt, hall2, by dsimp only; rw [hnx]⟩ (by dsimp only; omega)
  ·rw [if_neg hz] at hnx;refine vr 10 ?_;refine cto 5 ?_;refine Ps 7 ?_;refine pe 0 (zH ez61 rfl rfl hA (by omega)) ?_;refine Lo 0 sg9 rfl hat ?_;refine Ps 6 ?_;refine Pa 2 ?_;exact QR (⟨i + 1, s ++ [44, 32] ++ l[i]⟩ : LpS) (Pick.nil _) ⟨hlt, hall2, by dsimp only; rw [hnx, hs]; simp⟩ (by dsimp only; omega)
 ·have hi2 : i = l.length := by omega
  subst hi2;rw [List.take_length] at hs hall;have ha : l.all nameP = true := List.all_eq_true.2 hall;refine tr 6 ?_;refine cfo 5 ?_;refine zE ?_;refine zD ?_;refine qt 4 ?_;refine Ps 5 ?_;exact zl [_, _] ⟨rfl, rfl, trivial⟩ [] (Pick.nil _) ⟨by unfold nmV; rw [ha, if_pos rfl, y7 (by omega), hs]; simp; rfl, rfl⟩
theorem rule91 {w : List UInt8} {n : Int} (hw : w.length ≤ 10) (h0 : 0 ≤ n) (h9 : n ≤ 999) : CS Tryz.prog 91 [.string (bs w), .int .i64 n] m [] (Gives (.string (bs (ruleT w n)))) := by
 refine zn [.tmp 4] Tryz.func91 rfl rfl rfl ?_;by_cases hz : n = 0
 ·rw [vu hz];refine tr 9 ?_;refine cta 10 ?_;exact rt1 ⟨rfl, trivial⟩ ⟨rfl, rfl⟩
 ·have hdl := ze n;rw [yj hz];refine tr 9 ?_;refine cfa 8 ?_;refine Ps 0 ?_;refine Ps 1 ?_;refine Cr cl47 rfl (fun m' hm he => (digitsR h0 h9)) ?_;rintro _ rfl;refine Ps 0 ?_;refine Ps 4 ?_;exact rt1 ⟨rfl, trivial⟩ ⟨congrArg (fun l => tup [.string (bs l)]) (by simp), rfl⟩
def FmV (f : FmtT) (v : Value) (L' : List Ent) : Prop := L' = [] ∧ ((∃ s, fmtP f = some s ∧ v = .tuple #[.string (bs s), .bool true]) ∨ (∃ s, fmtP f = none ∧ v = .tuple #[.string (bs s), .bool false]))
theorem format39 {f : FmtT} {vs : List Value} (hx : FmtX m vs f) (hs : FmtSm f) : CS Tryz.prog 39 [.agg vs.toArray] m [] (FmV f) := by
 obtain ⟨q, rfl, hB, hS⟩ := hx;have hnl := hs.name;skip;refine zn [.tmp 2, .tmp 3] Tryz.func39 rfl rfl rfl ?_;refine tr 2 ?_;refine Bx 6 rfl fun b1 => ?_;refine zI .here (fun ns hi _ hd1 => ?_);have hR : Rd (uni m ns) (some ⟨b1, 0, none⟩) (q.v f) := (Rd.blk hi).mono (zP hd1);have hl2 : Le m (uni m ns) := zN _ _;clear hi hd1;generalize uni m ns = m9 at hR hl2;have hB := hB.mono hl2
 have hS := hS.mono hl2;have hc0 : mc m9 ⟨b1, 0, none⟩ = some (.string (bs f.name)) := hR.at_ (i := 0) rfl;have hc1 : mc m9 ⟨b1, 1, none⟩ = some (.int .i64 f.least) := hR.at_ (i := 1) rfl;have hc2 : mc m9 ⟨b1, 2, none⟩ = some (.int .i64 f.most) := hR.at_ (i := 2) rfl;have hc3 : mc m9 ⟨b1, 3, none⟩ = some (.int .i64 f.copies) := hR.at_ (i := 3) rfl
 have hc4 : mc m9 ⟨b1, 4, none⟩ = some (.slice q.A f.banned.length q.ca) := hR.at_ (i := 4) rfl;have hc5 : mc m9 ⟨b1, 5, none⟩ = some (.slice q.B f.single.length q.cb) := hR.at_ (i := 5) rfl;refine tr 2 ?_;refine Lo 0 sg9 rfl hc0 ?_;refine Cr cl45 rfl (fun m' hm he => (vi hnl)) ?_;rintro _ rfl;cases hnp : nameP f.name with
 | false =>
   refine vr 30 ?_;exact zB hl2 [_, _] ⟨rfl, rfl, trivial⟩ [] (Pick.nil _) ⟨rfl, .inr ⟨[], xa (fun h => by rw [hnp] at h; exact absurd h.1 (by decide)), rfl⟩⟩
 | true =>
 have hn40 := yF hnp;refine vr 3 ?_;refine Lo 0 sg3 rfl hc1 ?_;refine Cr cl46 rfl (fun m' hm he => smallR) ?_;rintro _ rfl;cases hsn1 : smallB f.least with
 | false =>
   refine vr 25 ?_;exact zB hl2 [_, _] ⟨rfl, rfl, trivial⟩ [] (Pick.nil _) ⟨rfl, .inr ⟨[], xa (fun h => by have h3 := h.2.1; rw [hsn1] at h3; cases h3), rfl⟩⟩
 | true =>
 have n1 := yL hsn1;refine vr 4 ?_;refine Lo 0 sg3 rfl hc2 ?_;refine Cr cl46 rfl (fun m' hm he => smallR) ?_;rintro _ rfl;cases hsn2 : smallB f.most with
 | false =>
   refine vr 19 ?_;exact zB hl2 [_, _] ⟨rfl, rfl, trivial⟩ [] (Pick.nil _) ⟨rfl, .inr ⟨[], xa (fun h => by have h3 := h.2.2.1; rw [hsn2] at h3; cases h3), rfl⟩⟩
 | true =>
 have n2 := yL hsn2;refine vr 4 ?_;refine Lo 0 sg3 rfl hc3 ?_;refine Cr cl46 rfl (fun m' hm he => smallR) ?_;rintro _ rfl;cases hsn3 : smallB f.copies with
 | false =>
   refine vr 13 ?_;exact zB hl2 [_, _] ⟨rfl, rfl, trivial⟩ [] (Pick.nil _) ⟨rfl, .inr ⟨[], xa (fun h => by have h3 := h.2.2.2.1; rw [hsn3] at h3; cases h3), rfl⟩⟩
 | true =>
 have n3 := yL hsn3;have r1 := xj (w := sLeast) f.least (by decide);have r2 := xj (w := sMost) f.most (by decide);have r3 := xj (w := sCopies) f.copies (by decide);cases ha : f.banned.all nameP with
 | true =>
   refine vr 10 ?_;refine Lo 0 sg61 rfl hc4 ?_;refine Cr cl90 rfl (fun m' hm he => (names90 (w := sBanned) (by decide) (hB.mono hm) hs.b hs.lb)) ?_;rintro _ rfl;rw [show nmV sBanned f.banned = .tuple #[.string (bs (namesT sBanned f.banned)), .bool true] by unfold nmV; rw [ha]; rfl];have ga := xS (w := sBanned) (by decide) (List.all_eq_true.1 ha) hs.lb;cases hb : f.single.all nameP with
   | true =>
     refine vr 10 ?_;refine Lo 0 sg61 rfl hc5 ?_;refine Cr cl90 rfl (fun m' hm he => (names90 (w := sSingle) (by decide) (hS.mono hm) hs.s hs.ls)) ?_;rintro _ rfl;rw [show nmV sSingle f.single = .tuple #[.string (bs (namesT sSingle f.single)), .bool true] by unfold nmV; rw [hb]; rfl];have gb := xS (w := sSingle) (by decide) (List.all_eq_true.1 hb) hs.ls;refine vr 8 ?_
     refine Db (sq [0, 1, 2, 3, 4, 5, 8, 9, 12, 13, 16, 18, 21, 106, 7, 110, 11, 114, 15, 17, 19, 20, 22, 23, 24, 25, 26] .done) ?_;refine vB 1 ?_;refine Vr 0 rfl (zG sg9 rfl hc0) ?_;refine Vs 0 rfl ?_;refine Vs 1 rfl ?_;refine Vr 1 rfl (zG sg3 rfl hc1) ?_;refine Vr 1 rfl (zG sg3 rfl hc2) ?_;refine Vr 3 rfl (zG sg3 rfl hc3) ?_
     refine zA rfl (zU cl91 rfl (fun m' hm he => (rule91 (w := sLeast) (by decide) n1.1 n1.2)) rfl ?_) rfl;rintro _ rfl;refine Vs 0 rfl ?_;refine zA rfl (zU cl91 rfl (fun m' hm he => (rule91 (w := sMost) (by decide) n2.1 n2.2)) rfl ?_) rfl;rintro _ rfl;refine Vs 0 rfl ?_
     refine zA rfl (zU cl91 rfl (fun m' hm he => (rule91 (w := sCopies) (by decide) n3.1 n3.2)) rfl ?_) rfl;rintro _ rfl
     iterate 4 (refine Vs 0 rfl ?_)
     refine vB 5 ?_;refine Vn 2 ?_;exact zB hl2 [_, _] ⟨rfl, rfl, trivial⟩ [] (Pick.nil _) ⟨rfl, .inl ⟨_, by unfold fmtP; rw [if_pos ⟨hnp, hsn1, hsn2, hsn3, ha, hb⟩], congrArg (fun l => tup [.string (bs l), .bool true]) (by simp)⟩⟩
   | false =>
     refine vr 10 ?_;refine Lo 0 sg61 rfl hc5 ?_;refine Cr cl90 rfl (fun m' hm he => (names90 (w := sSingle) (by decide) (hS.mono hm) hs.s hs.ls)) ?_;rintro _ rfl;rw [show nmV sSingle f.single = .tuple #[.string (bs []), .bool false] by unfold nmV; rw [hb]; rfl];refine vr 8 ?_
     refine Db (sq [0, 1, 2, 3, 4, 5, 8, 9, 12, 13, 16, 18, 21, 106, 7, 110, 11, 114, 15, 17, 19, 20, 22, 23, 24, 25, 26] .done) ?_;refine vB 1 ?_;refine Vr 0 rfl (zG sg9 rfl hc0) ?_;refine Vs 0 rfl ?_;refine Vs 1 rfl ?_;refine Vr 1 rfl (zG sg3 rfl hc1) ?_;refine Vr 1 rfl (zG sg3 rfl hc2) ?_;refine Vr 3 rfl (zG sg3 rfl hc3) ?_
     refine zA rfl (zU cl91 rfl (fun m' hm he => (rule91 (w := sLeast) (by decide) n1.1 n1.2)) rfl ?_) rfl;rintro _ rfl;refine Vs 0 rfl ?_;refine zA rfl (zU cl91 rfl (fun m' hm he => (rule91 (w := sMost) (by decide) n2.1 n2.2)) rfl ?_) rfl;rintro _ rfl;refine Vs 0 rfl ?_
     refine zA rfl (zU cl91 rfl (fun m' hm he => (rule91 (w := sCopies) (by decide) n3.1 n3.2)) rfl ?_) rfl;rintro _ rfl
     iterate 4 (refine Vs 0 rfl ?_)
     refine vB 5 ?_;refine Vn 2 ?_;exact zB hl2 [_, _] ⟨rfl, rfl, trivial⟩ [] (Pick.nil _) ⟨rfl, .inr ⟨_, xa (fun h => by have h3 := h.2.2.2.2.2; rw [hb] at h3; cases h3), rfl⟩⟩
 | false =>
   refine vr 10 ?_;refine Lo 0 sg61 rfl hc4 ?_;refine Cr cl90 rfl (fun m' hm he => (names90 (w := sBanned) (by decide) (hB.mono hm) hs.b hs.lb)) ?_;rintro _ rfl;rw [show nmV sBanned f.banned = .tuple #[.string (bs []), .bool false] by unfold nmV; rw [ha]; rfl];cases hb : f.single.all nameP with
   | true =>
     refine vr 10 ?_;refine Lo 0 sg61 rfl hc5 ?_;refine Cr cl90 rfl (fun m' hm he => (names90 (w := sSingle) (by decide) (hS.mono hm) hs.s hs.ls)) ?_;rintro _ rfl;rw [show nmV sSingle f.single = .tuple #[.string (bs (namesT sSingle f.single)), .bool true] by unfold nmV; rw [hb]; rfl];have gb := xS (w := sSingle) (by decide) (List.all_eq_true.1 hb) hs.ls;refine vr 8 ?_
     refine Db (sq [0, 1, 2, 3, 4, 5, 8, 9, 12, 13, 16, 18, 21, 106, 7, 110, 11, 114, 15, 17, 19, 20, 22, 23, 24, 25, 26] .done) ?_;refine vB 1 ?_;refine Vr 0 rfl (zG sg9 rfl hc0) ?_;refine Vs 0 rfl ?_;refine Vs 1 rfl ?_;refine Vr 1 rfl (zG sg3 rfl hc1) ?_;refine Vr 1 rfl (zG sg3 rfl hc2) ?_;refine Vr 3 rfl (zG sg3 rfl hc3) ?_
     refine zA rfl (zU cl91 rfl (fun m' hm he => (rule91 (w := sLeast) (by decide) n1.1 n1.2)) rfl ?_) rfl;rintro _ rfl;refine Vs 0 rfl ?_;refine zA rfl (zU cl91 rfl (fun m' hm he => (rule91 (w := sMost) (by decide) n2.1 n2.2)) rfl ?_) rfl;rintro _ rfl;refine Vs 0 rfl ?_
     refine zA rfl (zU cl91 rfl (fun m' hm he => (rule91 (w := sCopies) (by decide) n3.1 n3.2)) rfl ?_) rfl;rintro _ rfl
     iterate 4 (refine Vs 0 rfl ?_)
     refine vB 5 ?_;refine Vn 2 ?_;exact zB hl2 [_, _] ⟨rfl, rfl, trivial⟩ [] (Pick.nil _) ⟨rfl, .inr ⟨_, xa (fun h => by have h3 := h.2.2.2.2.1; rw [ha] at h3; cases h3), rfl⟩⟩
   | false =>
     refine vr 10 ?_;refine Lo 0 sg61 rfl hc5 ?_;refine Cr cl90 rfl (fun m' hm he => (names90 (w := sSingle) (by decide) (hS.mono hm) hs.s hs.ls)) ?_;rintro _ rfl;rw [show nmV sSingle f.single = .tuple #[.string (bs []), .bool false] by unfold nmV; rw [hb]; rfl];refine vr 8 ?_
     refine Db (sq [0, 1, 2, 3, 4, 5, 8, 9, 12, 13, 16, 18, 21, 106, 7, 110, 11, 114, 15, 17, 19, 20, 22, 23, 24, 25, 26] .done) ?_;refine vB 1 ?_;refine Vr 0 rfl (zG sg9 rfl hc0) ?_;refine Vs 0 rfl ?_;refine Vs 1 rfl ?_;refine Vr 1 rfl (zG sg3 rfl hc1) ?_;refine Vr 1 rfl (zG sg3 rfl hc2) ?_;refine Vr 3 rfl (zG sg3 rfl hc3) ?_
     refine zA rfl (zU cl91 rfl (fun m' hm he => (rule91 (w := sLeast) (by decide) n1.1 n1.2)) rfl ?_) rfl;rintro _ rfl;refine Vs 0 rfl ?_;refine zA rfl (zU cl91 rfl (fun m' hm he => (rule91 (w := sMost) (by decide) n2.1 n2.2)) rfl ?_) rfl;rintro _ rfl;refine Vs 0 rfl ?_
     refine zA rfl (zU cl91 rfl (fun m' hm he => (rule91 (w := sCopies) (by decide) n3.1 n3.2)) rfl ?_) rfl;rintro _ rfl
     iterate 4 (refine Vs 0 rfl ?_)
     refine vB 5 ?_;refine Vn 2 ?_;exact zB hl2 [_, _] ⟨rfl, rfl, trivial⟩ [] (Pick.nil _) ⟨rfl, .inr ⟨_, xa (fun h => by have h3 := h.2.2.2.2.1; rw [ha] at h3; cases h3), rfl⟩⟩
end
section
open Wd Tp Kd
variable {m : Mp}
def TxI (bl : Nat) (b : BkT) (s : List UInt8) (L' : List Ent) : Prop := ∃ T q, bookP b = some T ∧ L' = [lgE bl q] ∧ ((q = false ∧ s = T ∧ T.length ≤ 65536) ∨ (q = true ∧ 65536 < T.length))
structure TyS where
 i : Nat
 q : Bool
 p : Value
 A : Option Addr
 c : Nat
 l : List UInt8
 T : List UInt8
structure TyI (b : BkT) (bb k : Nat) (y : TyS) : Prop where
 cat : catP ((textsL b).take k) = some y.T
 st : (y.q = false ∧ y.l = y.T) ∨ (y.q = true ∧ 65536 < y.T.length)
 len : y.l.length ≤ 65536
 buf : Buf y.A y.l
 pb : PB bb y.p
abbrev bk2 (K : Option Addr) (n kc : Nat) (F : Option Addr) (f fc : Nat) : List Value := [.slice K n kc, .slice F f fc]
theorem text32 (hT : TabI m) (hU : Tabs m) {B bl kc fc : Nat} {K F : Option Addr} {b : BkT} (hR : Rd m (some ⟨B, 0, none⟩) (bk2 K b.cards.length kc F b.fmts.length fc)) (hC : CardsX m K b.cards) (hF : FmtsX m F b.fmts) (hs : BkSm b) :
  CSP Tryz.prog 32 [ptr B, ptr bl] m [lgE bl false] (fun v L' => ∃ s, v = .string (bs s) ∧ TxI bl b s L') (fun v _ => bookP b = none ∧ v = wrongV) := by
 have hc0 : mc m ⟨B, 0, none⟩ = some (.slice K b.cards.length kc) := hR.at_ (i := 0) rfl;have hc1 : mc m ⟨B, 1, none⟩ = some (.slice F b.fmts.length fc) := hR.at_ (i := 1) rfl;have hlc := hs.lc;have hlf := hs.lf;have htl := wz b;refine zg [.tmp 2] Tryz.func32 rfl rfl rfl ?_
 have hno : ¬ (b.cards.length ≤ 240 ∧ b.fmts.length ≤ 240) → bookP b = none := fun h => by unfold bookP; rw [if_neg h]
 by_cases hL1 : b.cards.length ≤ 240
 rotate_left
 ·refine tr 8 ?_;refine Lo 1 sg23 rfl hc0 ?_;refine cfo 6 ?_;refine Mf fun _ => ?_;exact pn ⟨hno (fun h => hL1 h.1), rfl⟩
 by_cases hL2 : b.fmts.length ≤ 240
 rotate_left
 ·refine tr 8 ?_;refine Lo 1 sg23 rfl hc0 ?_;refine cto 2 ?_;refine Lo 1 sg24 rfl hc1 ?_;refine cfo 1 ?_;refine Mf fun _ => ?_;exact pn ⟨hno (fun h => hL2 h.2), rfl⟩
 have hbk : bookP b = catP (textsL b) := by unfold bookP; rw [if_pos ⟨hL1, hL2⟩]; rfl
 refine tr 8 ?_;refine Lo 1 sg23 rfl hc0 ?_;refine cto 2 ?_;refine Lo 1 sg24 rfl hc1 ?_;refine cto 1 ?_;refine Mt 4 ?_;refine Al 10 zl76 fun b1 => ?_;refine xC 5 1 ?_;refine tr 2 ?_;refine Lo 5 sg23 rfl hc0 ?_
 refine zu (α := TyS) (fun y => [(0, ptr B), (1, ptr bl), (3, ptr b1), (4, .func (.func 34) [].toArray [ptr bl, ptr b1].toArray), (24, .slice K b.cards.length kc), (25, .int .i64 (b.cards.length : Nat)), (26, .int .i64 (y.i : Nat))]) (fun y => lgE bl y.q :: buL b1 y.p y.A y.c y.l) (fun y => y.i ≤ b.cards.length ∧ TyI b b1 y.i y) (fun y => b.cards.length - y.i) ⟨0, false, .pointer none, none, 0, [], []⟩ ⟨rfl, rfl, rfl, rfl, rfl, rfl, rfl, trivial⟩ (.cons .h2 (.cons .h1 .p0)) ⟨Nat.zero_le _, ⟨rfl, .inl ⟨rfl, rfl⟩, Nat.zero_le _, Buf.nil, .inl rfl⟩⟩ ?_
 rintro ⟨i, q, p, A, c, l, T⟩ ⟨hi, hI⟩;dsimp only at hi;dsimp only;by_cases hlt : i < b.cards.length
 ·have hti : i < (textsL b).length := by omega
  obtain ⟨hstop, hcat2⟩ := xg hti hI.cat;rw [qJ hlt] at hstop hcat2;obtain ⟨vs, hrd, hvl, hel⟩ := hC;have hA : K.isSome = true := hrd.isSome (by omega);have hat := hrd.elem (i * 12) 12;have hx := hel i hlt;have hsm := hs.c _ (List.getElem_mem hlt);have hl12 : ((vs.drop (i * 12)).take 12).length = 12 := by obtain ⟨q, h, -⟩ := hx; rw [h]; rfl
  have hsz : ∀ s, cardP b.cards[i] = some s → s.length ≤ 21000 := fun s h => jJ h;clear hel;generalize b.cards[i] = x at hstop hcat2 hx hsm hsz;have hxq := hx;obtain ⟨cq, hcv, -⟩ := hxq;rw [hcv] at hat hx;clear hcv hl12;refine tr 2 ?_;refine cto 10 ?_;refine pe 0 (zM ez23 rfl rfl hA (by omega)) ?_;refine La 0 ag40 hat ?_;refine Al 0 zl40 fun b2 => ?_;refine Sg 4 ag40 .here ?_
  refine Lc 0 ag40 .here ?_;refine Cr cl14 rfl (fun m' hm he => (Card14 (hT.mono hm) (hU.mono hm) (hx.mono hm) hsm)) ?_;rintro _ rfl;cases hcp : cardP x with
  | none =>
    dsimp only [okT];refine vr 10 ?_;refine cfo 0 ?_;refine Mf fun _ => ?_;refine zX ?_;refine zK ?_;exact pn ⟨hbk.trans (hstop hcp), rfl⟩
  | some s =>
    dsimp only [okT];have hsl := hsz s hcp;have hcat2 := hcat2 s hcp;refine vr 10 ?_;refine ctr 0 ?_;refine Mt 5 ?_;refine zC ((yh (p := []) (q := [ptr bl, ptr b1]) (vs := [.string (bs s)]) (ppost := fun _ _ => False) cl34 rfl rfl (.cons .h1 (.cons .h1 .k1)) (fun m' hm he => (put34 hI.pb hI.buf hI.len (by omega)).toP) rfl ?_ ?_)) rfl
    ·rintro _ _ h;exact h.elim
    rintro _ _ ⟨rfl, ⟨hlg, rfl⟩ | ⟨hq, hle, A2, c2, hB2, rfl⟩⟩
    ·refine vr 4 ?_;refine Pa 2 ?_;refine QR (⟨i + 1, true, p, A, c, l, T ++ s⟩ : TyS) (.cons .here .pp) ⟨hlt, hcat2, .inr ⟨rfl, ?_⟩, hI.len, hI.buf, hI.pb⟩ (by dsimp only; omega);show 65536 < (T ++ s).length;rw [List.length_append];rcases hI.st with ⟨g1, g2⟩ | ⟨g1, g2⟩
     ·have g1 : q = false := g1;have g2 : l = T := g2;rcases hlg with h | h
      ·rw [g1] at h; cases h
      ·rw [← g2]; exact h
     ·have g2 : 65536 < T.length := g2;omega
    ·have hlT : l = T := by
      rcases hI.st with ⟨g1, g2⟩ | ⟨g1, g2⟩
      ·exact g2
      ·have g1 : q = true := g1;rw [hq] at g1;cases g1
     refine vr 4 ?_;refine Pa 2 ?_;exact QR (⟨i + 1, false, ptr b1, A2, c2, l ++ s, T ++ s⟩ : TyS) (.cons .here .pp) ⟨hlt, hcat2, .inl ⟨rfl, by show l ++ s = T ++ s; rw [hlT]⟩, by show (l ++ s).length ≤ _; rw [List.length_append]; exact hle, hB2, .inr rfl⟩ (by dsimp only; omega)
 have hie : i = b.cards.length := by omega
 subst hie;clear hlt hi;refine tr 2 ?_;refine cfo 6 ?_;refine zE ?_;refine zD ?_;refine qt 5 ?_;refine Lo 5 sg24 rfl hc1 ?_
 refine zu (α := TyS) (fun y => [(0, ptr B), (1, ptr bl), (3, ptr b1), (4, .func (.func 34) [].toArray [ptr bl, ptr b1].toArray), (43, .slice F b.fmts.length fc), (44, .int .i64 (b.fmts.length : Nat)), (45, .int .i64 (y.i : Nat))]) (fun y => lgE bl y.q :: buL b1 y.p y.A y.c y.l) (fun y => y.i ≤ b.fmts.length ∧ TyI b b1 (b.cards.length + y.i) y) (fun y => b.fmts.length - y.i) ⟨0, q, p, A, c, l, T⟩ ⟨rfl, rfl, rfl, rfl, rfl, rfl, rfl, trivial⟩ (Pick.refl _) ⟨Nat.zero_le _, ⟨hI.cat, hI.st, hI.len, hI.buf, hI.pb⟩⟩ ?_
 clear hI;rintro ⟨i, q, p, A, c, l, T⟩ ⟨hi, hI⟩;dsimp only at hi hI;dsimp only;by_cases hlt : i < b.fmts.length
 ·have hti : b.cards.length + i < (textsL b).length := by omega
  obtain ⟨hstop, hcat2⟩ := xg hti hI.cat;rw [qf hlt] at hstop hcat2;obtain ⟨vs, hrd, hvl, hel⟩ := hF;have hA : F.isSome = true := hrd.isSome (by omega);have hat := hrd.elem (i * 7) 7;have hx := hel i hlt;have hsm := hs.f _ (List.getElem_mem hlt);have hsz : ∀ s, fmtP b.fmts[i] = some s → s.length ≤ 90000000000 := fun s h => jh hsm h;clear hel
  generalize b.fmts[i] = x at hstop hcat2 hx hsm hsz;obtain ⟨cq, hcv, hxB, hxS⟩ := hx;rw [hcv] at hat;clear hcv;refine tr 2 ?_;refine cto 10 ?_;refine pe 0 (zM ez24 rfl rfl hA (by omega)) ?_;refine La 0 ag63 hat ?_;refine Al 0 zl63 fun b2 => ?_;refine Sg 4 ag63 .here ?_;refine Lc 0 ag63 .here ?_
  refine Cp cl37 rfl .nil (fun m' hm he => format37 (hT.mono hm) (hU.mono hm) (hxB.mono hm) (hxS.mono hm) hsm) ?_ ?_
  ·rintro _ _ ⟨g1, rfl⟩;refine zX ?_;refine zK ?_;exact pn ⟨hbk.trans (hstop g1), rfl⟩
  rintro _ _ ⟨s, g1, rfl, rfl⟩;have hsl := hsz s g1;have hcat2 := hcat2 s g1;skip;refine zC ((yh (p := []) (q := [ptr bl, ptr b1]) (vs := [.string (bs s)]) (ppost := fun _ _ => False) cl34 rfl rfl (.cons .h1 (.cons .h1 .k1)) (fun m' hm he => (put34 hI.pb hI.buf hI.len (by omega)).toP) rfl ?_ ?_)) rfl
  ·rintro _ _ h;exact h.elim
  rintro _ _ ⟨rfl, ⟨hlg, rfl⟩ | ⟨hq, hle, A2, c2, hB2, rfl⟩⟩
  ·refine vr 4 ?_;refine Pa 2 ?_;refine QR (⟨i + 1, true, p, A, c, l, T ++ s⟩ : TyS) (.cons .here .pp) ⟨hlt, hcat2, .inr ⟨rfl, ?_⟩, hI.len, hI.buf, hI.pb⟩ (by dsimp only; omega);show 65536 < (T ++ s).length;rw [List.length_append];rcases hI.st with ⟨g1, g2⟩ | ⟨g1, g2⟩
   ·have g1 : q = false := g1;have g2 : l = T := g2;rcases hlg with h | h
    ·rw [g1] at h; cases h
    ·rw [← g2]; exact h
   ·have g2 : 65536 < T.length := g2;omega
  ·have hlT : l = T := by
    rcases hI.st with ⟨g1, g2⟩ | ⟨g1, g2⟩
    ·exact g2
    ·have g1 : q = true := g1;rw [hq] at g1;cases g1
   refine vr 4 ?_;refine Pa 2 ?_;exact QR (⟨i + 1, false, ptr b1, A2, c2, l ++ s, T ++ s⟩ : TyS) (.cons .here .pp) ⟨hlt, hcat2, .inl ⟨rfl, by show l ++ s = T ++ s; rw [hlT]⟩, by show (l ++ s).length ≤ _; rw [List.length_append]; exact hle, hB2, .inr rfl⟩ (by dsimp only; omega)
 have hie : i = b.fmts.length := by omega
 subst hie;have hcT := hI.cat;rw [← htl, List.take_length] at hcT;refine tr 2 ?_;refine cfo 6 ?_;refine zE ?_;refine zD ?_;refine qt 3 ?_;refine zC ((zF cl38 rfl (.cons .h1 .k1) (fun m' hm he => String38 hI.buf (Nat.le_trans hI.len (by decide))) rfl ?_)) rfl;rintro _ _ ⟨rfl, rfl⟩;refine vr 4 ?_
 refine zi [_] ⟨rfl, trivial⟩ [_] .p0 ⟨l, rfl, T, q, hbk.trans hcT, rfl, ?_⟩;rcases hI.st with ⟨g1, g2⟩ | ⟨g1, g2⟩
 ·have g2 : l = T := g2;exact .inl ⟨g1, g2, by rw [← g2]; exact hI.len⟩
 ·exact .inr ⟨g1, g2⟩
theorem uZ {b : BkT} {T : List UInt8} (h : bookP b = some T) : textP b = if 65536 < T.length then ([], 3) else (T, 0) := by unfold textP; rw [h]
theorem qg {b : BkT} (h : bookP b = none) : textP b = ([], 2) := by unfold textP; rw [h]
abbrev txV (r : List UInt8 × Int) : Value := .tuple [.string (bs r.1), .int .i64 r.2].toArray
theorem Text12 (hT : TabI m) (hU : Tabs m) {kc fc : Nat} {K F : Option Addr} {b : BkT} (hC : CardsX m K b.cards) (hF : FmtsX m F b.fmts) (hs : BkSm b) :
  CS Tryz.prog 12 [.agg (bk2 K b.cards.length kc F b.fmts.length fc).toArray] m [] (Gives (txV (textP b))) := by
 refine zn [.tmp 2, .tmp 3] Tryz.func12 rfl rfl rfl ?_;refine tr 2 ?_;refine Bx 5 rfl fun b1 => ?_;refine zI .here (fun ns hi _ hd1 => ?_);have hR : Rd (uni m ns) (some ⟨b1, 0, none⟩) (bk2 K b.cards.length kc F b.fmts.length fc) := (Rd.blk hi).mono (zP hd1);have hl2 : Le m (uni m ns) := zN _ _;clear hi hd1;refine tr 1 ?_;refine Al 0 zl4 fun b2 => ?_;refine Sr 5 co4 .here .here ?_
 refine C1 cl31 rfl .here (fun m' hm he => safe31 (g := 32) (q := [ptr b1, ptr b2]) (pre := [lgE b2 false]) (N := bookP b = none) (I := fun s L' => TxI b2 b s L') cl32 (fun m2 h2 => have hl := hl2.trans (hm.trans h2); text32 (hT.mono hl) (hU.mono hl) (hR.mono (hm.trans h2)) (hC.mono hl) (hF.mono hl) hs)) ?_;rintro _ _ hq
 rcases hq with ⟨s, rfl, T, q, hbT, rfl, ⟨rfl, rfl, hle⟩ | ⟨rfl, hgt⟩⟩ | ⟨hs, rfl, rfl⟩
 ·rw [uZ hbT, if_neg (by omega)];dsimp only [okT];refine vr 11 ?_;refine ctr 1 ?_;refine Lb 15 sg4 .here ?_;exact zB hl2 [_, _] ⟨rfl, rfl, trivial⟩ [] (Pick.nil _) ⟨rfl, rfl⟩
 ·rw [uZ hbT, if_pos hgt];dsimp only [okT];refine vr 11 ?_;refine ctr 1 ?_;refine Lb 12 sg4 .here ?_;exact zB hl2 [_, _] ⟨rfl, rfl, trivial⟩ [] (Pick.nil _) ⟨rfl, rfl⟩
 ·rw [qg hs];dsimp only [okT];refine vr 11 ?_;refine cfo 17 ?_;exact zB hl2 [_, _] ⟨rfl, rfl, trivial⟩ [] (Pick.nil _) ⟨rfl, rfl⟩
end
section
open Wd Tp Kd
variable {m : Mp}
structure TxS where
 i : Nat
 q : Bool
 l : List UInt8
 T : List UInt8
structure TxJ (b : BkT) (i : Nat) (y : TxS) : Prop where
 cat : catP ((textsL b).take i) = some y.T
 st : (y.q = false ∧ y.l = y.T) ∨ (y.q = true ∧ 65536 < y.T.length)
 len : y.l.length ≤ 65536
theorem qh {b : BkT} (h : ¬ (b.cards.length ≤ 240 ∧ b.fmts.length ≤ 240)) : textP b = ([], 2) := qg (by unfold bookP; rw [if_neg h])
theorem ja {b : BkT} (h1 : b.cards.length ≤ 240) (h2 : b.fmts.length ≤ 240) (h : catP (textsL b) = none) : textP b = ([], 2) := qg (by unfold bookP; rw [if_pos ⟨h1, h2⟩]; exact h)
theorem Xi {b : BkT} {T : List UInt8} (h1 : b.cards.length ≤ 240) (h2 : b.fmts.length ≤ 240) (h : catP (textsL b) = some T) : bookP b = some T := by unfold bookP; rw [if_pos ⟨h1, h2⟩]; exact h
theorem TxJ.more {b : BkT} {i : Nat} {y : TxS} {s : List UInt8} (h : TxJ b i y) (hi : i < (textsL b).length) (hs : (textsL b)[i] = some s) (hq : y.q = true ∨ 65536 < y.l.length + s.length) : TxJ b (i + 1) ⟨y.i, true, y.l, y.T ++ s⟩ := by
 refine ⟨(xg hi h.cat).2 s hs, .inr ⟨rfl, ?_⟩, h.len⟩;dsimp only;rw [List.length_append];rcases h.st with ⟨g1, g2⟩ | ⟨g1, g2⟩
 ·rcases hq with hq | hq
  ·rw [g1] at hq; cases hq
  ·rw [g2] at hq; exact hq
 ·omega
theorem TxJ.next {b : BkT} {i : Nat} {y : TxS} {s : List UInt8} (h : TxJ b i y) (hi : i < (textsL b).length) (hs : (textsL b)[i] = some s) (hq : y.q = false) (hl : y.l.length + s.length ≤ 65536) : TxJ b (i + 1) ⟨y.i, false, y.l ++ s, y.T ++ s⟩ := by
 refine ⟨(xg hi h.cat).2 s hs, .inl ⟨rfl, ?_⟩, by rw [List.length_append]; exact hl⟩;rcases h.st with ⟨g1, g2⟩ | ⟨g1, g2⟩
 ·dsimp only; rw [g2]
 ·rw [hq] at g1; cases g1
theorem CardR14 {m : Mp} {vs : List Value} {c : CardT} (h : CardX m vs c) : ∃ q : CardC, vs = q.v c := ⟨h.choose, h.choose_spec.1⟩
theorem FmtR7 {m : Mp} {vs : List Value} {f : FmtT} (h : FmtX m vs f) : ∃ q : FmtC, vs = q.v f := ⟨h.choose, h.choose_spec.1⟩
theorem Text13 {kc fc : Nat} {K F : Option Addr} {b : BkT} (hC : CardsX m K b.cards) (hF : FmtsX m F b.fmts) (hs : BkSm b) (hwt : ∀ c ∈ b.cards, cardWt c ≤ 900000) :
  CS Tryz.prog 13 [.agg (bk2 K b.cards.length kc F b.fmts.length fc).toArray] m [] (Gives (txV (textP b))) := by
 have hlc := hs.lc;have hlf := hs.lf;have htl := wz b;refine zn [.tmp 2, .tmp 3] Tryz.func13 rfl rfl rfl ?_;refine tr 2 ?_;refine Bx 6 rfl fun b1 => ?_;refine zI .here (fun ns hi _ hd1 => ?_);have hR : Rd (uni m ns) (some ⟨b1, 0, none⟩) (bk2 K b.cards.length kc F b.fmts.length fc) := (Rd.blk hi).mono (zP hd1);have hl2 : Le m (uni m ns) := zN _ _;clear hi hd1
 generalize uni m ns = m9 at hR hl2;have hC := hC.mono hl2;have hF := hF.mono hl2;have hc0 : mc m9 ⟨b1, 0, none⟩ = some (.slice K b.cards.length kc) := hR.at_ (i := 0) rfl;have hc1 : mc m9 ⟨b1, 1, none⟩ = some (.slice F b.fmts.length fc) := hR.at_ (i := 1) rfl;by_cases hL1 : b.cards.length ≤ 240
 rotate_left
 ·refine tr 2 ?_;refine Lo 1 sg23 rfl hc0 ?_;refine cto 17 ?_;exact zB hl2 [_, _] ⟨rfl, rfl, trivial⟩ [] (Pick.nil _) ⟨by rw [qh (fun h => hL1 h.1)]; rfl, rfl⟩
 by_cases hL2 : b.fmts.length ≤ 240
 rotate_left
 ·refine tr 2 ?_;refine Lo 1 sg23 rfl hc0 ?_;refine cfo 2 ?_;refine Lo 1 sg24 rfl hc1 ?_;refine cto 12 ?_;exact zB hl2 [_, _] ⟨rfl, rfl, trivial⟩ [] (Pick.nil _) ⟨by rw [qh (fun h => hL2 h.2)]; rfl, rfl⟩
 obtain ⟨vs, hrd, hvl, hel⟩ := hC;obtain ⟨us, hrf, hul, hef⟩ := hF;refine tr 2 ?_;refine Lo 1 sg23 rfl hc0 ?_;refine cfo 2 ?_;refine Lo 1 sg24 rfl hc1 ?_;refine cfo 23 ?_
 refine zu (α := TxS) (fun y => [(1, .pointer (some ⟨b1, 0, none⟩)), (4, .string (bs y.l)), (5, .bool y.q), (6, .int .i64 (y.i : Nat))]) (fun y => []) (fun y => y.i ≤ b.cards.length ∧ TxJ b y.i y) (fun y => b.cards.length - y.i) ⟨0, false, [], []⟩ ⟨rfl, rfl, rfl, rfl, trivial⟩ (Pick.nil _) ⟨Nat.zero_le _, ⟨rfl, .inl ⟨rfl, rfl⟩, Nat.zero_le _⟩⟩ ?_;rintro ⟨i, q, l, T⟩ ⟨hi, hI⟩
 dsimp only at hi hI;dsimp only;have hll := hI.len;dsimp only at hll;by_cases hlt : i < b.cards.length
 ·have hA : K.isSome = true := hrd.isSome (by omega);have hat := hrd.elem (i * 12) 12;have hx := hel i hlt;obtain ⟨q1, e⟩ := CardR14 hx;have hsm := hs.c _ (List.getElem_mem hlt);have hw := hwt _ (List.getElem_mem hlt);have hti : i < (textsL b).length := by omega
  have hgt := qJ hlt;rw [e] at hat hx;clear e;refine tr 5 ?_;refine Lo 1 sg23 rfl hc0 ?_;refine cto 10 ?_;refine Lo 1 sg23 rfl hc0 ?_;refine pe 0 (zM ez23 rfl rfl hA (by omega)) ?_;refine La 0 ag40 hat ?_;refine Cr cl15 rfl (fun m' hm he => (Card15 (hx.mono hm) hsm hw)) ?_;rintro _ rfl;cases hcp : cardP b.cards[i] with
  | none =>
    rw [hcp] at hgt;rw [show okT none = .tuple #[.string (bs []), .int .i64 2] from rfl];refine vr 11 ?_;refine cto 14 ?_;refine zS ?_;refine zT ?_;refine zd ?_;exact zB hl2 [_, _] ⟨rfl, rfl, trivial⟩ [] (Pick.nil _) ⟨by rw [ja hL1 hL2 ((xg hti hI.cat).1 hgt)]; rfl, rfl⟩
  | some s =>
    rw [hcp] at hgt;have hsl := jJ hcp;rw [show okT (some s) = .tuple #[.string (bs s), .int .i64 0] from rfl];cases q with
    | true =>
      refine vr 11 ?_;refine cfo 31 ?_;refine Pa 2 ?_;exact QR (⟨i + 1, true, l, T ++ s⟩ : TxS) (Pick.nil _) ⟨hlt, by have := hI.more hti hgt (.inl rfl); exact ⟨this.cat, this.st, this.len⟩⟩ (by dsimp only; omega)
    | false =>
      by_cases hlong : 65536 < l.length + s.length
      ·refine vr 11 ?_;refine cfo 10 ?_;refine pe 1 (zb rfl st9) ?_;refine pe 0 (zb rfl st9) ?_;refine pe 0 (zp rfl rfl (by omega)) ?_;refine cto 16 ?_;refine Pa 2 ?_;exact QR (⟨i + 1, true, l, T ++ s⟩ : TxS) (Pick.nil _) ⟨hlt, by have := hI.more hti hgt (.inr hlong); exact ⟨this.cat, this.st, this.len⟩⟩ (by dsimp only; omega)
      ·refine vr 11 ?_;refine cfo 10 ?_;refine pe 1 (zb rfl st9) ?_;refine pe 0 (zb rfl st9) ?_;refine pe 0 (zp rfl rfl (by omega)) ?_;refine cfo 14 ?_;refine pe 6 (vf rfl rfl (by omega)) ?_;refine Pa 2 ?_
       exact QR (⟨i + 1, false, l ++ s, T ++ s⟩ : TxS) (Pick.nil _) ⟨hlt, by have := hI.next hti hgt rfl (by dsimp only; omega); exact ⟨this.cat, this.st, this.len⟩⟩ (by dsimp only; omega)
 have hi2 : i = b.cards.length := by omega
 subst hi2;refine tr 5 ?_;refine Lo 1 sg23 rfl hc0 ?_;refine cfo 5 ?_;refine zE ?_;refine zD ?_;refine qt 8 ?_
 refine zu (α := TxS) (fun y => [(1, .pointer (some ⟨b1, 0, none⟩)), (4, .string (bs y.l)), (5, .bool y.q), (9, .int .i64 (y.i : Nat))]) (fun y => []) (fun y => y.i ≤ b.fmts.length ∧ TxJ b (b.cards.length + y.i) y) (fun y => b.fmts.length - y.i) ⟨0, q, l, T⟩ ⟨rfl, rfl, rfl, rfl, trivial⟩ (Pick.nil _) ⟨Nat.zero_le _, ⟨hI.cat, hI.st, hI.len⟩⟩ ?_;clear hI hll;rintro ⟨i, q, l, T⟩ ⟨hi, hI⟩
 dsimp only at hi hI;dsimp only;have hll := hI.len;dsimp only at hll;by_cases hlt : i < b.fmts.length
 ·have hA : F.isSome = true := hrf.isSome (by omega);have hat := hrf.elem (i * 7) 7;have hx := hef i hlt;obtain ⟨q1, e⟩ := FmtR7 hx;have hsm := hs.f _ (List.getElem_mem hlt);have hti : b.cards.length + i < (textsL b).length := by omega
  have hgt := qf hlt;rw [e] at hat hx;clear e;refine tr 5 ?_;refine Lo 1 sg24 rfl hc1 ?_;refine cto 10 ?_;refine Lo 1 sg24 rfl hc1 ?_;refine pe 0 (zM ez24 rfl rfl hA (by omega)) ?_;refine La 0 ag63 hat ?_;refine zC ((wB cl39 rfl (fun m' hm he => format39 (hx.mono hm) hsm) rfl ?_)) rfl;rintro _ _ ⟨rfl, hv⟩;rcases hv with ⟨s, hfp, rfl⟩ | ⟨s, hfp, rfl⟩
  ·rw [hfp] at hgt;have hsl := jh hsm hfp;cases q with
   | true =>
     refine vr 43 ?_;refine Pa 2 ?_;exact QR (⟨i + 1, true, l, T ++ s⟩ : TxS) (Pick.nil _) ⟨hlt, by have := hI.more hti hgt (.inl rfl); exact ⟨this.cat, this.st, this.len⟩⟩ (by dsimp only; omega)
   | false =>
     by_cases hlong : 65536 < l.length + s.length
     ·refine vr 22 ?_;refine pe 1 (zb rfl st9) ?_;refine pe 0 (zb rfl st9) ?_;refine pe 0 (zp rfl rfl (by omega)) ?_;refine cto 16 ?_;refine Pa 2 ?_;exact QR (⟨i + 1, true, l, T ++ s⟩ : TxS) (Pick.nil _) ⟨hlt, by have := hI.more hti hgt (.inr hlong); exact ⟨this.cat, this.st, this.len⟩⟩ (by dsimp only; omega)
     ·refine vr 22 ?_;refine pe 1 (zb rfl st9) ?_;refine pe 0 (zb rfl st9) ?_;refine pe 0 (zp rfl rfl (by omega)) ?_;refine cfo 14 ?_;refine pe 6 (vf rfl rfl (by omega)) ?_;refine Pa 2 ?_;exact QR (⟨i + 1, false, l ++ s, T ++ s⟩ : TxS) (Pick.nil _) ⟨hlt, by have := hI.next hti hgt rfl (by dsimp only; omega); exact ⟨this.cat, this.st, this.len⟩⟩ (by dsimp only; omega)
  ·rw [hfp] at hgt;refine vr 25 ?_;refine zS ?_;refine zT ?_;refine zd ?_;exact zB hl2 [_, _] ⟨rfl, rfl, trivial⟩ [] (Pick.nil _) ⟨by rw [ja hL1 hL2 ((xg hti hI.cat).1 hgt)]; rfl, rfl⟩
 have hi2 : i = b.fmts.length := by omega
 subst hi2;have hcat := hI.cat;rw [← htl, List.take_length] at hcat;have hbk := Xi hL1 hL2 hcat;rcases hI.st with ⟨g1, g2⟩ | ⟨g1, g2⟩
 ·dsimp only at g1 g2 hbk;subst g1 g2;refine tr 5 ?_;refine Lo 1 sg24 rfl hc1 ?_;refine cfo 5 ?_;refine zE ?_;refine zD ?_;refine qt 18 ?_;exact zB hl2 [_, _] ⟨rfl, rfl, trivial⟩ [] (Pick.nil _) ⟨by rw [uZ hbk, if_neg (by omega)]; rfl, rfl⟩
 ·dsimp only at g1 g2 hbk;subst g1;refine tr 5 ?_;refine Lo 1 sg24 rfl hc1 ?_;refine cfo 5 ?_;refine zE ?_;refine zD ?_;refine qt 16 ?_;exact zB hl2 [_, _] ⟨rfl, rfl, trivial⟩ [] (Pick.nil _) ⟨by rw [uZ hbk, if_pos g2]; rfl, rfl⟩
end
namespace Tp
open Go Go.Eng Wd Kd
def szE : EffT → Nat
 | .mk _ _ n _ c t e => 1 + numW n + condW c + (t.attach.map fun x => szE x.1).sum + (e.attach.map fun x => szE x.1).sum
termination_by x => SizeOf.sizeOf x
decreasing_by
 all_goals
  have := List.sizeOf_lt_of_mem x.2;simp only [EffT.mk.sizeOf_spec];omega
def szL (l : List EffT) : Nat := (l.map szE).sum
theorem Zk (op who : Int) (n : NumT) (name : List UInt8) (c : CondT) (t e : List EffT) : szE (.mk op who n name c t e) = 1 + numW n + condW c + szL t + szL e := by
 rw [szE, List.attach_map_val (f := szE), List.attach_map_val (f := szE)]
 rfl
theorem jz {α : Type} {f g : α → Nat} : ∀ {l : List α}, (∀ x ∈ l, f x ≤ g x) → (l.map f).sum ≤ (l.map g).sum
 | [], _ => Nat.le_refl _
 | x :: r, h => by
   have h1 := h x (.head _);have h2 := jz (l := r) fun y hy => h y (.tail _ hy);simp only [List.map_cons, List.sum_cons];omega
theorem kI (x : EffT) : effW x ≤ szE x := by
 obtain ⟨op, who, n, name, c, t, e⟩ := x;have ht : effsW t ≤ szL t := jz fun y hy => kI y;have he : effsW e ≤ szL e := jz fun y hy => kI y;rw [wX, Zk];unfold effsW at ht he
 split <;> split <;> omega
termination_by SizeOf.sizeOf x
decreasing_by
 all_goals
  have := List.sizeOf_lt_of_mem hy;simp only [EffT.mk.sizeOf_spec];omega
theorem jE (l : List EffT) : effsW l ≤ szL l := jz fun y _ => kI y
theorem szE_pos (x : EffT) : 1 ≤ szE x := by obtain ⟨op, who, n, name, c, t, e⟩ := x; rw [Zk]; omega
def szC (c : CardT) : Nat := szL c.played + szL c.dead + szL c.dawn
def szF (f : FmtT) : Nat := f.banned.length + f.single.length
def grT (b : BkT) : Nat := b.cards.length + b.fmts.length + (b.cards.map szC).sum + (b.fmts.map szF).sum
theorem j6 {α : Type} (f : α → Nat) (l : List α) (i : Nat) : ((l.take i).map f).sum ≤ (l.map f).sum := by
 have e : (l.map f).sum = ((l.take i).map f).sum + ((l.drop i).map f).sum := by
  conv => lhs; rw [← List.take_append_drop i l, List.map_append, List.sum_append]
 omega
theorem WP {α : Type} (f : α → Nat) {l : List α} {x : α} (h : x ∈ l) : f x ≤ (l.map f).sum := by
 induction l with
 | nil => cases h
 | cons y r ih =>
   simp only [List.map_cons, List.sum_cons];rcases List.mem_cons.1 h with rfl | h
   ·omega
   ·have := ih h; omega
end Tp
section
open Wd Tp Kd
variable {m : Mp}
theorem Xu {α : Type} {Q : Post} {S : α → Env} {LL : α → List Ent} {F : α → Prop} {μ : α → Nat} {k : Nat} {env : Env} {L : List Ent} {m m2 : Mp} (hl : Le m m2) (y : α) (hs : Sub (S y) env) (hp : Pick L (LL y)) (hF : F y) (hk : μ y < k) : QS (roundS m S LL F μ k Q) .normal env m2 L :=
 fun h hh => ⟨y, hs, ⟨hF, (hp m2 h hh).weaken hl⟩, hk⟩
abbrev capV (n : Nat) : Value := .int .i64 ((min n 100000 : Nat))
theorem kM (a w c : Nat) (h : c = min a 100000) : min (c + min w 100000) 100000 = min (a + w) 100000 := by omega
theorem sizeNum85 {cs : List Value} {x : NumT} (hx : NumR m cs x) : ∀ m0, Le m m0 → CS Tryz.prog 85 [.agg cs.toArray] m0 [] (Gives (capV (numW x))) := by
 induction hx with
 | @mk op n who kids A len c vs ho hln hmx hr hv hkk ih =>
 subst hln;intro m0 hm0;have hmx : kids.length ≤ 9223372036854775807 := hmx;refine zn [.tmp 2] Tryz.func85 rfl rfl rfl ?_;refine tr 2 ?_;refine Bx 4 rfl fun b1 => ?_;refine zI .here (fun ns hi _ hd1 => ?_);have hR : Rd (uni m0 ns) (some ⟨b1, 0, none⟩) (n4 op n who A kids.length c) := (Rd.blk hi).mono (zP hd1);have hl2 : Le m0 (uni m0 ns) := zN _ _;clear hi hd1
 generalize uni m0 ns = m9 at hR hl2;have hl9 := hm0.trans hl2;have hc3 : mc m9 ⟨b1, 3, none⟩ = some (.slice A kids.length c) := hR.at_ (i := 3) rfl;have hr := hr.mono hl9;refine tr 11 ?_
 refine zu (α := Nat × Nat) (fun y => [(1, .pointer (some ⟨b1, 0, none⟩)), (3, .int .i64 (y.2 : Nat)), (4, .int .i64 (y.1 : Nat))]) (fun _ => []) (fun y => y.1 ≤ kids.length ∧ y.2 = min (1 + ((kids.take y.1).map numW).sum) 100000) (fun y => kids.length - y.1) (0, 1) ⟨rfl, rfl, rfl, trivial⟩ (Pick.nil _) ⟨Nat.zero_le _, rfl⟩ ?_;rintro ⟨i, a⟩ ⟨hi, ha⟩;dsimp only at hi ha;dsimp only
 by_cases hlt : i < kids.length
 ·have hA : A.isSome = true := hr.isSome (by omega);have hat := hr.elem (i * 4) 4;have hx := hkk i hlt;have hih := ih i hlt;have htk := wI numW hlt;obtain ⟨n1, w1, A1, l1, c1, e1⟩ := NumR.formO hx;rw [e1] at hat hih;clear hx e1;have hcap := kM (1 + ((kids.take i).map numW).sum) (numW kids[i]) a ha;refine tr 5 ?_;refine Lo 1 sg43 rfl hc3 ?_;refine cto 10 ?_;refine Lo 1 sg43 rfl hc3 ?_
  refine pe 0 (zM ez43 rfl rfl hA (by omega)) ?_;refine La 0 ag45 hat ?_;refine Cr cl85 rfl (fun m' hm he => (hih m' (hl9.trans hm))) ?_;rintro _ rfl;refine pe 0 (zp rfl rfl (by omega)) ?_;refine pe 6 (vI rfl rfl) ?_;refine Pa 2 ?_
  exact QR ((i + 1, min (a + min (numW kids[i]) 100000) 100000) : Nat × Nat) (Pick.nil _) ⟨hlt, by dsimp only; rw [hcap, htk, Nat.add_assoc]⟩ (by dsimp only; omega)
 ·have hi2 : i = kids.length := by omega
  subst hi2;rw [List.take_length] at ha;refine tr 5 ?_;refine Lo 1 sg43 rfl hc3 ?_;refine cfo 5 ?_;refine zE ?_;refine zD ?_;refine qt 8 ?_;exact rt2 hl2 ⟨rfl, trivial⟩ ⟨by rw [wT, ha]; rfl, rfl⟩
theorem sizeCond86 {cs : List Value} {x : CondT} (hx : CondR m cs x) : ∀ m0, Le m m0 → CS Tryz.prog 86 [.agg cs.toArray] m0 [] (Gives (capV (condW x))) := by
 induction hx with
 | @mk op who name nums kids A B la ca lb cb vs us ho hw hn hla hma hra hva hka hlb hmb hrb hvb hkb ih =>
 subst hla hlb;intro m0 hm0;have hma : nums.length ≤ 9223372036854775807 := hma;have hmb : kids.length ≤ 9223372036854775807 := hmb;refine zn [.tmp 2] Tryz.func86 rfl rfl rfl ?_;refine tr 2 ?_;refine Bx 4 rfl fun b1 => ?_;refine zI .here (fun ns hi _ hd1 => ?_);have hR : Rd (uni m0 ns) (some ⟨b1, 0, none⟩) (c5 op who name A nums.length ca B kids.length cb) := (Rd.blk hi).mono (zP hd1)
 have hl2 : Le m0 (uni m0 ns) := zN _ _;clear hi hd1;generalize uni m0 ns = m9 at hR hl2;have hl9 := hm0.trans hl2;have hc3 : mc m9 ⟨b1, 3, none⟩ = some (.slice A nums.length ca) := hR.at_ (i := 3) rfl;have hc4 : mc m9 ⟨b1, 4, none⟩ = some (.slice B kids.length cb) := hR.at_ (i := 4) rfl;have hra := hra.mono hl9;have hrb := hrb.mono hl9;refine tr 11 ?_
 refine zu (α := Nat × Nat) (fun y => [(1, .pointer (some ⟨b1, 0, none⟩)), (3, .int .i64 (y.2 : Nat)), (4, .int .i64 (y.1 : Nat))]) (fun _ => []) (fun y => y.1 ≤ nums.length ∧ y.2 = min (1 + ((nums.take y.1).map numW).sum) 100000) (fun y => nums.length - y.1) (0, 1) ⟨rfl, rfl, rfl, trivial⟩ (Pick.nil _) ⟨Nat.zero_le _, rfl⟩ ?_;rintro ⟨i, a⟩ ⟨hi, ha⟩;dsimp only at hi ha;dsimp only
 by_cases hlt : i < nums.length
 ·have hA : A.isSome = true := hra.isSome (by omega);have hat := hra.elem (i * 4) 4;have hx := hka i hlt;have hih := sizeNum85 hx;have htk := wI numW hlt;obtain ⟨n1, w1, A1, l1, c1, e1⟩ := NumR.formO hx;rw [e1] at hat hih;clear hx e1;have hcap := kM (1 + ((nums.take i).map numW).sum) (numW nums[i]) a ha;refine tr 5 ?_;refine Lo 1 sg43 rfl hc3 ?_;refine cto 10 ?_
  refine Lo 1 sg43 rfl hc3 ?_;refine pe 0 (zM ez43 rfl rfl hA (by omega)) ?_;refine La 0 ag45 hat ?_;refine Cr cl85 rfl (fun m' hm he => (hih m' (hl9.trans hm))) ?_;rintro _ rfl;refine pe 0 (zp rfl rfl (by omega)) ?_;refine pe 6 (vI rfl rfl) ?_;refine Pa 2 ?_
  exact QR ((i + 1, min (a + min (numW nums[i]) 100000) 100000) : Nat × Nat) (Pick.nil _) ⟨hlt, by dsimp only; rw [hcap, htk, Nat.add_assoc]⟩ (by dsimp only; omega)
 have hi2 : i = nums.length := by omega
 subst hi2;rw [List.take_length] at ha;generalize hN : 1 + (nums.map numW).sum = N at ha;refine tr 5 ?_;refine Lo 1 sg43 rfl hc3 ?_;refine cfo 5 ?_;refine zE ?_;refine zD ?_;refine qt 8 ?_
 refine zu (α := Nat × Nat) (fun y => [(1, .pointer (some ⟨b1, 0, none⟩)), (3, .int .i64 (y.2 : Nat)), (5, .int .i64 (y.1 : Nat))]) (fun _ => []) (fun y => y.1 ≤ kids.length ∧ y.2 = min (N + ((kids.take y.1).map condW).sum) 100000) (fun y => kids.length - y.1) (0, a) ⟨rfl, rfl, rfl, trivial⟩ (Pick.nil _) ⟨Nat.zero_le _, ha⟩ ?_;clear ha;rintro ⟨i, a⟩ ⟨hi, ha⟩;dsimp only at hi ha;dsimp only
 by_cases hlt : i < kids.length
 ·have hA : B.isSome = true := hrb.isSome (by omega);have hat := hrb.elem (i * 5) 5;have hx := hkb i hlt;have hih := ih i hlt;have htk := wI condW hlt;obtain ⟨w1, nm1, A1, la1, ca1, B1, lb1, cb1, e1⟩ := CondR.formO hx;rw [e1] at hat hih;clear hx e1;have hcap := kM (N + ((kids.take i).map condW).sum) (condW kids[i]) a ha;refine tr 5 ?_;refine Lo 1 sg46 rfl hc4 ?_;refine cto 10 ?_
  refine Lo 1 sg46 rfl hc4 ?_;refine pe 0 (zM ez46 rfl rfl hA (by omega)) ?_;refine La 0 ag48 hat ?_;refine Cr cl86 rfl (fun m' hm he => (hih m' (hl9.trans hm))) ?_;rintro _ rfl;refine pe 0 (zp rfl rfl (by omega)) ?_;refine pe 6 (vI rfl rfl) ?_;refine Pa 2 ?_
  exact QR ((i + 1, min (a + min (condW kids[i]) 100000) 100000) : Nat × Nat) (Pick.nil _) ⟨hlt, by dsimp only; rw [hcap, htk, Nat.add_assoc]⟩ (by dsimp only; omega)
 ·have hi2 : i = kids.length := by omega
  subst hi2;rw [List.take_length] at ha;refine tr 5 ?_;refine Lo 1 sg46 rfl hc4 ?_;refine cfo 5 ?_;refine zE ?_;refine zD ?_;refine qt 8 ?_;exact rt2 hl2 ⟨rfl, trivial⟩ ⟨by rw [yb, hN, ha]; rfl, rfl⟩
def szX (l : List EffT) : Nat := (l.map fun x => szE x - 1).sum
theorem X5 {l : List EffT} {i : Nat} (h : i < l.length) : szX (l.take (i + 1)) = szX (l.take i) + (szE l[i] - 1) := wI (fun x => szE x - 1) h
theorem X6 (l : List EffT) (i : Nat) : szX (l.take i) ≤ szX l := j6 _ l i
theorem szL_X (l : List EffT) : szL l = l.length + szX l := by
 induction l with
 | nil => rfl
 | cons x r ih =>
   have h1 := szE_pos x;have h2 : szL (x :: r) = szE x + szL r := by simp [szL]
   have h3 : szX (x :: r) = (szE x - 1) + szX r := by simp [szX]
   rw [List.length_cons];omega
def SzB (l : List EffT) : Prop := ∀ (m : Mp) (A : Option Addr) (c : Nat), EffsSm l → EffsR m A l.length l → l.length ≤ 140737488355328 → CS Tryz.prog 30 [.slice A l.length c] m [] (Gives (capV (szL l)))
theorem Za {l : List EffT} (ih : ∀ (i : Nat) (h : i < l.length) (op who : Int) (n : NumT) (name : List UInt8) (c : CondT) (a e : List EffT), l[i] = .mk op who n name c a e → SzB a ∧ SzB e) : SzB l := by
 rintro m A c hsm ⟨-, hml, vs, hrd, hvl, hel⟩ hln;skip;refine zn [.tmp 2] Tryz.func30 rfl rfl rfl ?_;refine tr 19 ?_
 refine zu (α := Nat × Nat) (fun y => [(0, .slice A l.length c), (3, .int .i64 (y.2 : Nat)), (4, .int .i64 (y.1 : Nat))]) (fun _ => []) (fun y => y.1 ≤ l.length ∧ y.2 ≤ 140737488355328 + 500000 ∧ min y.2 100000 = min (l.length + szX (l.take y.1)) 100000) (fun y => l.length - y.1) (0, l.length) ⟨rfl, rfl, rfl, trivial⟩ (Pick.nil _) ⟨Nat.zero_le _, by dsimp only; omega, by simp [szX]⟩ ?_
 rintro ⟨i, a⟩ ⟨hi, hab, ha⟩;dsimp only at hi hab ha;dsimp only;have hpart := X6 l i;have htot := szL_X l;by_cases hcap : a < 100000
 rotate_left
 ·have hfin : min a 100000 = min (szL l) 100000 := by omega
  by_cases hlt : i < l.length
  ·refine tr 6 ?_;refine cto 2 ?_;refine cfo 6 ?_;refine zE ?_;refine zD ?_;refine qt 4 ?_;refine pe 4 (vI rfl rfl) ?_;exact rt1 ⟨rfl, trivial⟩ ⟨by rw [show ∀ z : Nat, tup [Value.int .i64 (z : Nat)] = Value.int .i64 (z : Nat) from fun _ => rfl]; rw [hfin], rfl⟩
  ·refine tr 6 ?_;refine cfo 9 ?_;refine zE ?_;refine zD ?_;refine qt 4 ?_;refine pe 4 (vI rfl rfl) ?_;exact rt1 ⟨rfl, trivial⟩ ⟨by rw [show ∀ z : Nat, tup [Value.int .i64 (z : Nat)] = Value.int .i64 (z : Nat) from fun _ => rfl]; rw [hfin], rfl⟩
 by_cases hlt : i < l.length
 ·have hA : A.isSome = true := hrd.isSome (by omega);have hat := hrd.elem (i * 14) 14;have hx := hel i hlt;have hih := ih i hlt;have htk := X5 hlt;have hs := hsm _ (List.getElem_mem hlt);clear ih hel hsm;generalize l[i] = x at hx hih htk hs;generalize (vs.drop (i * 14)).take 14 = xs at hx hat
  obtain ⟨op, who, nop, nn, nwho, nA, nlen, nc, name, cop, cwho, cname, cA, cla, cca, cB, clb, ccb, TA, la, ca, EB, lb, cb, n, cond, thn, els, rfl, rfl, -, hn, hc, hthn, hels⟩ := EffR.parts hx;obtain ⟨i1, i2⟩ := hih _ _ _ _ _ _ _ rfl;have e1 := hthn.1;have e2 := hels.1;subst e1 e2;clear hx hih;have hsz := Zk op who n name cond thn els
  have hs4 : thn.length ≤ 140737488355328 ∧ els.length ≤ 140737488355328 ∧ EffsSm thn ∧ EffsSm els := by cases hs with | mk g1 g2 g3 g4 g5 g6 => exact ⟨g3, g4, g5, g6⟩
  have haN : At m (((sa A).add (i * 14)).add 2) (n4 nop nn nwho nA nlen nc) := hat.sub 2 4;have haC : At m (((sa A).add (i * 14)).add 7) (c5 cop cwho cname cA cla cca cB clb ccb) := hat.sub 7 5;have hc12 : mc m (((sa A).add (i * 14)).add 12) = some (.slice TA thn.length ca) := hat 12 _ rfl;have hc13 : mc m (((sa A).add (i * 14)).add 13) = some (.slice EB els.length cb) := hat 13 _ rfl
  refine tr 6 ?_;refine cto 2 ?_;refine cto 8 ?_;refine Db (sq [0, 1, 2, 3, 4, 5, 8, 9, 10, 11, 12, 15, 16, 17, 18, 19, 22, 23, 24, 25, 26, 106, 7, 113, 14, 120, 21, 127, 28, 29] .done) ?_;refine vB 3 ?_;refine Vb 1 rfl (zM ez38 rfl rfl hA (by omega)) ?_;refine Vr 2 rfl (zJ ag45 rfl rfl haN) ?_;refine Vb 1 rfl (zM ez38 rfl rfl hA (by omega)) ?_
  refine Vr 2 rfl (zJ ag48 rfl rfl haC) ?_;refine Vb 1 rfl (zM ez38 rfl rfl hA (by omega)) ?_;refine Vr 2 rfl (zG sg38 rfl hc12) ?_;refine Vb 1 rfl (zM ez38 rfl rfl hA (by omega)) ?_;refine Vr 0 rfl (zG sg38 rfl hc13) ?_;refine zA rfl (zU cl85 rfl (fun m' hm he => (sizeNum85 (hn.mono hm) m' (Le.refl _))) rfl ?_) rfl;rintro _ rfl
  refine Vb 0 rfl (zp rfl rfl (by omega)) ?_;refine zA rfl (zU cl86 rfl (fun m' hm he => (sizeCond86 (hc.mono hm) m' (Le.refl _))) rfl ?_) rfl;rintro _ rfl;refine Vb 0 rfl (zp rfl rfl (by omega)) ?_;refine zA rfl (zU cl30 rfl (fun m' hm he => (i1 m' TA ca hs4.2.2.1 (hthn.mono hm) hs4.1)) rfl ?_) rfl;rintro _ rfl;refine Vb 0 rfl (zp rfl rfl (by omega)) ?_
  refine zA rfl (zU cl30 rfl (fun m' hm he => (i2 m' EB cb hs4.2.2.2 (hels.mono hm) hs4.2.1)) rfl ?_) rfl;rintro _ rfl;refine Vb 1 rfl (zp rfl rfl (by omega)) ?_;refine Vn 4 ?_;refine Pa 2 ?_
  exact QR ((i + 1, a + min (numW n) 100000 + min (condW cond) 100000 + min (szL thn) 100000 + min (szL els) 100000) : Nat × Nat) (Pick.nil _) ⟨hlt, by dsimp only; omega, by dsimp only; rw [htk]; omega⟩ (by dsimp only; omega)
 ·have hi2 : i = l.length := by omega
  subst hi2;rw [List.take_length] at ha;have hfin : min a 100000 = min (szL l) 100000 := by omega
  refine tr 6 ?_;refine cfo 9 ?_;refine zE ?_;refine zD ?_;refine qt 4 ?_;refine pe 4 (vI rfl rfl) ?_;exact rt1 ⟨rfl, trivial⟩ ⟨by rw [show ∀ z : Nat, tup [Value.int .i64 (z : Nat)] = Value.int .i64 (z : Nat) from fun _ => rfl]; rw [hfin], rfl⟩
theorem Size30 (l : List EffT) : SzB l := Za fun i h op who n name c a e he => ⟨Size30 a, Size30 e⟩
termination_by SizeOf.sizeOf l
decreasing_by
 all_goals
  have h1 := List.sizeOf_lt_of_mem (List.getElem_mem h);rw [he] at h1;simp only [EffT.mk.sizeOf_spec] at h1;omega
end
section
open Wd Tp Kd
variable {m : Mp}
structure FmtSz (f : FmtT) : Prop where
 name : f.name.length ≤ 140737488355328
 lb : f.banned.length ≤ 140737488355328
 ls : f.single.length ≤ 140737488355328
 b : ∀ s ∈ f.banned, s.length ≤ 140737488355328
 s : ∀ s ∈ f.single, s.length ≤ 140737488355328
structure BkSz (b : BkT) : Prop where
 lc : b.cards.length ≤ 140737488355328
 lf : b.fmts.length ≤ 140737488355328
 c : ∀ x ∈ b.cards, CardSm x
 f : ∀ x ∈ b.fmts, FmtSz x
theorem BkSz.sm {b : BkT} (h : BkSz b) (hg : grT b ≤ 6000) : BkSm b := by
 refine ⟨h.lc, h.lf, h.c, fun f hf => ?_⟩;have h1 := h.f f hf;have h2 := WP szF hf;unfold grT at hg;have h3 : szF f = f.banned.length + f.single.length := rfl;exact ⟨h1.name, by omega, by omega, h1.b, h1.s⟩
theorem WX {b : BkT} (hg : grT b ≤ 6000) : ∀ c ∈ b.cards, cardWt c ≤ 900000 := fun c hc => by
 have h2 := WP szC hc;have h3 := jE c.played;have h4 := jE c.dead;have h5 := jE c.dawn;unfold grT at hg;have h6 : szC c = szL c.played + szL c.dead + szL c.dawn := rfl;unfold cardWt;omega
theorem Great11 {kc fc : Nat} {K F : Option Addr} {b : BkT} (hC : CardsX m K b.cards) (hF : FmtsX m F b.fmts) (hs : BkSz b) : CS Tryz.prog 11 [.agg (bk2 K b.cards.length kc F b.fmts.length fc).toArray] m [] (Gives (.bool (decide (6000 < grT b)))) := by
 have hlc := hs.lc;have hlf := hs.lf;skip;refine zn [.tmp 2] Tryz.func11 rfl rfl rfl ?_;refine tr 2 ?_;refine Bx 4 rfl fun b1 => ?_;refine zI .here (fun ns hi _ hd1 => ?_);have hR : Rd (uni m ns) (some ⟨b1, 0, none⟩) (bk2 K b.cards.length kc F b.fmts.length fc) := (Rd.blk hi).mono (zP hd1);have hl2 : Le m (uni m ns) := zN _ _;clear hi hd1;generalize uni m ns = m9 at hR hl2
 have hC := hC.mono hl2;have hF := hF.mono hl2;have hc0 : mc m9 ⟨b1, 0, none⟩ = some (.slice K b.cards.length kc) := hR.at_ (i := 0) rfl;have hc1 : mc m9 ⟨b1, 1, none⟩ = some (.slice F b.fmts.length fc) := hR.at_ (i := 1) rfl;obtain ⟨vs, hrd, hvl, hel⟩ := hC;obtain ⟨us, hrf, hul, hef⟩ := hF;generalize hP1 : b.cards.length + b.fmts.length + (b.cards.map szC).sum = P1;refine tr 2 ?_
 refine Lo 2 sg23 rfl hc0 ?_;refine Lo 1 sg24 rfl hc1 ?_;refine pe 5 (zp rfl rfl (by omega)) ?_;refine y3 (α := Nat) (fun a => [(1, .pointer (some ⟨b1, 0, none⟩)), (3, .int .i64 (a : Nat))]) (fun _ => []) (fun a => a ≤ 562949953421312 ∧ min a 6001 = min P1 6001) ?_ ?_
 ·refine tr 5 ?_
  refine zu (α := Nat × Nat) (fun y => [(1, .pointer (some ⟨b1, 0, none⟩)), (3, .int .i64 (y.2 : Nat)), (4, .int .i64 (y.1 : Nat))]) (fun _ => []) (fun y => y.1 ≤ b.cards.length ∧ y.2 ≤ 562949953421312 ∧ min y.2 6001 = min (b.cards.length + b.fmts.length + ((b.cards.take y.1).map szC).sum) 6001) (fun y => b.cards.length - y.1) (0, b.cards.length + b.fmts.length) ⟨rfl, rfl, rfl, trivial⟩ (Pick.nil _) ⟨Nat.zero_le _, by dsimp only; omega, by simp⟩ ?_
  rintro ⟨i, a⟩ ⟨hi, hab, ha⟩;dsimp only at hi hab ha;dsimp only;have hpart := j6 szC b.cards i;by_cases hlt : i < b.cards.length
  ·by_cases hcap : a ≤ 6000
   ·have hA : K.isSome = true := hrd.isSome (by omega);have hat := hrd.elem (i * 12) 12;obtain ⟨q, e, hpl, hde, hda⟩ := hel i hlt;have hsm := hs.c _ (List.getElem_mem hlt);have htk := wI szC hlt;have hsc : szC b.cards[i] = szL b.cards[i].played + szL b.cards[i].dead + szL b.cards[i].dawn := rfl;rw [e] at hat;clear e;generalize b.cards[i] = c at hat hpl hde hda hsm htk hsc;refine tr 5 ?_
    refine Lo 1 sg23 rfl hc0 ?_;refine cto 2 ?_;refine cto 11 ?_;refine Lo 1 sg23 rfl hc0 ?_;refine pe 0 (zM ez23 rfl rfl hA (by omega)) ?_;refine La 0 ag40 hat ?_;refine Al 0 zl40 fun b2 => ?_;refine Sg 2 ag40 .here ?_;refine zI .here (fun ns hi2 _ hd2 => ?_);have hR2 : Rd (uni m9 ns) (some ⟨b2, 0, none⟩) (q.v c) := (Rd.blk hi2).mono (zP hd2)
    have hl3 : Le m9 (uni m9 ns) := zN _ _;clear hi2 hd2;generalize uni m9 ns = m8 at hR2 hl3;have hpl := hpl.mono hl3;have hde := hde.mono hl3;have hda := hda.mono hl3;have hc8 : mc m8 ⟨b2, 8, none⟩ = some (.slice q.A c.played.length q.ca) := hR2.at_ (i := 8) rfl;have hc9 : mc m8 ⟨b2, 9, none⟩ = some (.slice q.B c.dead.length q.cb) := hR2.at_ (i := 9) rfl
    have hc10 : mc m8 ⟨b2, 10, none⟩ = some (.slice q.D c.dawn.length q.cd) := hR2.at_ (i := 10) rfl;refine Db (sq [0, 1, 2, 5, 6, 9, 10, 103, 4, 107, 8, 111, 12, 13] .done) ?_;refine vB 2 ?_;refine Vr 1 rfl (zG sg38 rfl hc8) ?_;refine Vr 1 rfl (zG sg38 rfl hc9) ?_;refine Vr 0 rfl (zG sg38 rfl hc10) ?_
    refine zA rfl (zU cl30 rfl (fun m' hm he => (Size30 c.played m' _ _ hsm.p (hpl.mono hm) hsm.lp)) rfl ?_) rfl;rintro _ rfl;refine Vb 0 rfl (zp rfl rfl (by omega)) ?_;refine zA rfl (zU cl30 rfl (fun m' hm he => (Size30 c.dead m' _ _ hsm.d (hde.mono hm) hsm.ld)) rfl ?_) rfl;rintro _ rfl;refine Vb 0 rfl (zp rfl rfl (by omega)) ?_
    refine zA rfl (zU cl30 rfl (fun m' hm he => (Size30 c.dawn m' _ _ hsm.w (hda.mono hm) hsm.lw)) rfl ?_) rfl;rintro _ rfl;refine Vb 1 rfl (zp rfl rfl (by omega)) ?_;refine Vn 4 ?_;refine Pa 2 ?_
    exact Xu hl3 ((i + 1, a + min (szL c.played) 100000 + min (szL c.dead) 100000 + min (szL c.dawn) 100000) : Nat × Nat) ⟨rfl, rfl, rfl, trivial⟩ (Pick.nil _) ⟨hlt, by dsimp only; omega, by dsimp only; rw [htk]; omega⟩ (by dsimp only; omega)
   ·refine tr 5 ?_;refine Lo 1 sg23 rfl hc0 ?_;refine cto 2 ?_;refine cfo 6 ?_;refine zE ?_;refine zD ?_;exact QR (a : Nat) (Pick.nil _) ⟨hab, by omega⟩ (by decide)
  ·have hi2 : i = b.cards.length := by omega
   subst hi2;rw [List.take_length, hP1] at ha;refine tr 5 ?_;refine Lo 1 sg23 rfl hc0 ?_;refine cfo 9 ?_;refine zE ?_;refine zD ?_;exact QR (a : Nat) (Pick.nil _) ⟨hab, ha⟩ (by decide)
 rintro a ⟨hab, ha⟩;have hgr : grT b = P1 + (b.fmts.map szF).sum := by unfold grT; rw [hP1]
 rw [hgr];refine tr 7 ?_
 refine zu (α := Nat × Nat) (fun y => [(1, .pointer (some ⟨b1, 0, none⟩)), (3, .int .i64 (y.2 : Nat)), (6, .int .i64 (y.1 : Nat))]) (fun _ => []) (fun y => y.1 ≤ b.fmts.length ∧ y.2 ≤ 1125899906842624 ∧ min y.2 6001 = min (P1 + ((b.fmts.take y.1).map szF).sum) 6001) (fun y => b.fmts.length - y.1) (0, a) ⟨rfl, rfl, rfl, trivial⟩ (Pick.nil _) ⟨Nat.zero_le _, by dsimp only; omega, by simpa using ha⟩ ?_
 clear hab ha;rintro ⟨i, a⟩ ⟨hi, hab, ha⟩;dsimp only at hi hab ha;dsimp only;have hpart := j6 szF b.fmts i;by_cases hlt : i < b.fmts.length
 ·by_cases hcap : a ≤ 6000
  ·have hA : F.isSome = true := hrf.isSome (by omega);have hat := hrf.elem (i * 7) 7;obtain ⟨q, e, hB, hS⟩ := hef i hlt;have hsm := hs.f _ (List.getElem_mem hlt);have hlb := hsm.lb;have hls := hsm.ls;have htk := wI szF hlt;have hsc : szF b.fmts[i] = b.fmts[i].banned.length + b.fmts[i].single.length := rfl;rw [e] at hat;clear e
   have hc4 : mc m9 (((sa F).add (i * 7)).add 4) = some (.slice q.A b.fmts[i].banned.length q.ca) := hat 4 _ rfl;have hc5 : mc m9 (((sa F).add (i * 7)).add 5) = some (.slice q.B b.fmts[i].single.length q.cb) := hat 5 _ rfl;clear hB hS hsm;refine tr 5 ?_;refine Lo 1 sg24 rfl hc1 ?_;refine cto 2 ?_;refine cto 8 ?_;refine Db (sq [0, 1, 2, 3, 4, 5, 6, 7, 8, 9, 10, 11, 12, 13, 14, 15, 16, 17] .done) ?_
   refine vB 2 ?_;refine Vr 1 rfl (zG sg24 rfl hc1) ?_;refine Vb 1 rfl (zM ez24 rfl rfl hA (by omega)) ?_;refine Vr 1 rfl (zG sg61 rfl hc4) ?_;refine Vb 1 rfl (zp rfl rfl (by omega)) ?_;refine Vr 1 rfl (zG sg24 rfl hc1) ?_;refine Vb 1 rfl (zM ez24 rfl rfl hA (by omega)) ?_;refine Vr 1 rfl (zG sg61 rfl hc5) ?_;refine Vb 1 rfl (zp rfl rfl (by omega)) ?_
   refine Vn 4 ?_;refine Pa 2 ?_;exact QR ((i + 1, a + b.fmts[i].banned.length + b.fmts[i].single.length) : Nat × Nat) (Pick.nil _) ⟨hlt, by dsimp only; omega, by dsimp only; rw [htk]; omega⟩ (by dsimp only; omega)
  ·refine tr 5 ?_;refine Lo 1 sg24 rfl hc1 ?_;refine cto 2 ?_;refine cfo 6 ?_;refine zE ?_;refine zD ?_;refine qt 4 ?_;refine cto 4 ?_;exact rt2 hl2 ⟨rfl, trivial⟩ ⟨by rw [decide_eq_true (show 6000 < P1 + (b.fmts.map szF).sum by omega)]; rfl, rfl⟩
 ·have hi2 : i = b.fmts.length := by omega
  subst hi2;rw [List.take_length] at ha;by_cases hg : 6000 < a
  ·refine tr 5 ?_;refine Lo 1 sg24 rfl hc1 ?_;refine cfo 9 ?_;refine zE ?_;refine zD ?_;refine qt 4 ?_;refine cto 4 ?_;exact rt2 hl2 ⟨rfl, trivial⟩ ⟨by rw [decide_eq_true (show 6000 < P1 + (b.fmts.map szF).sum by omega)]; rfl, rfl⟩
  ·refine tr 5 ?_;refine Lo 1 sg24 rfl hc1 ?_;refine cfo 9 ?_;refine zE ?_;refine zD ?_;refine qt 4 ?_;refine cfo 4 ?_;exact rt2 hl2 ⟨rfl, trivial⟩ ⟨by rw [decide_eq_false (show ¬ 6000 < P1 + (b.fmts.map szF).sum by omega)]; rfl, rfl⟩
end
section
open Wd Tp Kd Go.WideShapes
def Yb : BTy := ⟨42, 3, 9, 45, 43, 48, 46, 50, 38⟩
theorem Yb_ok : Yb.ok Tryz.prog = true := by kernel_rfl
theorem row_get {vs l : List Value} {o sz j : Nat} {u : Value} (h : (vs.drop o).take sz = l) (hu : l[j]? = some u) : vs[o + j]? = some u := by
 rw [← h, List.getElem?_take] at hu
 split at hu
 ·rw [List.getElem?_drop] at hu; exact hu
 ·cases hu
section
variable {H : Type} {enc : TypeId × Value → H} {w : World} {base : Nat} {spare : Nat → Bool} {held : Bool} {fuel : Nat} {cs : List Value} {x : DataW H × List MemPlace}
theorem xl {t e sz by_ : Nat} (ht : sliceT Tryz.prog t e = true) (hc : Tryz.prog.cellsOf e = sz) (hb : Tryz.prog.bytesOf e = by_) (h1 : 1 ≤ by_) (h : DataW.trod enc Tryz.prog w base spare held fuel t cs = some x) (hg : GoodR Tryz.prog w t x) :
  ∃ (A : Option Addr) (len cap : Nat) (vs : List Value) (n : Nat), cs = [.slice A len cap] ∧ Rd (mp w.heap) A vs ∧ vs.length = len * sz ∧ len ≤ cap ∧ len ≤ 140737488355328 ∧ n ≤ fuel ∧
   ∀ i, i < len → ∃ y, DataW.trod enc Tryz.prog w base spare held n e ((vs.drop (i * sz)).take sz) = some y ∧ GoodR Tryz.prog w e y := by
 obtain ⟨A, len, cap, vs, n, rfl, hA, hbl, hw, hl, hn, hel⟩ := Xf ht hc hb h hg;obtain ⟨A', len', cap', vs', n', e', -, -, hcap, -⟩ := jI ht hc h
 simp at e'
 obtain ⟨rfl, rfl, rfl⟩ := e';refine ⟨A, len, cap, vs, n, rfl, fun i u hi => ⟨hA ?_, (hw i u hi).1⟩, hl, hcap, ?_, hn, hel⟩
 ·have h3 := (List.getElem?_eq_some_iff.1 hi).1;rw [hl] at h3;rcases Nat.eq_zero_or_pos len with h4 | h4
  ·rw [h4, Nat.zero_mul] at h3; omega
  ·exact h4
 ·unfold reachBytes at hbl;have h5 : len * 1 ≤ len * by_ := Nat.mul_le_mul_left len h1;omega
theorem Wh : ∀ (fuel : Nat) (cs : List Value) (x : DataW H × List MemPlace), DataW.trod enc Tryz.prog w base spare held fuel 48 cs = some x → GoodR Tryz.prog w 48 x → ∃ T, CondR (mp w.heap) cs T ∧ CondSm T := by
 intro fuel
 induction fuel using Nat.strongRecOn with
 | _ fuel ih =>
   intro cs x h hg;obtain ⟨n, x0, rfl, hl, r0, _⟩ := z7 (i := 0) (zk (ft := 42) (off := 0) (by kernel_rfl)) h hg;obtain ⟨_, x1, hn1, _, r1, _⟩ := z7 (i := 1) (zk (ft := 42) (off := 1) (by kernel_rfl)) h hg;obtain ⟨_, x2, hn2, _, r2, g2⟩ := z7 (i := 2) (zk (ft := 9) (off := 2) (by kernel_rfl)) h hg
   obtain ⟨n3, x3, hn3, _, r3, _⟩ := z7 (i := 3) (zk (ft := 43) (off := 3) (by kernel_rfl)) h hg;obtain ⟨n4, x4, hn4, _, r4, g4⟩ := z7 (i := 4) (zk (ft := 46) (off := 4) (by kernel_rfl)) h hg;rw [show Tryz.prog.cellsOf 48 = 5 by kernel_rfl] at hl;rw [show Tryz.prog.cellsOf 42 = 1 by kernel_rfl] at r0 r1;rw [show Tryz.prog.cellsOf 9 = 1 by kernel_rfl] at r2
   rw [show Tryz.prog.cellsOf 43 = 1 by kernel_rfl] at r3;rw [show Tryz.prog.cellsOf 46 = 1 by kernel_rfl] at r4
   match cs, hl with
   | [c0, c1, c2, c3, c4], _ =>
     obtain ⟨op, q0, w0⟩ := yz (k := .i8) (by kernel_rfl) r0;obtain ⟨who, q1, w1⟩ := yz (k := .i8) (by kernel_rfl) r1;obtain ⟨name, q2, w2⟩ := ua (by kernel_rfl) r2 g2;obtain ⟨A, la, ca, vs, m3, q3, ha1, ha2, ha3, ha4, ha5, ha6⟩ := jI (e := 45) (sz := 4) (by kernel_rfl) (by kernel_rfl) r3
     obtain ⟨B, lb, cb, us, m4, q4, hb1, hb2, hb3, hb4, hb5, hb6⟩ := xl (e := 48) (sz := 5) (by kernel_rfl) (by kernel_rfl) rfl (Nat.le_of_ble_eq_true (by kernel_rfl)) r4 g4
     simp at q0 q1 q2 q3 q4
     subst q0 q1 q2 q3 q4
     obtain ⟨nums, hkl, hk⟩ := yU (p := fun i T => NumR (mp w.heap) ((vs.drop (i * 4)).take 4) T) (fun i hi => by
      obtain ⟨z, hz⟩ := ha6 i hi
      exact WM Yb_ok _ _ _ hz)
     obtain ⟨kids, hkl', hk'⟩ := yU (p := fun i T => CondR (mp w.heap) ((us.drop (i * 5)).take 5) T ∧ CondSm T) (fun i hi => by
      obtain ⟨z, hz, hgz⟩ := hb6 i hi
      exact ih m4 (by omega) _ _ hz hgz)
     refine ⟨.mk op who name nums kids, .mk (qx w0) (qx w1) (Nat.le_trans w2 (by decide)) hkl (Nat.le_trans ha3 ha4) ha1 (by rw [hkl]; exact ha2) hk hkl' (Nat.le_trans hb4 (by decide)) hb1 (by rw [hkl']; exact hb2) fun i hi => (hk' i hi).1, .mk w2 fun k hk => ?_⟩;obtain ⟨i, hi, rfl⟩ := List.getElem_of_mem hk;exact (hk' i hi).2
theorem eff_inG : ∀ (fuel : Nat) (cs : List Value) (x : DataW H × List MemPlace), DataW.trod enc Tryz.prog w base spare held fuel 50 cs = some x → GoodR Tryz.prog w 50 x → ∃ T, EffR (mp w.heap) cs T ∧ EffSm T := by
 intro fuel
 induction fuel using Nat.strongRecOn with
 | _ fuel ih =>
   intro cs x h hg;obtain ⟨n, x0, rfl, hl, r0, _⟩ := z7 (i := 0) (zk (ft := 42) (off := 0) (by kernel_rfl)) h hg;obtain ⟨_, x1, hn1, _, r1, _⟩ := z7 (i := 1) (zk (ft := 42) (off := 1) (by kernel_rfl)) h hg;obtain ⟨_, x2, hn2, _, r2, _⟩ := z7 (i := 2) (zk (ft := 45) (off := 2) (by kernel_rfl)) h hg
   obtain ⟨_, x3, hn3, _, r3, g3⟩ := z7 (i := 3) (zk (ft := 9) (off := 6) (by kernel_rfl)) h hg;obtain ⟨_, x4, hn4, _, r4, g4⟩ := z7 (i := 4) (zk (ft := 48) (off := 7) (by kernel_rfl)) h hg;obtain ⟨n5, x5, hn5, _, r5, g5⟩ := z7 (i := 5) (zk (ft := 38) (off := 12) (by kernel_rfl)) h hg
   obtain ⟨n6, x6, hn6, _, r6, g6⟩ := z7 (i := 6) (zk (ft := 38) (off := 13) (by kernel_rfl)) h hg;rw [show Tryz.prog.cellsOf 50 = 14 by kernel_rfl] at hl;rw [show Tryz.prog.cellsOf 42 = 1 by kernel_rfl] at r0 r1;rw [show Tryz.prog.cellsOf 9 = 1 by kernel_rfl] at r3;rw [show Tryz.prog.cellsOf 45 = 4 by kernel_rfl] at r2;rw [show Tryz.prog.cellsOf 48 = 5 by kernel_rfl] at r4
   rw [show Tryz.prog.cellsOf 38 = 1 by kernel_rfl] at r5 r6
   match cs, hl with
   | [c0, c1, d0, d1, d2, d3, c3, k0, k1, k2, k3, k4, c5, c6], _ =>
     obtain ⟨op, q0, w0⟩ := yz (k := .i8) (by kernel_rfl) r0;obtain ⟨who, q1, w1⟩ := yz (k := .i8) (by kernel_rfl) r1;obtain ⟨nt, hnt⟩ := WM Yb_ok _ _ _ r2;obtain ⟨name, q3, w3⟩ := ua (by kernel_rfl) r3 g3;obtain ⟨ct, hct, hcs⟩ := Wh _ _ _ r4 g4
     obtain ⟨A, la, ca, vs, m3, q5, ha1, ha2, ha3, ha4, ha5, ha6⟩ := xl (e := 50) (sz := 14) (by kernel_rfl) (by kernel_rfl) rfl (Nat.le_of_ble_eq_true (by kernel_rfl)) r5 g5;obtain ⟨B, lb, cb, us, m4, q6, hb1, hb2, hb3, hb4, hb5, hb6⟩ := xl (e := 50) (sz := 14) (by kernel_rfl) (by kernel_rfl) rfl (Nat.le_of_ble_eq_true (by kernel_rfl)) r6 g6
     simp at q0 q1 q3 q5 q6
     subst q0 q1 q3 q5 q6
     obtain ⟨thn, hkl, hk⟩ := yU (p := fun i T => EffR (mp w.heap) ((vs.drop (i * 14)).take 14) T ∧ EffSm T) (fun i hi => by
      obtain ⟨z, hz, hgz⟩ := ha6 i hi
      exact ih m3 (by omega) _ _ hz hgz)
     obtain ⟨els, hkl', hk'⟩ := yU (p := fun i T => EffR (mp w.heap) ((us.drop (i * 14)).take 14) T ∧ EffSm T) (fun i hi => by
      obtain ⟨z, hz, hgz⟩ := hb6 i hi
      exact ih m4 (by omega) _ _ hz hgz)
     refine ⟨.mk op who nt name ct thn els, .mk (ns := [d0, d1, d2, d3]) (cs := [k0, k1, k2, k3, k4]) (qx w0) (qx w1) hnt (Nat.le_trans w3 (by decide)) hct hkl (Nat.le_trans ha4 (by decide)) ha1 (by rw [hkl]; exact ha2) (fun i hi => (hk i hi).1) hkl' (Nat.le_trans hb4 (by decide)) hb1 (by rw [hkl']; exact hb2) fun i hi => (hk' i hi).1,
      .mk w3 hcs (by omega) (by omega) (fun y hy => ?_) fun y hy => ?_⟩
     ·obtain ⟨i, hi, rfl⟩ := List.getElem_of_mem hy;exact (hk i hi).2
     ·obtain ⟨i, hi, rfl⟩ := List.getElem_of_mem hy;exact (hk' i hi).2
theorem jC (h : DataW.trod enc Tryz.prog w base spare held fuel 38 cs = some x) (hg : GoodR Tryz.prog w 38 x) : ∃ (A : Option Addr) (c : Nat) (l : List EffT), cs = [.slice A l.length c] ∧ EffsR (mp w.heap) A l.length l ∧ l.length ≤ 140737488355328 ∧ EffsSm l := by
 obtain ⟨A, la, ca, vs, m3, rfl, ha1, ha2, ha3, ha4, ha5, ha6⟩ := xl (e := 50) (sz := 14) (by kernel_rfl) (by kernel_rfl) rfl (Nat.le_of_ble_eq_true (by kernel_rfl)) h hg
 obtain ⟨l, hkl, hk⟩ := yU (p := fun i T => EffR (mp w.heap) ((vs.drop (i * 14)).take 14) T ∧ EffSm T) (fun i hi => by
  obtain ⟨z, hz, hgz⟩ := ha6 i hi
  exact eff_inG _ _ _ hz hgz)
 subst hkl;refine ⟨A, ca, l, rfl, ⟨rfl, Nat.le_trans ha4 (by decide), vs, ha1, ha2, fun i hi => (hk i hi).1⟩, ha4, fun y hy => ?_⟩;obtain ⟨i, hi, rfl⟩ := List.getElem_of_mem hy;exact (hk i hi).2
theorem kp (h : DataW.trod enc Tryz.prog w base spare held fuel 61 cs = some x) (hg : GoodR Tryz.prog w 61 x) : ∃ (A : Option Addr) (c : Nat) (xs : List (List UInt8)), cs = [.slice A xs.length c] ∧ RdN (mp w.heap) A c xs ∧ xs.length ≤ 140737488355328 ∧ ∀ s ∈ xs, s.length ≤ 140737488355328 := by
 obtain ⟨A, len, cap, vs, n, rfl, hrd, hl, hcap, hlen, _, hel⟩ := xl (e := 9) (sz := 1) (by kernel_rfl) (by kernel_rfl) rfl (Nat.le_of_ble_eq_true (by kernel_rfl)) h hg
 obtain ⟨xs, hxl, hx⟩ := yU (n := len) (p := fun i (b : List UInt8) => vs[i]? = some (strV b) ∧ b.length ≤ 140737488355328) (fun i hi => by
  obtain ⟨y, hy, hgy⟩ := hel i hi;obtain ⟨n, e, hlen⟩ := ua (by kernel_rfl) hy hgy;refine ⟨n, ?_, hlen⟩;have := row_get (j := 0) e rfl;rw [Nat.mul_one, Nat.add_zero] at this
  exact this)
 subst hxl;refine ⟨A, cap, xs, rfl, ⟨fun i u hi => ?_, hcap⟩, hlen, fun s hs => by obtain ⟨i, hi, rfl⟩ := List.getElem_of_mem hs; exact (hx i hi).2⟩;rw [List.getElem?_map] at hi;cases hq : xs[i]? with
 | none => rw [hq] at hi; cases hi
 | some q =>
   rw [hq] at hi;obtain ⟨hlt, rfl⟩ := List.getElem?_eq_some_iff.1 hq;cases hi;exact hrd i _ (hx i hlt).1
theorem Wk (h : DataW.trod enc Tryz.prog w base spare held fuel 40 cs = some x) (hg : GoodR Tryz.prog w 40 x) : ∃ T, CardX (mp w.heap) cs T ∧ CardSm T := by
 obtain ⟨_, _, rfl, hl, r0, g0⟩ := z7 (i := 0) (zk (ft := 9) (off := 0) (by kernel_rfl)) h hg;obtain ⟨_, _, _, _, r1, _⟩ := z7 (i := 1) (zk (ft := 4) (off := 1) (by kernel_rfl)) h hg;obtain ⟨_, _, _, _, r2, _⟩ := z7 (i := 2) (zk (ft := 3) (off := 2) (by kernel_rfl)) h hg
 obtain ⟨_, _, _, _, r3, _⟩ := z7 (i := 3) (zk (ft := 3) (off := 3) (by kernel_rfl)) h hg;obtain ⟨_, _, _, _, r4, _⟩ := z7 (i := 4) (zk (ft := 3) (off := 4) (by kernel_rfl)) h hg;obtain ⟨_, _, _, _, r5, _⟩ := z7 (i := 5) (zk (ft := 3) (off := 5) (by kernel_rfl)) h hg
 obtain ⟨_, _, _, _, r6, _⟩ := z7 (i := 6) (zk (ft := 3) (off := 6) (by kernel_rfl)) h hg;obtain ⟨_, _, _, _, r7, _⟩ := z7 (i := 7) (zk (ft := 3) (off := 7) (by kernel_rfl)) h hg;obtain ⟨_, _, _, _, r8, g8⟩ := z7 (i := 8) (zk (ft := 38) (off := 8) (by kernel_rfl)) h hg
 obtain ⟨_, _, _, _, r9, g9⟩ := z7 (i := 9) (zk (ft := 38) (off := 9) (by kernel_rfl)) h hg;obtain ⟨_, _, _, _, r10, g10⟩ := z7 (i := 10) (zk (ft := 38) (off := 10) (by kernel_rfl)) h hg;obtain ⟨_, _, _, _, r11, _⟩ := z7 (i := 11) (zk (ft := 3) (off := 11) (by kernel_rfl)) h hg;rw [show Tryz.prog.cellsOf 40 = 12 by kernel_rfl] at hl
 rw [show Tryz.prog.cellsOf 9 = 1 by kernel_rfl] at r0;rw [show Tryz.prog.cellsOf 4 = 1 by kernel_rfl] at r1;rw [show Tryz.prog.cellsOf 3 = 1 by kernel_rfl] at r2 r3 r4 r5 r6 r7 r11;rw [show Tryz.prog.cellsOf 38 = 1 by kernel_rfl] at r8 r9 r10
 match cs, hl with
 | [c0, c1, c2, c3, c4, c5, c6, c7, c8, c9, c10, c11], _ =>
   obtain ⟨name, q0, w0⟩ := ua (by kernel_rfl) r0 g0;obtain ⟨unit, q1⟩ := bool_in (by kernel_rfl) r1;obtain ⟨i2, q2, _⟩ := yz (k := .i64) (by kernel_rfl) r2;obtain ⟨i3, q3, _⟩ := yz (k := .i64) (by kernel_rfl) r3;obtain ⟨i4, q4, _⟩ := yz (k := .i64) (by kernel_rfl) r4;obtain ⟨i5, q5, _⟩ := yz (k := .i64) (by kernel_rfl) r5
   obtain ⟨i6, q6, _⟩ := yz (k := .i64) (by kernel_rfl) r6;obtain ⟨i7, q7, _⟩ := yz (k := .i64) (by kernel_rfl) r7;obtain ⟨A, ca, e8, q8, k8, n8, s8⟩ := jC r8 g8;obtain ⟨B, cb, e9, q9, k9, n9, s9⟩ := jC r9 g9;obtain ⟨D, cd, e10, q10, k10, n10, s10⟩ := jC r10 g10;obtain ⟨i11, q11, _⟩ := yz (k := .i64) (by kernel_rfl) r11
   simp at q0 q1 q2 q3 q4 q5 q6 q7 q8 q9 q10 q11
   subst q0 q1 q2 q3 q4 q5 q6 q7 q8 q9 q10 q11;exact ⟨⟨name, unit, i2, i3, i4, i5, i6, i7, e8, e9, e10, i11⟩, ⟨⟨A, ca, B, cb, D, cd⟩, rfl, k8, k9, k10⟩, ⟨w0, n8, n9, n10, s8, s9, s10⟩⟩
theorem fmt_inG (h : DataW.trod enc Tryz.prog w base spare held fuel 63 cs = some x) (hg : GoodR Tryz.prog w 63 x) : ∃ T, FmtX (mp w.heap) cs T ∧ FmtSz T := by
 obtain ⟨_, _, rfl, hl, r0, g0⟩ := z7 (i := 0) (zk (ft := 9) (off := 0) (by kernel_rfl)) h hg;obtain ⟨_, _, _, _, r1, _⟩ := z7 (i := 1) (zk (ft := 3) (off := 1) (by kernel_rfl)) h hg;obtain ⟨_, _, _, _, r2, _⟩ := z7 (i := 2) (zk (ft := 3) (off := 2) (by kernel_rfl)) h hg
 obtain ⟨_, _, _, _, r3, _⟩ := z7 (i := 3) (zk (ft := 3) (off := 3) (by kernel_rfl)) h hg;obtain ⟨_, _, _, _, r4, g4⟩ := z7 (i := 4) (zk (ft := 61) (off := 4) (by kernel_rfl)) h hg;obtain ⟨_, _, _, _, r5, g5⟩ := z7 (i := 5) (zk (ft := 61) (off := 5) (by kernel_rfl)) h hg
 obtain ⟨_, _, _, _, r6, _⟩ := z7 (i := 6) (zk (ft := 3) (off := 6) (by kernel_rfl)) h hg;rw [show Tryz.prog.cellsOf 63 = 7 by kernel_rfl] at hl;rw [show Tryz.prog.cellsOf 9 = 1 by kernel_rfl] at r0;rw [show Tryz.prog.cellsOf 3 = 1 by kernel_rfl] at r1 r2 r3 r6;rw [show Tryz.prog.cellsOf 61 = 1 by kernel_rfl] at r4 r5
 match cs, hl with
 | [c0, c1, c2, c3, c4, c5, c6], _ =>
   obtain ⟨name, q0, w0⟩ := ua (by kernel_rfl) r0 g0;obtain ⟨i1, q1, _⟩ := yz (k := .i64) (by kernel_rfl) r1;obtain ⟨i2, q2, _⟩ := yz (k := .i64) (by kernel_rfl) r2;obtain ⟨i3, q3, _⟩ := yz (k := .i64) (by kernel_rfl) r3;obtain ⟨A, ca, e4, q4, k4, n4, s4⟩ := kp r4 g4;obtain ⟨B, cb, e5, q5, k5, n5, s5⟩ := kp r5 g5
   obtain ⟨i6, q6, _⟩ := yz (k := .i64) (by kernel_rfl) r6
   simp at q0 q1 q2 q3 q4 q5 q6
   subst q0 q1 q2 q3 q4 q5 q6;exact ⟨⟨name, i1, i2, i3, e4, e5, i6⟩, ⟨⟨A, ca, B, cb⟩, rfl, k4, k5⟩, ⟨w0, n4, n5, s4, s5⟩⟩
theorem Wo (h : DataW.trod enc Tryz.prog w base spare held fuel 26 cs = some x) (hg : GoodR Tryz.prog w 26 x) : ∃ (b : BkT) (K : Option Addr) (kc : Nat) (F : Option Addr) (fc : Nat), cs = bk2 K b.cards.length kc F b.fmts.length fc ∧ CardsX (mp w.heap) K b.cards ∧ FmtsX (mp w.heap) F b.fmts ∧ BkSz b := by
 obtain ⟨_, y0, rfl, hlen, r0, g0⟩ := z7 (i := 0) (zk (ft := 23) (off := 0) (by kernel_rfl)) h hg;obtain ⟨_, y1, _, _, r1, g1⟩ := z7 (i := 1) (zk (ft := 24) (off := 1) (by kernel_rfl)) h hg;rw [show Tryz.prog.cellsOf 26 = 2 by kernel_rfl] at hlen;rw [show Tryz.prog.cellsOf 23 = 1 by kernel_rfl] at r0;rw [show Tryz.prog.cellsOf 24 = 1 by kernel_rfl] at r1
 match cs, hlen with
 | [c0, c1], _ =>
   obtain ⟨K, la, kc, vs, m3, q0, ha1, ha2, ha3, ha4, ha5, ha6⟩ := xl (e := 40) (sz := 12) (by kernel_rfl) (by kernel_rfl) rfl (Nat.le_of_ble_eq_true (by kernel_rfl)) r0 g0;obtain ⟨F, lb, fc, us, m4, q1, hb1, hb2, hb3, hb4, hb5, hb6⟩ := xl (e := 63) (sz := 7) (by kernel_rfl) (by kernel_rfl) rfl (Nat.le_of_ble_eq_true (by kernel_rfl)) r1 g1
   simp at q0 q1
   subst q0 q1
   obtain ⟨cl, hcl, hc⟩ := yU (p := fun i T => CardX (mp w.heap) ((vs.drop (i * 12)).take 12) T ∧ CardSm T) (fun i hi => by
    obtain ⟨z, hz, hgz⟩ := ha6 i hi
    exact Wk hz hgz)
   obtain ⟨fl, hfl, hf⟩ := yU (p := fun i T => FmtX (mp w.heap) ((us.drop (i * 7)).take 7) T ∧ FmtSz T) (fun i hi => by
    obtain ⟨z, hz, hgz⟩ := hb6 i hi
    exact fmt_inG hz hgz)
   subst hcl hfl;refine ⟨⟨cl, fl⟩, K, kc, F, fc, rfl, ⟨vs, ha1, ha2, fun i hi => (hc i hi).1⟩, ⟨us, hb1, hb2, fun i hi => (hf i hi).1⟩, ⟨ha4, hb4, fun y hy => ?_, fun y hy => ?_⟩⟩
   ·obtain ⟨i, hi, rfl⟩ := List.getElem_of_mem hy;exact (hc i hi).2
   ·obtain ⟨i, hi, rfl⟩ := List.getElem_of_mem hy;exact (hf i hi).2
end
end
section
open Wd Tp Kd
variable {m : Mp}
end
section
open Wd Tp Kd
variable {m : Mp}
end
section
open Wd Tp Kd
variable {m : Mp}
end
end Go.Proofs.YtpgiokjfkcddeaaGreatDoor
