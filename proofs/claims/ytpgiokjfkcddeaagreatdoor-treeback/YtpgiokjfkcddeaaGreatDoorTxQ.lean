/- Parts of the proof: contracts of functions of the program, and plain lemmas. No condition. -/
import Derived.Test.YtpgiokjfkcddeaaGreatDoorTrI
import Derived.Test.YtpgiokjfkcddeaaGreatDoorEng2
import Derived.Test.YtpgiokjfkcddeaaGreatDoorFacts
import Derived.Lib.Join
set_option maxHeartbeats 64000000
set_option maxRecDepth 100000
namespace Go.Proofs.YtpgiokjfkcddeaaGreatDoor
open Go.Eng
section
open Wd Tp Kd
variable {m : Mp} {b d p : Nat}
theorem Xv (hT : TabI m) (hU : Tabs m) {op who nop nn nwho : Int} {nA : Option Addr} {nl nc : Nat} {name : List UInt8} {cop cwho : Int} {cname : List UInt8} {cA : Option Addr} {cla cca : Nat} {cB : Option Addr} {clb ccb : Nat} {TA : Option Addr} {la ca : Nat} {EB : Option Addr} {lb cb : Nat} {n : NumT} {cond : CondT} {thn els : List EffT}
  (hn : NumR m (n4 nop nn nwho nA nl nc) n) (hc : CondR m (c5 cop cwho cname cA cla cca cB clb ccb) cond) (hcs : CondSm cond) (hnm : name.length ≤ 140737488355328) (hla : thn.length = la) (hlb : els.length = lb) (hla2 : la ≤ 140737488355328) (hlb2 : lb ≤ 140737488355328)
  (hbt : BlkOk m b TA la ca thn) (hbe : BlkOk m b EB lb cb els) (hop : op = 2) : EffOk m b (e14 op who nop nn nwho nA nl nc name cop cwho cname cA cla cca cB clb ccb TA la ca EB lb cb) (.mk op who n name cond thn els) := by
 subst hop;intro m0 hm0 p d hp hd;skip;refine za [.tmp 4] Tryz.func94 rfl rfl rfl ?_;refine tr 2 ?_;refine Bx 0 rfl fun b1 => ?_;refine Bx 4 rfl fun b2 => ?_;refine zG .here (fun ns hi _ hd1 => ?_);refine zG .here (fun ns2 hi2 _ hd2 => ?_)
 have hR : Rd (uni (uni m0 ns) ns2) (some ⟨b2, 0, none⟩) (e14 2 who nop nn nwho nA nl nc name cop cwho cname cA cla cca cB clb ccb TA la ca EB lb cb) := ((Rd.blk hi).mono (zV hd1)).mono (zM _ _);have haN : At (uni (uni m0 ns) ns2) ⟨b2, 2, none⟩ (n4 nop nn nwho nA nl nc) := ((At.blkO (o := 2) (k := 4) hi).mono (zV hd1)).mono (zM _ _)
 have haC : At (uni (uni m0 ns) ns2) ⟨b2, 7, none⟩ (c5 cop cwho cname cA cla cca cB clb ccb) := ((At.blkO (o := 7) (k := 5) hi).mono (zV hd1)).mono (zM _ _);have hR1 : Rd (uni (uni m0 ns) ns2) (some ⟨b1, 0, none⟩) [ptr b] := (Rd.blk hi2).mono (zV hd2);have hl2 : Le m0 (uni (uni m0 ns) ns2) := (zM _ _).trans (zM _ _);clear hi hd1 hi2 hd2
 generalize uni (uni m0 ns) ns2 = m9 at hR hR1 hl2 haN haC;have hl9 := hm0.trans hl2;have hT := hT.mono hl9;have hU := hU.mono hl9;have hn := hn.mono hl9;have hc := hc.mono hl9;have hbt := hbt.mono hl9;have hbe := hbe.mono hl9;have iN : NumOk m9 b _ n := num111 (b := b) hT hn;have iC : CondOk m9 b _ cond := cond115 (b := b) hT hU hc hcs
 have hcp : mc m9 ⟨b1, 0, none⟩ = some (ptr b) := hR1.at_ (i := 0) rfl;have hc0 : mc m9 ⟨b2, 0, none⟩ = some (.int .i8 2) := hR.at_ (i := 0) rfl;have hc1 : mc m9 ⟨b2, 1, none⟩ = some (.int .i8 who) := hR.at_ (i := 1) rfl;have hc6 : mc m9 ⟨b2, 6, none⟩ = some (.string (bs name)) := hR.at_ (i := 6) rfl;have hc12 : mc m9 ⟨b2, 12, none⟩ = some (.slice TA la ca) := hR.at_ (i := 12) rfl
 have hc13 : mc m9 ⟨b2, 13, none⟩ = some (.slice EB lb cb) := hR.at_ (i := 13) rfl;have hw1 := y4 (.mk 2 who n name cond thn els);refine tr 1 ?_;refine Lo 0 sg89 rfl hcp ?_;refine Cp cl109 rfl .k0 (fun m' hm he => part109 hp) ?_ ?_
 ·rintro _ _ ⟨h1, rfl⟩;exact pW hl2 ⟨.inr (by omega), rfl⟩
 rintro _ _ ⟨hp1, rfl, rfl⟩;rw [wS (by decide)];refine vr 5 ?_;refine Lo 0 sg42 rfl hc0 ?_;refine pe 0 (zT zl50 pl50 rfl rfl) ?_;refine Al 0 zl50 fun b3 => ?_;refine Sg 11 ag50 .here ?_;refine Lo 6 sg42 rfl hc0 ?_;refine cfo 5 ?_;refine cfo 6 ?_;refine ctr 5 ?_;refine Db (sq [0, 1, 5, 6, 7, 102, 3, 4, 108, 9, 10] .done) ?_;refine vB 1 ?_;refine Vr 0 rfl (zF sg42 rfl hc1) ?_
 refine Vr 1 rfl (zF sg89 rfl hcp) ?_;refine Vr 0 rfl (zJ ag45 rfl rfl haN) ?_;refine zA rfl ((zR cl110 rfl .nil (fun m' hm he => side110) rfl ?_ ?_)) rfl
 ·rintro _ _ ⟨h1, rfl⟩;exact pW hl2 ⟨.inl (uF (by decide) h1), rfl⟩
 rintro _ _ ⟨u, hu, rfl, rfl⟩;have hul := yJ hu;refine Vs 0 rfl ?_;refine Vs 0 rfl ?_;refine zA rfl ((zR cl111 rfl .k1 (fun m' hm he => iN m' hm (p + 1) d hp1 hd) rfl ?_ ?_)) rfl
 ·rintro _ _ ⟨h3, rfl⟩;exact pW hl2 ⟨h3.imp (xW (by decide)) (fun h => by omega), rfl⟩
 rintro _ _ ⟨v, h3, h4, rfl, rfl⟩;have hvl := yp h3 h4;by_cases hname : name = []
 rotate_left
 ·refine Vs 1 rfl ?_;refine Vn 1 ?_;refine Db (sq [0, 1, 2, 3, 4, 105, 6, 107] .done) ?_;refine vB 1 ?_;refine Vr 1 rfl (zF sg42 rfl hc1) ?_;refine Vr 1 rfl (zJ ag45 rfl rfl haN) ?_;refine zA rfl (yB co42 rfl rfl rfl .h1 .h1 ?_) rfl;refine vB 1 ?_;refine zA rfl (zc ag45 rfl rfl rfl .h1 (.there (.there (.cons (.cons (.cons (.cons .nil)))))) rfl ?_) rfl
  refine Vn 5 ?_;refine Lo 1 sg42 rfl hc1 ?_;refine Lb 0 sg42 .h1 ?_;refine ctr 2 ?_;refine Lo 1 sg9 rfl hc6 ?_;refine Lb 0 sg9 .h1 ?_;refine cfa 17 ?_;refine Mf fun _ => ?_;exact pW hl2 ⟨.inl (y8 (by decide) (by decide) hname), rfl⟩
 subst hname;by_cases hle : la + lb = 0
 rotate_left
 ·have hnb : ¬ bareE cond thn els := fun h => hle (by have := h.2; omega);refine Vs 1 rfl ?_;refine Vn 1 ?_;refine Db (sq [0, 1, 2, 3, 4, 105, 6, 107] .done) ?_;refine vB 1 ?_;refine Vr 1 rfl (zF sg42 rfl hc1) ?_;refine Vr 1 rfl (zJ ag45 rfl rfl haN) ?_;refine zA rfl (yB co42 rfl rfl rfl .h1 .h1 ?_) rfl;refine vB 1 ?_
  refine zA rfl (zc ag45 rfl rfl rfl .h1 (.there (.there (.cons (.cons (.cons (.cons .nil)))))) rfl ?_) rfl;refine Vn 5 ?_;refine Lo 1 sg42 rfl hc1 ?_;refine Lb 0 sg42 .h1 ?_;refine ctr 2 ?_;refine Lo 1 sg9 rfl hc6 ?_;refine Lb 0 sg9 .h1 ?_;refine ctr 3 ?_;refine Lo 2 sg38 rfl hc12 ?_;refine Lo 1 sg38 rfl hc13 ?_;refine pe 0 (zi rfl rfl (by omega)) ?_;refine cfo 7 ?_
  refine Mf fun _ => ?_;exact pW hl2 ⟨.inl (zy (by decide) hnb), rfl⟩
 refine Vs 1 rfl ?_;refine Vn 1 ?_;refine Db (sq [0, 1, 2, 3, 4, 105, 6, 107] .done) ?_;refine vB 1 ?_;refine Vr 1 rfl (zF sg42 rfl hc1) ?_;refine Vr 1 rfl (zJ ag45 rfl rfl haN) ?_;refine zA rfl (yB co42 rfl rfl rfl .h1 .h1 ?_) rfl;refine vB 1 ?_;refine zA rfl (zc ag45 rfl rfl rfl .h1 (.there (.there (.cons (.cons (.cons (.cons .nil)))))) rfl ?_) rfl
 refine Vn 5 ?_;refine Lo 1 sg42 rfl hc1 ?_;refine Lb 0 sg42 .h1 ?_;refine ctr 2 ?_;refine Lo 1 sg9 rfl hc6 ?_;refine Lb 0 sg9 .h1 ?_;refine ctr 3 ?_;refine Lo 2 sg38 rfl hc12 ?_;refine Lo 1 sg38 rfl hc13 ?_;refine pe 0 (zi rfl rfl (by omega)) ?_;refine cto 2 ?_;refine pe 1 (zT zl45 pl45 rfl rfl) ?_;refine La 0 ag48 haC ?_;refine Cr cl112 rfl (fun m' hm he => (plainC112 hc)) ?_
 rintro _ rfl;cases hzc : zeroC cond with
 | false =>
   have hnb : ¬ bareE cond thn els := fun h => absurd (hzc.symm.trans h.1) (by decide);refine vr 1 ?_;refine Mf fun _ => ?_;exact pW hl2 ⟨.inl (zy (by decide) hnb), rfl⟩
 | true =>
   have hbr : bareE cond thn els := ⟨hzc, by omega⟩;refine vr 1 ?_;refine Mt 6 ?_;refine Lo 0 sg42 rfl hc0 ?_;refine cfo 2 ?_;refine Lo 0 sg42 rfl hc0 ?_;refine cfo 3 ?_;refine Lo 0 sg42 rfl hc0 ?_;refine cfo 9 ?_;refine Ps 4 ?_;rw [show p + 1 + numW n = p + (1 + numW n) by omega]
   exact zX hl2 [_] ⟨rfl, trivial⟩ [_] .p0 ⟨sDraw ++ sSp ++ u ++ sSp ++ v ++ sSemi, by rw [jK hbr, hu, h3]; rfl, by omega, congrArg (fun t => Value.string (bs t)) (by simp), rfl⟩
end
section
open Wd Tp Kd
variable {m : Mp} {b d p : Nat}
theorem Xs (hT : TabI m) (hU : Tabs m) {op who nop nn nwho : Int} {nA : Option Addr} {nl nc : Nat} {name : List UInt8} {cop cwho : Int} {cname : List UInt8} {cA : Option Addr} {cla cca : Nat} {cB : Option Addr} {clb ccb : Nat} {TA : Option Addr} {la ca : Nat} {EB : Option Addr} {lb cb : Nat} {n : NumT} {cond : CondT} {thn els : List EffT}
  (hn : NumR m (n4 nop nn nwho nA nl nc) n) (hc : CondR m (c5 cop cwho cname cA cla cca cB clb ccb) cond) (hcs : CondSm cond) (hnm : name.length ≤ 140737488355328) (hla : thn.length = la) (hlb : els.length = lb) (hla2 : la ≤ 140737488355328) (hlb2 : lb ≤ 140737488355328)
  (hbt : BlkOk m b TA la ca thn) (hbe : BlkOk m b EB lb cb els) (hop : op = 3) : EffOk m b (e14 op who nop nn nwho nA nl nc name cop cwho cname cA cla cca cB clb ccb TA la ca EB lb cb) (.mk op who n name cond thn els) := by
 subst hop;intro m0 hm0 p d hp hd;skip;refine za [.tmp 4] Tryz.func94 rfl rfl rfl ?_;refine tr 2 ?_;refine Bx 0 rfl fun b1 => ?_;refine Bx 4 rfl fun b2 => ?_;refine zG .here (fun ns hi _ hd1 => ?_);refine zG .here (fun ns2 hi2 _ hd2 => ?_)
 have hR : Rd (uni (uni m0 ns) ns2) (some ⟨b2, 0, none⟩) (e14 3 who nop nn nwho nA nl nc name cop cwho cname cA cla cca cB clb ccb TA la ca EB lb cb) := ((Rd.blk hi).mono (zV hd1)).mono (zM _ _);have haN : At (uni (uni m0 ns) ns2) ⟨b2, 2, none⟩ (n4 nop nn nwho nA nl nc) := ((At.blkO (o := 2) (k := 4) hi).mono (zV hd1)).mono (zM _ _)
 have haC : At (uni (uni m0 ns) ns2) ⟨b2, 7, none⟩ (c5 cop cwho cname cA cla cca cB clb ccb) := ((At.blkO (o := 7) (k := 5) hi).mono (zV hd1)).mono (zM _ _);have hR1 : Rd (uni (uni m0 ns) ns2) (some ⟨b1, 0, none⟩) [ptr b] := (Rd.blk hi2).mono (zV hd2);have hl2 : Le m0 (uni (uni m0 ns) ns2) := (zM _ _).trans (zM _ _);clear hi hd1 hi2 hd2
 generalize uni (uni m0 ns) ns2 = m9 at hR hR1 hl2 haN haC;have hl9 := hm0.trans hl2;have hT := hT.mono hl9;have hU := hU.mono hl9;have hn := hn.mono hl9;have hc := hc.mono hl9;have hbt := hbt.mono hl9;have hbe := hbe.mono hl9;have iN : NumOk m9 b _ n := num111 (b := b) hT hn;have iC : CondOk m9 b _ cond := cond115 (b := b) hT hU hc hcs
 have hcp : mc m9 ⟨b1, 0, none⟩ = some (ptr b) := hR1.at_ (i := 0) rfl;have hc0 : mc m9 ⟨b2, 0, none⟩ = some (.int .i8 3) := hR.at_ (i := 0) rfl;have hc1 : mc m9 ⟨b2, 1, none⟩ = some (.int .i8 who) := hR.at_ (i := 1) rfl;have hc6 : mc m9 ⟨b2, 6, none⟩ = some (.string (bs name)) := hR.at_ (i := 6) rfl;have hc12 : mc m9 ⟨b2, 12, none⟩ = some (.slice TA la ca) := hR.at_ (i := 12) rfl
 have hc13 : mc m9 ⟨b2, 13, none⟩ = some (.slice EB lb cb) := hR.at_ (i := 13) rfl;have hw1 := y4 (.mk 3 who n name cond thn els);refine tr 1 ?_;refine Lo 0 sg89 rfl hcp ?_;refine Cp cl109 rfl .k0 (fun m' hm he => part109 hp) ?_ ?_
 ·rintro _ _ ⟨h1, rfl⟩;exact pW hl2 ⟨.inr (by omega), rfl⟩
 rintro _ _ ⟨hp1, rfl, rfl⟩;rw [wS (by decide)];refine vr 5 ?_;refine Lo 0 sg42 rfl hc0 ?_;refine pe 0 (zT zl50 pl50 rfl rfl) ?_;refine Al 0 zl50 fun b3 => ?_;refine Sg 11 ag50 .here ?_;refine Lo 6 sg42 rfl hc0 ?_;refine cfo 5 ?_;refine cfo 6 ?_;refine cfo 6 ?_;refine ctr 6 ?_;refine Lo 1 sg89 rfl hcp ?_;refine La 0 ag45 haN ?_
 refine Cp cl111 rfl .k1 (fun m' hm he => iN m' hm (p + 1) d hp1 hd) ?_ ?_
 ·rintro _ _ ⟨h3, rfl⟩;exact pW hl2 ⟨h3.imp (xW (by decide)) (fun h => by omega), rfl⟩
 rintro _ _ ⟨v, h3, h4, rfl, rfl⟩;have hvl := yp h3 h4;by_cases hwho : who = 0
 rotate_left
 ·refine Ps 5 ?_;refine La 1 ag45 haN ?_;refine zE (zc ag45 rfl rfl rfl .h1 (.there (.there (.cons (.cons (.cons (.cons .nil)))))) rfl ?_) rfl;refine vr 6 ?_;refine Lo 1 sg42 rfl hc1 ?_;refine Lb 0 sg42 .h1 ?_;refine cfa 23 ?_;refine Mf fun _ => ?_;exact pW hl2 ⟨.inl (vI (by decide) hwho), rfl⟩
 subst hwho;by_cases hname : name = []
 rotate_left
 ·refine Ps 5 ?_;refine La 1 ag45 haN ?_;refine zE (zc ag45 rfl rfl rfl .h1 (.there (.there (.cons (.cons (.cons (.cons .nil)))))) rfl ?_) rfl;refine vr 6 ?_;refine Lo 1 sg42 rfl hc1 ?_;refine Lb 0 sg42 .h1 ?_;refine ctr 2 ?_;refine Lo 1 sg9 rfl hc6 ?_;refine Lb 0 sg9 .h1 ?_;refine cfa 17 ?_;refine Mf fun _ => ?_;exact pW hl2 ⟨.inl (y8 (by decide) (by decide) hname), rfl⟩
 subst hname;by_cases hle : la + lb = 0
 rotate_left
 ·have hnb : ¬ bareE cond thn els := fun h => hle (by have := h.2; omega);refine Ps 5 ?_;refine La 1 ag45 haN ?_;refine zE (zc ag45 rfl rfl rfl .h1 (.there (.there (.cons (.cons (.cons (.cons .nil)))))) rfl ?_) rfl;refine vr 6 ?_;refine Lo 1 sg42 rfl hc1 ?_;refine Lb 0 sg42 .h1 ?_;refine ctr 2 ?_;refine Lo 1 sg9 rfl hc6 ?_;refine Lb 0 sg9 .h1 ?_;refine ctr 3 ?_
  refine Lo 2 sg38 rfl hc12 ?_;refine Lo 1 sg38 rfl hc13 ?_;refine pe 0 (zi rfl rfl (by omega)) ?_;refine cfo 7 ?_;refine Mf fun _ => ?_;exact pW hl2 ⟨.inl (zy (by decide) hnb), rfl⟩
 refine Ps 5 ?_;refine La 1 ag45 haN ?_;refine zE (zc ag45 rfl rfl rfl .h1 (.there (.there (.cons (.cons (.cons (.cons .nil)))))) rfl ?_) rfl;refine vr 6 ?_;refine Lo 1 sg42 rfl hc1 ?_;refine Lb 0 sg42 .h1 ?_;refine ctr 2 ?_;refine Lo 1 sg9 rfl hc6 ?_;refine Lb 0 sg9 .h1 ?_;refine ctr 3 ?_;refine Lo 2 sg38 rfl hc12 ?_;refine Lo 1 sg38 rfl hc13 ?_
 refine pe 0 (zi rfl rfl (by omega)) ?_;refine cto 2 ?_;refine pe 1 (zT zl45 pl45 rfl rfl) ?_;refine La 0 ag48 haC ?_;refine Cr cl112 rfl (fun m' hm he => (plainC112 hc)) ?_;rintro _ rfl;cases hzc : zeroC cond with
 | false =>
   have hnb : ¬ bareE cond thn els := fun h => absurd (hzc.symm.trans h.1) (by decide);refine vr 1 ?_;refine Mf fun _ => ?_;exact pW hl2 ⟨.inl (zy (by decide) hnb), rfl⟩
 | true =>
   have hbr : bareE cond thn els := ⟨hzc, by omega⟩;refine vr 1 ?_;refine Mt 6 ?_;refine Lo 0 sg42 rfl hc0 ?_;refine cfo 2 ?_;refine Lo 0 sg42 rfl hc0 ?_;refine cfo 3 ?_;refine Lo 0 sg42 rfl hc0 ?_;refine cfo 9 ?_;refine Ps 4 ?_;rw [show p + 1 + numW n = p + (1 + numW n) by omega]
   exact zX hl2 [_] ⟨rfl, trivial⟩ [_] .p0 ⟨sGain ++ sSp ++ v ++ sSemi, by rw [jH hbr, h3]; rfl, by omega, congrArg (fun t => Value.string (bs t)) (by simp), rfl⟩
theorem Xq (hT : TabI m) (hU : Tabs m) {op who nop nn nwho : Int} {nA : Option Addr} {nl nc : Nat} {name : List UInt8} {cop cwho : Int} {cname : List UInt8} {cA : Option Addr} {cla cca : Nat} {cB : Option Addr} {clb ccb : Nat} {TA : Option Addr} {la ca : Nat} {EB : Option Addr} {lb cb : Nat} {n : NumT} {cond : CondT} {thn els : List EffT}
  (hn : NumR m (n4 nop nn nwho nA nl nc) n) (hc : CondR m (c5 cop cwho cname cA cla cca cB clb ccb) cond) (hcs : CondSm cond) (hnm : name.length ≤ 140737488355328) (hla : thn.length = la) (hlb : els.length = lb) (hla2 : la ≤ 140737488355328) (hlb2 : lb ≤ 140737488355328)
  (hbt : BlkOk m b TA la ca thn) (hbe : BlkOk m b EB lb cb els) (hop : op = 5) : EffOk m b (e14 op who nop nn nwho nA nl nc name cop cwho cname cA cla cca cB clb ccb TA la ca EB lb cb) (.mk op who n name cond thn els) := by
 subst hop;intro m0 hm0 p d hp hd;skip;refine za [.tmp 4] Tryz.func94 rfl rfl rfl ?_;refine tr 2 ?_;refine Bx 0 rfl fun b1 => ?_;refine Bx 4 rfl fun b2 => ?_;refine zG .here (fun ns hi _ hd1 => ?_);refine zG .here (fun ns2 hi2 _ hd2 => ?_)
 have hR : Rd (uni (uni m0 ns) ns2) (some ⟨b2, 0, none⟩) (e14 5 who nop nn nwho nA nl nc name cop cwho cname cA cla cca cB clb ccb TA la ca EB lb cb) := ((Rd.blk hi).mono (zV hd1)).mono (zM _ _);have haN : At (uni (uni m0 ns) ns2) ⟨b2, 2, none⟩ (n4 nop nn nwho nA nl nc) := ((At.blkO (o := 2) (k := 4) hi).mono (zV hd1)).mono (zM _ _)
 have haC : At (uni (uni m0 ns) ns2) ⟨b2, 7, none⟩ (c5 cop cwho cname cA cla cca cB clb ccb) := ((At.blkO (o := 7) (k := 5) hi).mono (zV hd1)).mono (zM _ _);have hR1 : Rd (uni (uni m0 ns) ns2) (some ⟨b1, 0, none⟩) [ptr b] := (Rd.blk hi2).mono (zV hd2);have hl2 : Le m0 (uni (uni m0 ns) ns2) := (zM _ _).trans (zM _ _);clear hi hd1 hi2 hd2
 generalize uni (uni m0 ns) ns2 = m9 at hR hR1 hl2 haN haC;have hl9 := hm0.trans hl2;have hT := hT.mono hl9;have hU := hU.mono hl9;have hn := hn.mono hl9;have hc := hc.mono hl9;have hbt := hbt.mono hl9;have hbe := hbe.mono hl9;have iN : NumOk m9 b _ n := num111 (b := b) hT hn;have iC : CondOk m9 b _ cond := cond115 (b := b) hT hU hc hcs
 have hcp : mc m9 ⟨b1, 0, none⟩ = some (ptr b) := hR1.at_ (i := 0) rfl;have hc0 : mc m9 ⟨b2, 0, none⟩ = some (.int .i8 5) := hR.at_ (i := 0) rfl;have hc1 : mc m9 ⟨b2, 1, none⟩ = some (.int .i8 who) := hR.at_ (i := 1) rfl;have hc6 : mc m9 ⟨b2, 6, none⟩ = some (.string (bs name)) := hR.at_ (i := 6) rfl;have hc12 : mc m9 ⟨b2, 12, none⟩ = some (.slice TA la ca) := hR.at_ (i := 12) rfl
 have hc13 : mc m9 ⟨b2, 13, none⟩ = some (.slice EB lb cb) := hR.at_ (i := 13) rfl;have hw1 := y4 (.mk 5 who n name cond thn els);refine tr 1 ?_;refine Lo 0 sg89 rfl hcp ?_;refine Cp cl109 rfl .k0 (fun m' hm he => part109 hp) ?_ ?_
 ·rintro _ _ ⟨h1, rfl⟩;exact pW hl2 ⟨.inr (by omega), rfl⟩
 rintro _ _ ⟨hp1, rfl, rfl⟩;rw [wS (by decide)];refine vr 5 ?_;refine Lo 0 sg42 rfl hc0 ?_;refine pe 0 (zT zl50 pl50 rfl rfl) ?_;refine Al 0 zl50 fun b3 => ?_;refine Sg 11 ag50 .here ?_;refine Lo 6 sg42 rfl hc0 ?_;refine cfo 5 ?_;refine cfo 6 ?_;refine cfo 6 ?_;refine cfo 6 ?_;refine ctr 6 ?_;refine Lo 1 sg89 rfl hcp ?_;refine La 0 ag45 haN ?_
 refine Cp cl111 rfl .k1 (fun m' hm he => iN m' hm (p + 1) d hp1 hd) ?_ ?_
 ·rintro _ _ ⟨h3, rfl⟩;exact pW hl2 ⟨h3.imp (xW (by decide)) (fun h => by omega), rfl⟩
 rintro _ _ ⟨v, h3, h4, rfl, rfl⟩;have hvl := yp h3 h4;by_cases hwho : who = 0
 rotate_left
 ·refine Ps 5 ?_;refine La 1 ag45 haN ?_;refine zE (zc ag45 rfl rfl rfl .h1 (.there (.there (.cons (.cons (.cons (.cons .nil)))))) rfl ?_) rfl;refine vr 6 ?_;refine Lo 1 sg42 rfl hc1 ?_;refine Lb 0 sg42 .h1 ?_;refine cfa 23 ?_;refine Mf fun _ => ?_;exact pW hl2 ⟨.inl (vI (by decide) hwho), rfl⟩
 subst hwho;by_cases hname : name = []
 rotate_left
 ·refine Ps 5 ?_;refine La 1 ag45 haN ?_;refine zE (zc ag45 rfl rfl rfl .h1 (.there (.there (.cons (.cons (.cons (.cons .nil)))))) rfl ?_) rfl;refine vr 6 ?_;refine Lo 1 sg42 rfl hc1 ?_;refine Lb 0 sg42 .h1 ?_;refine ctr 2 ?_;refine Lo 1 sg9 rfl hc6 ?_;refine Lb 0 sg9 .h1 ?_;refine cfa 17 ?_;refine Mf fun _ => ?_;exact pW hl2 ⟨.inl (y8 (by decide) (by decide) hname), rfl⟩
 subst hname;by_cases hle : la + lb = 0
 rotate_left
 ·have hnb : ¬ bareE cond thn els := fun h => hle (by have := h.2; omega);refine Ps 5 ?_;refine La 1 ag45 haN ?_;refine zE (zc ag45 rfl rfl rfl .h1 (.there (.there (.cons (.cons (.cons (.cons .nil)))))) rfl ?_) rfl;refine vr 6 ?_;refine Lo 1 sg42 rfl hc1 ?_;refine Lb 0 sg42 .h1 ?_;refine ctr 2 ?_;refine Lo 1 sg9 rfl hc6 ?_;refine Lb 0 sg9 .h1 ?_;refine ctr 3 ?_
  refine Lo 2 sg38 rfl hc12 ?_;refine Lo 1 sg38 rfl hc13 ?_;refine pe 0 (zi rfl rfl (by omega)) ?_;refine cfo 7 ?_;refine Mf fun _ => ?_;exact pW hl2 ⟨.inl (zy (by decide) hnb), rfl⟩
 refine Ps 5 ?_;refine La 1 ag45 haN ?_;refine zE (zc ag45 rfl rfl rfl .h1 (.there (.there (.cons (.cons (.cons (.cons .nil)))))) rfl ?_) rfl;refine vr 6 ?_;refine Lo 1 sg42 rfl hc1 ?_;refine Lb 0 sg42 .h1 ?_;refine ctr 2 ?_;refine Lo 1 sg9 rfl hc6 ?_;refine Lb 0 sg9 .h1 ?_;refine ctr 3 ?_;refine Lo 2 sg38 rfl hc12 ?_;refine Lo 1 sg38 rfl hc13 ?_
 refine pe 0 (zi rfl rfl (by omega)) ?_;refine cto 2 ?_;refine pe 1 (zT zl45 pl45 rfl rfl) ?_;refine La 0 ag48 haC ?_;refine Cr cl112 rfl (fun m' hm he => (plainC112 hc)) ?_;rintro _ rfl;cases hzc : zeroC cond with
 | false =>
   have hnb : ¬ bareE cond thn els := fun h => absurd (hzc.symm.trans h.1) (by decide);refine vr 1 ?_;refine Mf fun _ => ?_;exact pW hl2 ⟨.inl (zy (by decide) hnb), rfl⟩
 | true =>
   have hbr : bareE cond thn els := ⟨hzc, by omega⟩;refine vr 1 ?_;refine Mt 6 ?_;refine Lo 0 sg42 rfl hc0 ?_;refine cfo 2 ?_;refine Lo 0 sg42 rfl hc0 ?_;refine cfo 3 ?_;refine Lo 0 sg42 rfl hc0 ?_;refine cfo 9 ?_;refine Ps 4 ?_;rw [show p + 1 + numW n = p + (1 + numW n) by omega]
   exact zX hl2 [_] ⟨rfl, trivial⟩ [_] .p0 ⟨sLook ++ sSp ++ v ++ sSemi, by rw [jG hbr, h3]; rfl, by omega, congrArg (fun t => Value.string (bs t)) (by simp), rfl⟩
end
section
open Wd Tp Kd
variable {m : Mp} {b d p : Nat}
theorem Xu (hT : TabI m) (hU : Tabs m) {op who nop nn nwho : Int} {nA : Option Addr} {nl nc : Nat} {name : List UInt8} {cop cwho : Int} {cname : List UInt8} {cA : Option Addr} {cla cca : Nat} {cB : Option Addr} {clb ccb : Nat} {TA : Option Addr} {la ca : Nat} {EB : Option Addr} {lb cb : Nat} {n : NumT} {cond : CondT} {thn els : List EffT}
  (hn : NumR m (n4 nop nn nwho nA nl nc) n) (hc : CondR m (c5 cop cwho cname cA cla cca cB clb ccb) cond) (hcs : CondSm cond) (hnm : name.length ≤ 140737488355328) (hla : thn.length = la) (hlb : els.length = lb) (hla2 : la ≤ 140737488355328) (hlb2 : lb ≤ 140737488355328)
  (hbt : BlkOk m b TA la ca thn) (hbe : BlkOk m b EB lb cb els) (hop : op = 4) : EffOk m b (e14 op who nop nn nwho nA nl nc name cop cwho cname cA cla cca cB clb ccb TA la ca EB lb cb) (.mk op who n name cond thn els) := by
 subst hop;intro m0 hm0 p d hp hd;skip;refine za [.tmp 4] Tryz.func94 rfl rfl rfl ?_;refine tr 2 ?_;refine Bx 0 rfl fun b1 => ?_;refine Bx 4 rfl fun b2 => ?_;refine zG .here (fun ns hi _ hd1 => ?_);refine zG .here (fun ns2 hi2 _ hd2 => ?_)
 have hR : Rd (uni (uni m0 ns) ns2) (some ⟨b2, 0, none⟩) (e14 4 who nop nn nwho nA nl nc name cop cwho cname cA cla cca cB clb ccb TA la ca EB lb cb) := ((Rd.blk hi).mono (zV hd1)).mono (zM _ _);have haN : At (uni (uni m0 ns) ns2) ⟨b2, 2, none⟩ (n4 nop nn nwho nA nl nc) := ((At.blkO (o := 2) (k := 4) hi).mono (zV hd1)).mono (zM _ _)
 have haC : At (uni (uni m0 ns) ns2) ⟨b2, 7, none⟩ (c5 cop cwho cname cA cla cca cB clb ccb) := ((At.blkO (o := 7) (k := 5) hi).mono (zV hd1)).mono (zM _ _);have hR1 : Rd (uni (uni m0 ns) ns2) (some ⟨b1, 0, none⟩) [ptr b] := (Rd.blk hi2).mono (zV hd2);have hl2 : Le m0 (uni (uni m0 ns) ns2) := (zM _ _).trans (zM _ _);clear hi hd1 hi2 hd2
 generalize uni (uni m0 ns) ns2 = m9 at hR hR1 hl2 haN haC;have hl9 := hm0.trans hl2;have hT := hT.mono hl9;have hU := hU.mono hl9;have hn := hn.mono hl9;have hc := hc.mono hl9;have hbt := hbt.mono hl9;have hbe := hbe.mono hl9;have iN : NumOk m9 b _ n := num111 (b := b) hT hn;have iC : CondOk m9 b _ cond := cond115 (b := b) hT hU hc hcs
 have hcp : mc m9 ⟨b1, 0, none⟩ = some (ptr b) := hR1.at_ (i := 0) rfl;have hc0 : mc m9 ⟨b2, 0, none⟩ = some (.int .i8 4) := hR.at_ (i := 0) rfl;have hc1 : mc m9 ⟨b2, 1, none⟩ = some (.int .i8 who) := hR.at_ (i := 1) rfl;have hc6 : mc m9 ⟨b2, 6, none⟩ = some (.string (bs name)) := hR.at_ (i := 6) rfl;have hc12 : mc m9 ⟨b2, 12, none⟩ = some (.slice TA la ca) := hR.at_ (i := 12) rfl
 have hc13 : mc m9 ⟨b2, 13, none⟩ = some (.slice EB lb cb) := hR.at_ (i := 13) rfl;have hw1 := y4 (.mk 4 who n name cond thn els);refine tr 1 ?_;refine Lo 0 sg89 rfl hcp ?_;refine Cp cl109 rfl .k0 (fun m' hm he => part109 hp) ?_ ?_
 ·rintro _ _ ⟨h1, rfl⟩;exact pW hl2 ⟨.inr (by omega), rfl⟩
 rintro _ _ ⟨hp1, rfl, rfl⟩;rw [vH (by decide) (by decide)];refine vr 5 ?_;refine Lo 0 sg42 rfl hc0 ?_;refine pe 0 (zT zl50 pl50 rfl rfl) ?_;refine Al 0 zl50 fun b3 => ?_;refine Sg 11 ag50 .here ?_;refine Lo 6 sg42 rfl hc0 ?_;refine cfo 5 ?_;refine cfo 6 ?_;refine cfo 6 ?_;refine cfo 6 ?_;refine cfo 6 ?_;refine ctr 7 ?_;refine Lo 0 sg42 rfl hc1 ?_;refine Cn cl110 rfl side110 ?_ ?_
 ·rintro _ _ ⟨h1, rfl⟩;exact pW hl2 ⟨.inl (uF (by decide) h1), rfl⟩
 rintro _ _ ⟨u, hu, rfl, rfl⟩;have hul := yJ hu;by_cases hname : name = []
 rotate_left
 ·refine Ps 5 ?_;refine Lo 1 sg42 rfl hc1 ?_;refine Sr 6 co42 .here .h1 ?_;refine Lo 1 sg42 rfl hc1 ?_;refine Lb 0 sg42 .here ?_;refine ctr 2 ?_;refine Lo 1 sg9 rfl hc6 ?_;refine Lb 0 sg9 .here ?_;refine cfa 17 ?_;refine Mf fun _ => ?_;exact pW hl2 ⟨.inl (y8 (by decide) (by decide) hname), rfl⟩
 subst hname;by_cases hle : la + lb = 0
 rotate_left
 ·have hnb : ¬ bareE cond thn els := fun h => hle (by have := h.2; omega);refine Ps 5 ?_;refine Lo 1 sg42 rfl hc1 ?_;refine Sr 6 co42 .here .h1 ?_;refine Lo 1 sg42 rfl hc1 ?_;refine Lb 0 sg42 .here ?_;refine ctr 2 ?_;refine Lo 1 sg9 rfl hc6 ?_;refine Lb 0 sg9 .here ?_;refine ctr 3 ?_;refine Lo 2 sg38 rfl hc12 ?_;refine Lo 1 sg38 rfl hc13 ?_;refine pe 0 (zi rfl rfl (by omega)) ?_;refine cfo 7 ?_
  refine Mf fun _ => ?_;exact pW hl2 ⟨.inl (zy (by decide) hnb), rfl⟩
 refine Ps 5 ?_;refine Lo 1 sg42 rfl hc1 ?_;refine Sr 6 co42 .here .h1 ?_;refine Lo 1 sg42 rfl hc1 ?_;refine Lb 0 sg42 .here ?_;refine ctr 2 ?_;refine Lo 1 sg9 rfl hc6 ?_;refine Lb 0 sg9 .here ?_;refine ctr 3 ?_;refine Lo 2 sg38 rfl hc12 ?_;refine Lo 1 sg38 rfl hc13 ?_;refine pe 0 (zi rfl rfl (by omega)) ?_;refine cto 2 ?_;refine pe 1 (zT zl45 pl45 rfl rfl) ?_;refine La 0 ag48 haC ?_
 refine Cr cl112 rfl (fun m' hm he => (plainC112 hc)) ?_;rintro _ rfl;cases hzc : zeroC cond with
 | false =>
   have hnb : ¬ bareE cond thn els := fun h => absurd (hzc.symm.trans h.1) (by decide);refine vr 1 ?_;refine Mf fun _ => ?_;exact pW hl2 ⟨.inl (zy (by decide) hnb), rfl⟩
 | true =>
   have hbr : bareE cond thn els := ⟨hzc, by omega⟩;refine vr 1 ?_;refine Mt 6 ?_;refine Lo 0 sg42 rfl hc0 ?_;refine ctr 15 ?_;refine La 0 ag45 haN ?_;refine pe 0 (zT zl48 pl48 rfl rfl) ?_;refine Cr cl112 rfl (fun m' hm he => (plainN112 hn)) ?_;rintro _ rfl;cases hzn : zeroN n with
   | false =>
     skip;refine Mf fun _ => ?_;exact pW hl2 ⟨.inl (vJ (by decide) hzn), rfl⟩
   | true =>
     skip;refine Mt 5 ?_;refine Ps 4 ?_;exact zX hl2 [_] ⟨rfl, trivial⟩ [_] .p1 ⟨sDrop ++ sSp ++ u ++ sSemi, by rw [jJ hbr hzn, hu]; rfl, by omega, congrArg (fun t => Value.string (bs t)) (by simp), rfl⟩
theorem Xo (hT : TabI m) (hU : Tabs m) {op who nop nn nwho : Int} {nA : Option Addr} {nl nc : Nat} {name : List UInt8} {cop cwho : Int} {cname : List UInt8} {cA : Option Addr} {cla cca : Nat} {cB : Option Addr} {clb ccb : Nat} {TA : Option Addr} {la ca : Nat} {EB : Option Addr} {lb cb : Nat} {n : NumT} {cond : CondT} {thn els : List EffT}
  (hn : NumR m (n4 nop nn nwho nA nl nc) n) (hc : CondR m (c5 cop cwho cname cA cla cca cB clb ccb) cond) (hcs : CondSm cond) (hnm : name.length ≤ 140737488355328) (hla : thn.length = la) (hlb : els.length = lb) (hla2 : la ≤ 140737488355328) (hlb2 : lb ≤ 140737488355328)
  (hbt : BlkOk m b TA la ca thn) (hbe : BlkOk m b EB lb cb els) (hop : op = 6) : EffOk m b (e14 op who nop nn nwho nA nl nc name cop cwho cname cA cla cca cB clb ccb TA la ca EB lb cb) (.mk op who n name cond thn els) := by
 subst hop;intro m0 hm0 p d hp hd;skip;refine za [.tmp 4] Tryz.func94 rfl rfl rfl ?_;refine tr 2 ?_;refine Bx 0 rfl fun b1 => ?_;refine Bx 4 rfl fun b2 => ?_;refine zG .here (fun ns hi _ hd1 => ?_);refine zG .here (fun ns2 hi2 _ hd2 => ?_)
 have hR : Rd (uni (uni m0 ns) ns2) (some ⟨b2, 0, none⟩) (e14 6 who nop nn nwho nA nl nc name cop cwho cname cA cla cca cB clb ccb TA la ca EB lb cb) := ((Rd.blk hi).mono (zV hd1)).mono (zM _ _);have haN : At (uni (uni m0 ns) ns2) ⟨b2, 2, none⟩ (n4 nop nn nwho nA nl nc) := ((At.blkO (o := 2) (k := 4) hi).mono (zV hd1)).mono (zM _ _)
 have haC : At (uni (uni m0 ns) ns2) ⟨b2, 7, none⟩ (c5 cop cwho cname cA cla cca cB clb ccb) := ((At.blkO (o := 7) (k := 5) hi).mono (zV hd1)).mono (zM _ _);have hR1 : Rd (uni (uni m0 ns) ns2) (some ⟨b1, 0, none⟩) [ptr b] := (Rd.blk hi2).mono (zV hd2);have hl2 : Le m0 (uni (uni m0 ns) ns2) := (zM _ _).trans (zM _ _);clear hi hd1 hi2 hd2
 generalize uni (uni m0 ns) ns2 = m9 at hR hR1 hl2 haN haC;have hl9 := hm0.trans hl2;have hT := hT.mono hl9;have hU := hU.mono hl9;have hn := hn.mono hl9;have hc := hc.mono hl9;have hbt := hbt.mono hl9;have hbe := hbe.mono hl9;have iN : NumOk m9 b _ n := num111 (b := b) hT hn;have iC : CondOk m9 b _ cond := cond115 (b := b) hT hU hc hcs
 have hcp : mc m9 ⟨b1, 0, none⟩ = some (ptr b) := hR1.at_ (i := 0) rfl;have hc0 : mc m9 ⟨b2, 0, none⟩ = some (.int .i8 6) := hR.at_ (i := 0) rfl;have hc1 : mc m9 ⟨b2, 1, none⟩ = some (.int .i8 who) := hR.at_ (i := 1) rfl;have hc6 : mc m9 ⟨b2, 6, none⟩ = some (.string (bs name)) := hR.at_ (i := 6) rfl;have hc12 : mc m9 ⟨b2, 12, none⟩ = some (.slice TA la ca) := hR.at_ (i := 12) rfl
 have hc13 : mc m9 ⟨b2, 13, none⟩ = some (.slice EB lb cb) := hR.at_ (i := 13) rfl;have hw1 := y4 (.mk 6 who n name cond thn els);refine tr 1 ?_;refine Lo 0 sg89 rfl hcp ?_;refine Cp cl109 rfl .k0 (fun m' hm he => part109 hp) ?_ ?_
 ·rintro _ _ ⟨h1, rfl⟩;exact pW hl2 ⟨.inr (by omega), rfl⟩
 rintro _ _ ⟨hp1, rfl, rfl⟩;rw [vH (by decide) (by decide)];refine vr 5 ?_;refine Lo 0 sg42 rfl hc0 ?_;refine pe 0 (zT zl50 pl50 rfl rfl) ?_;refine Al 0 zl50 fun b3 => ?_;refine Sg 11 ag50 .here ?_;refine Lo 6 sg42 rfl hc0 ?_;refine cfo 5 ?_;refine cfo 6 ?_;refine cfo 6 ?_;refine cfo 6 ?_;refine cfo 6 ?_;refine cfo 6 ?_;refine ctr 7 ?_;refine Lo 0 sg42 rfl hc1 ?_
 refine Cn cl110 rfl side110 ?_ ?_
 ·rintro _ _ ⟨h1, rfl⟩;exact pW hl2 ⟨.inl (uF (by decide) h1), rfl⟩
 rintro _ _ ⟨u, hu, rfl, rfl⟩;have hul := yJ hu;by_cases hname : name = []
 rotate_left
 ·refine Ps 5 ?_;refine Lo 1 sg42 rfl hc1 ?_;refine Sr 6 co42 .here .h1 ?_;refine Lo 1 sg42 rfl hc1 ?_;refine Lb 0 sg42 .here ?_;refine ctr 2 ?_;refine Lo 1 sg9 rfl hc6 ?_;refine Lb 0 sg9 .here ?_;refine cfa 17 ?_;refine Mf fun _ => ?_;exact pW hl2 ⟨.inl (y8 (by decide) (by decide) hname), rfl⟩
 subst hname;by_cases hle : la + lb = 0
 rotate_left
 ·have hnb : ¬ bareE cond thn els := fun h => hle (by have := h.2; omega);refine Ps 5 ?_;refine Lo 1 sg42 rfl hc1 ?_;refine Sr 6 co42 .here .h1 ?_;refine Lo 1 sg42 rfl hc1 ?_;refine Lb 0 sg42 .here ?_;refine ctr 2 ?_;refine Lo 1 sg9 rfl hc6 ?_;refine Lb 0 sg9 .here ?_;refine ctr 3 ?_;refine Lo 2 sg38 rfl hc12 ?_;refine Lo 1 sg38 rfl hc13 ?_;refine pe 0 (zi rfl rfl (by omega)) ?_;refine cfo 7 ?_
  refine Mf fun _ => ?_;exact pW hl2 ⟨.inl (zy (by decide) hnb), rfl⟩
 refine Ps 5 ?_;refine Lo 1 sg42 rfl hc1 ?_;refine Sr 6 co42 .here .h1 ?_;refine Lo 1 sg42 rfl hc1 ?_;refine Lb 0 sg42 .here ?_;refine ctr 2 ?_;refine Lo 1 sg9 rfl hc6 ?_;refine Lb 0 sg9 .here ?_;refine ctr 3 ?_;refine Lo 2 sg38 rfl hc12 ?_;refine Lo 1 sg38 rfl hc13 ?_;refine pe 0 (zi rfl rfl (by omega)) ?_;refine cto 2 ?_;refine pe 1 (zT zl45 pl45 rfl rfl) ?_;refine La 0 ag48 haC ?_
 refine Cr cl112 rfl (fun m' hm he => (plainC112 hc)) ?_;rintro _ rfl;cases hzc : zeroC cond with
 | false =>
   have hnb : ¬ bareE cond thn els := fun h => absurd (hzc.symm.trans h.1) (by decide);refine vr 1 ?_;refine Mf fun _ => ?_;exact pW hl2 ⟨.inl (zy (by decide) hnb), rfl⟩
 | true =>
   have hbr : bareE cond thn els := ⟨hzc, by omega⟩;refine vr 1 ?_;refine Mt 6 ?_;refine Lo 0 sg42 rfl hc0 ?_;refine cfo 2 ?_;refine Lo 0 sg42 rfl hc0 ?_;refine ctr 11 ?_;refine La 0 ag45 haN ?_;refine pe 0 (zT zl48 pl48 rfl rfl) ?_;refine Cr cl112 rfl (fun m' hm he => (plainN112 hn)) ?_;rintro _ rfl;cases hzn : zeroN n with
   | false =>
     skip;refine Mf fun _ => ?_;exact pW hl2 ⟨.inl (vJ (by decide) hzn), rfl⟩
   | true =>
     skip;refine Mt 5 ?_;refine Ps 4 ?_;exact zX hl2 [_] ⟨rfl, trivial⟩ [_] .p1 ⟨sShow ++ sSp ++ u ++ sSemi, by rw [jF hbr hzn, hu]; rfl, by omega, congrArg (fun t => Value.string (bs t)) (by simp), rfl⟩
end
section
open Wd Tp Kd
variable {m : Mp} {b d p : Nat}
theorem Zk (hT : TabI m) (hU : Tabs m) {op who nop nn nwho : Int} {nA : Option Addr} {nl nc : Nat} {name : List UInt8} {cop cwho : Int} {cname : List UInt8} {cA : Option Addr} {cla cca : Nat} {cB : Option Addr} {clb ccb : Nat} {TA : Option Addr} {la ca : Nat} {EB : Option Addr} {lb cb : Nat} {n : NumT} {cond : CondT} {thn els : List EffT}
  (hn : NumR m (n4 nop nn nwho nA nl nc) n) (hc : CondR m (c5 cop cwho cname cA cla cca cB clb ccb) cond) (hcs : CondSm cond) (hnm : name.length ≤ 140737488355328) (hla : thn.length = la) (hlb : els.length = lb) (hla2 : la ≤ 140737488355328) (hlb2 : lb ≤ 140737488355328)
  (hbt : BlkOk m b TA la ca thn) (hbe : BlkOk m b EB lb cb els) (hop : op = 7) : EffOk m b (e14 op who nop nn nwho nA nl nc name cop cwho cname cA cla cca cB clb ccb TA la ca EB lb cb) (.mk op who n name cond thn els) := by
 subst hop;intro m0 hm0 p d hp hd;skip;refine za [.tmp 4] Tryz.func94 rfl rfl rfl ?_;refine tr 2 ?_;refine Bx 0 rfl fun b1 => ?_;refine Bx 4 rfl fun b2 => ?_;refine zG .here (fun ns hi _ hd1 => ?_);refine zG .here (fun ns2 hi2 _ hd2 => ?_)
 have hR : Rd (uni (uni m0 ns) ns2) (some ⟨b2, 0, none⟩) (e14 7 who nop nn nwho nA nl nc name cop cwho cname cA cla cca cB clb ccb TA la ca EB lb cb) := ((Rd.blk hi).mono (zV hd1)).mono (zM _ _);have haN : At (uni (uni m0 ns) ns2) ⟨b2, 2, none⟩ (n4 nop nn nwho nA nl nc) := ((At.blkO (o := 2) (k := 4) hi).mono (zV hd1)).mono (zM _ _)
 have haC : At (uni (uni m0 ns) ns2) ⟨b2, 7, none⟩ (c5 cop cwho cname cA cla cca cB clb ccb) := ((At.blkO (o := 7) (k := 5) hi).mono (zV hd1)).mono (zM _ _);have hR1 : Rd (uni (uni m0 ns) ns2) (some ⟨b1, 0, none⟩) [ptr b] := (Rd.blk hi2).mono (zV hd2);have hl2 : Le m0 (uni (uni m0 ns) ns2) := (zM _ _).trans (zM _ _);clear hi hd1 hi2 hd2
 generalize uni (uni m0 ns) ns2 = m9 at hR hR1 hl2 haN haC;have hl9 := hm0.trans hl2;have hT := hT.mono hl9;have hU := hU.mono hl9;have hn := hn.mono hl9;have hc := hc.mono hl9;have hbt := hbt.mono hl9;have hbe := hbe.mono hl9;have iN : NumOk m9 b _ n := num111 (b := b) hT hn;have iC : CondOk m9 b _ cond := cond115 (b := b) hT hU hc hcs
 have hcp : mc m9 ⟨b1, 0, none⟩ = some (ptr b) := hR1.at_ (i := 0) rfl;have hc0 : mc m9 ⟨b2, 0, none⟩ = some (.int .i8 7) := hR.at_ (i := 0) rfl;have hc1 : mc m9 ⟨b2, 1, none⟩ = some (.int .i8 who) := hR.at_ (i := 1) rfl;have hc6 : mc m9 ⟨b2, 6, none⟩ = some (.string (bs name)) := hR.at_ (i := 6) rfl;have hc12 : mc m9 ⟨b2, 12, none⟩ = some (.slice TA la ca) := hR.at_ (i := 12) rfl
 have hc13 : mc m9 ⟨b2, 13, none⟩ = some (.slice EB lb cb) := hR.at_ (i := 13) rfl;have hw1 := y4 (.mk 7 who n name cond thn els);refine tr 1 ?_;refine Lo 0 sg89 rfl hcp ?_;refine Cp cl109 rfl .k0 (fun m' hm he => part109 hp) ?_ ?_
 ·rintro _ _ ⟨h1, rfl⟩;exact pW hl2 ⟨.inr (by omega), rfl⟩
 rintro _ _ ⟨hp1, rfl, rfl⟩;rw [vH (by decide) (by decide)];refine vr 5 ?_;refine Lo 0 sg42 rfl hc0 ?_;refine pe 0 (zT zl50 pl50 rfl rfl) ?_;refine Al 0 zl50 fun b3 => ?_;refine Sg 11 ag50 .here ?_;refine Lo 6 sg42 rfl hc0 ?_;refine cfo 5 ?_;refine cfo 6 ?_;refine cfo 6 ?_;refine cfo 6 ?_;refine cfo 6 ?_;refine cfo 6 ?_;refine cfo 6 ?_;refine ctr 7 ?_;refine Lo 0 sg9 rfl hc6 ?_
 refine Cr cl41 rfl (fun m' hm he => (xj (hU.mono hm) hnm)) ?_;rintro _ rfl;cases hnp : nameP name with
 | false =>
   skip;refine Mf fun _ => ?_;exact pW hl2 ⟨.inl (jc hnp), rfl⟩
 | true =>
   have hn40 := zx hnp;skip;refine Mt 0 ?_;by_cases hwho : who = 0
   rotate_left
   ·refine vr 5 ?_;refine Lo 0 sg9 rfl hc6 ?_;refine Ps 5 ?_;refine Lo 1 sg9 rfl hc6 ?_;refine Sr 6 co9 .here .h6 ?_;refine Lo 1 sg42 rfl hc1 ?_;refine Lb 0 sg42 .here ?_;refine cfa 23 ?_;refine Mf fun _ => ?_;exact pW hl2 ⟨.inl (vI (by decide) hwho), rfl⟩
   subst hwho;by_cases hle : la + lb = 0
   rotate_left
   ·have hnb : ¬ bareE cond thn els := fun h => hle (by have := h.2; omega);refine vr 5 ?_;refine Lo 0 sg9 rfl hc6 ?_;refine Ps 5 ?_;refine Lo 1 sg9 rfl hc6 ?_;refine Sr 6 co9 .here .h6 ?_;refine Lo 1 sg42 rfl hc1 ?_;refine Lb 0 sg42 .here ?_;refine ctr 2 ?_;refine Lo 1 sg9 rfl hc6 ?_;refine Lb 0 sg9 .here ?_;refine ctr 3 ?_;refine Lo 2 sg38 rfl hc12 ?_;refine Lo 1 sg38 rfl hc13 ?_
    refine pe 0 (zi rfl rfl (by omega)) ?_;refine cfo 7 ?_;refine Mf fun _ => ?_;exact pW hl2 ⟨.inl (zy (by decide) hnb), rfl⟩
   refine vr 5 ?_;refine Lo 0 sg9 rfl hc6 ?_;refine Ps 5 ?_;refine Lo 1 sg9 rfl hc6 ?_;refine Sr 6 co9 .here .h6 ?_;refine Lo 1 sg42 rfl hc1 ?_;refine Lb 0 sg42 .here ?_;refine ctr 2 ?_;refine Lo 1 sg9 rfl hc6 ?_;refine Lb 0 sg9 .here ?_;refine ctr 3 ?_;refine Lo 2 sg38 rfl hc12 ?_;refine Lo 1 sg38 rfl hc13 ?_;refine pe 0 (zi rfl rfl (by omega)) ?_;refine cto 2 ?_
   refine pe 1 (zT zl45 pl45 rfl rfl) ?_;refine La 0 ag48 haC ?_;refine Cr cl112 rfl (fun m' hm he => (plainC112 hc)) ?_;rintro _ rfl;cases hzc : zeroC cond with
   | false =>
     have hnb : ¬ bareE cond thn els := fun h => absurd (hzc.symm.trans h.1) (by decide);refine vr 1 ?_;refine Mf fun _ => ?_;exact pW hl2 ⟨.inl (zy (by decide) hnb), rfl⟩
   | true =>
     have hbr : bareE cond thn els := ⟨hzc, by omega⟩;refine vr 1 ?_;refine Mt 6 ?_;refine Lo 0 sg42 rfl hc0 ?_;refine cfo 2 ?_;refine Lo 0 sg42 rfl hc0 ?_;refine cfo 3 ?_;refine Lo 0 sg42 rfl hc0 ?_;refine ctr 6 ?_;refine La 0 ag45 haN ?_;refine pe 0 (zT zl48 pl48 rfl rfl) ?_;refine Cr cl112 rfl (fun m' hm he => (plainN112 hn)) ?_;rintro _ rfl;cases hzn : zeroN n with
     | false =>
       skip;refine Mf fun _ => ?_;exact pW hl2 ⟨.inl (vJ (by decide) hzn), rfl⟩
     | true =>
       skip;refine Mt 5 ?_;refine Ps 4 ?_;exact zX hl2 [_] ⟨rfl, trivial⟩ [_] .p1 ⟨sSummon ++ sSp ++ name ++ sSemi, by rw [uE hbr hzn hnp], by omega, congrArg (fun t => Value.string (bs t)) (by simp), rfl⟩
end
section
open Wd Tp Kd
variable {m : Mp} {b d p : Nat}
theorem QH {c : CondT} {t e : List EffT} {d p : Nat} (h : condP c d = none ∨ 200 < p + condW c) : ifP c t e d = none ∨ 200 < p + (condW c + effsW t + effsW e) := by
 rcases h with h | h
 ·left; unfold ifP; rw [h]; rfl
 ·right; omega
theorem QG {c : CondT} {t e : List EffT} {d p : Nat} (h : blkP t d = none ∨ 200 < p + condW c + effsW t) : ifP c t e d = none ∨ 200 < p + (condW c + effsW t + effsW e) := by
 rcases h with h | h
 ·left; unfold ifP; rw [h]; cases condP c d <;> rfl
 ·right; omega
theorem QF {c : CondT} {t e : List EffT} {d p : Nat} (h : blkP e d = none ∨ 200 < p + condW c + effsW t + effsW e) : ifP c t e d = none ∨ 200 < p + (condW c + effsW t + effsW e) := by
 rcases h with h | h
 ·left; unfold ifP; rw [h]; cases condP c d <;> cases blkP t d <;> rfl
 ·right; omega
theorem ifP_ok {c : CondT} {t e : List EffT} {d : Nat} {s u v : List UInt8} (h1 : condP c d = some s) (h2 : blkP t d = some u) (h3 : blkP e d = some v) : ifP c t e d = some (ifT s u v) := by unfold ifP; rw [h1, h2, h3]; rfl
theorem if114 {op who nop nn nwho : Int} {nA : Option Addr} {nl nc : Nat} {name : List UInt8} {cop cwho : Int} {cname : List UInt8} {cA : Option Addr} {cla cca : Nat} {cB : Option Addr} {clb ccb : Nat} {TA : Option Addr} {la ca : Nat} {EB : Option Addr} {lb cb : Nat} {cond : CondT} {thn els : List EffT} {B1 B2 : Nat}
  (h1 : Rd m (some ⟨B1, 0, none⟩) [ptr b]) (h2 : Rd m (some ⟨B2, 0, none⟩) (e14 op who nop nn nwho nA nl nc name cop cwho cname cA cla cca cB clb ccb TA la ca EB lb cb)) (haC : At m ⟨B2, 7, none⟩ (c5 cop cwho cname cA cla cca cB clb ccb))
  (iC : CondOk m b (c5 cop cwho cname cA cla cca cB clb ccb) cond) (hbt : BlkOk m b TA la ca thn) (hbe : BlkOk m b EB lb cb els) (hp : p ≤ 200) (hd : d ≤ 8) :
  PrC 114 [ptr B1, ptr B2] m b p d (ifP cond thn els d) (condW cond + effsW thn + effsW els) := by
 have hcp : mc m ⟨B1, 0, none⟩ = some (ptr b) := h1.at_ (i := 0) rfl;have hc12 : mc m ⟨B2, 12, none⟩ = some (.slice TA la ca) := h2.at_ (i := 12) rfl;have hc13 : mc m ⟨B2, 13, none⟩ = some (.slice EB lb cb) := h2.at_ (i := 13) rfl;refine za [.tmp 2] Tryz.func114 rfl rfl rfl ?_;refine tr 7 ?_;refine Lo 1 sg89 rfl hcp ?_;refine La 0 ag48 haC ?_
 refine Cp cl115 rfl .k0 (fun m' hm he => iC m' hm p d hp hd) ?_ ?_
 ·rintro _ _ ⟨g1, rfl⟩;exact pn ⟨QH g1, rfl⟩
 rintro _ _ ⟨s, g1, g2, rfl, rfl⟩;have hsl := c_len g1 g2;refine Ps 6 ?_;refine Lo 1 sg89 rfl hcp ?_;refine Lo 0 sg38 rfl hc12 ?_;refine Cp cl44 rfl .k0 (fun m' hm he => hbt m' hm (p + condW cond) d g2 hd) ?_ ?_
 ·rintro _ _ ⟨g3, rfl⟩;exact pn ⟨QG g3, rfl⟩
 rintro _ _ ⟨u, g3, g4, rfl, rfl⟩;have hul := zt g3
 iterate 3 (refine YK (WV rfl rfl (by simp <;> omega)) rfl rfl rfl ?_)
 refine vr 6 ?_;refine Ps 0 ?_;refine Lo 1 sg89 rfl hcp ?_;refine Lo 0 sg38 rfl hc13 ?_;refine Cp cl44 rfl .k0 (fun m' hm he => hbe m' hm (p + condW cond + effsW thn) d g4 hd) ?_ ?_
 ·rintro _ _ ⟨g5, rfl⟩;exact pn ⟨QF g5, rfl⟩
 rintro _ _ ⟨v, g5, g6, rfl, rfl⟩;have hvl := zt g5;refine Ps 0 ?_;refine Ps 4 ?_;rw [show p + condW cond + effsW thn + effsW els = p + (condW cond + effsW thn + effsW els) by omega];exact zb [_] ⟨rfl, trivial⟩ [_] .p0 ⟨ifT s u v, ifP_ok g1 g3 g5, by omega, congrArg (fun t => Value.string (bs t)) (by simp [ifT]), rfl⟩
theorem Uk (hT : TabI m) (hU : Tabs m) {op who nop nn nwho : Int} {nA : Option Addr} {nl nc : Nat} {name : List UInt8} {cop cwho : Int} {cname : List UInt8} {cA : Option Addr} {cla cca : Nat} {cB : Option Addr} {clb ccb : Nat} {TA : Option Addr} {la ca : Nat} {EB : Option Addr} {lb cb : Nat} {n : NumT} {cond : CondT} {thn els : List EffT}
  (hn : NumR m (n4 nop nn nwho nA nl nc) n) (hc : CondR m (c5 cop cwho cname cA cla cca cB clb ccb) cond) (hcs : CondSm cond) (hnm : name.length ≤ 140737488355328) (hla : thn.length = la) (hlb : els.length = lb) (hla2 : la ≤ 140737488355328) (hlb2 : lb ≤ 140737488355328)
  (hbt : BlkOk m b TA la ca thn) (hbe : BlkOk m b EB lb cb els) (hop : op = 8) : EffOk m b (e14 op who nop nn nwho nA nl nc name cop cwho cname cA cla cca cB clb ccb TA la ca EB lb cb) (.mk op who n name cond thn els) := by
 subst hop;intro m0 hm0 p d hp hd;skip;refine za [.tmp 4] Tryz.func94 rfl rfl rfl ?_;refine tr 2 ?_;refine Bx 0 rfl fun b1 => ?_;refine Bx 4 rfl fun b2 => ?_;refine zG .here (fun ns hi _ hd1 => ?_);refine zG .here (fun ns2 hi2 _ hd2 => ?_)
 have hR : Rd (uni (uni m0 ns) ns2) (some ⟨b2, 0, none⟩) (e14 8 who nop nn nwho nA nl nc name cop cwho cname cA cla cca cB clb ccb TA la ca EB lb cb) := ((Rd.blk hi).mono (zV hd1)).mono (zM _ _);have haN : At (uni (uni m0 ns) ns2) ⟨b2, 2, none⟩ (n4 nop nn nwho nA nl nc) := ((At.blkO (o := 2) (k := 4) hi).mono (zV hd1)).mono (zM _ _)
 have haC : At (uni (uni m0 ns) ns2) ⟨b2, 7, none⟩ (c5 cop cwho cname cA cla cca cB clb ccb) := ((At.blkO (o := 7) (k := 5) hi).mono (zV hd1)).mono (zM _ _);have hR1 : Rd (uni (uni m0 ns) ns2) (some ⟨b1, 0, none⟩) [ptr b] := (Rd.blk hi2).mono (zV hd2);have hl2 : Le m0 (uni (uni m0 ns) ns2) := (zM _ _).trans (zM _ _);clear hi hd1 hi2 hd2
 generalize uni (uni m0 ns) ns2 = m9 at hR hR1 hl2 haN haC;have hl9 := hm0.trans hl2;have hT := hT.mono hl9;have hU := hU.mono hl9;have hn := hn.mono hl9;have hc := hc.mono hl9;have hbt := hbt.mono hl9;have hbe := hbe.mono hl9;have iN : NumOk m9 b _ n := num111 (b := b) hT hn;have iC : CondOk m9 b _ cond := cond115 (b := b) hT hU hc hcs
 have hcp : mc m9 ⟨b1, 0, none⟩ = some (ptr b) := hR1.at_ (i := 0) rfl;have hc0 : mc m9 ⟨b2, 0, none⟩ = some (.int .i8 8) := hR.at_ (i := 0) rfl;have hc1 : mc m9 ⟨b2, 1, none⟩ = some (.int .i8 who) := hR.at_ (i := 1) rfl;have hc6 : mc m9 ⟨b2, 6, none⟩ = some (.string (bs name)) := hR.at_ (i := 6) rfl;have hc12 : mc m9 ⟨b2, 12, none⟩ = some (.slice TA la ca) := hR.at_ (i := 12) rfl
 have hc13 : mc m9 ⟨b2, 13, none⟩ = some (.slice EB lb cb) := hR.at_ (i := 13) rfl;have hw1 := y4 (.mk 8 who n name cond thn els);refine tr 1 ?_;refine Lo 0 sg89 rfl hcp ?_;refine Cp cl109 rfl .k0 (fun m' hm he => part109 hp) ?_ ?_
 ·rintro _ _ ⟨h1, rfl⟩;exact pW hl2 ⟨.inr (by omega), rfl⟩
 rintro _ _ ⟨hp1, rfl, rfl⟩;rw [Z9, Z8];by_cases hwho : who = 0
 rotate_left
 ·rw [if_neg (fun h => hwho h.1)];refine vr 5 ?_;refine Lo 0 sg42 rfl hc0 ?_;refine pe 0 (zT zl50 pl50 rfl rfl) ?_;refine Al 0 zl50 fun b3 => ?_;refine Sg 11 ag50 .here ?_;refine Lo 6 sg42 rfl hc0 ?_;refine cfo 5 ?_;refine cfo 6 ?_;refine cfo 6 ?_;refine cfo 6 ?_;refine cfo 6 ?_;refine cfo 6 ?_;refine cfo 6 ?_;refine cfo 7 ?_;refine Lo 0 sg42 rfl hc0 ?_;refine ctr 2 ?_
  refine Lo 0 sg42 rfl hc1 ?_;refine cfa 12 ?_;refine Mf fun _ => ?_;exact pW hl2 ⟨.inl (rfl), rfl⟩
 by_cases hname : name = []
 rotate_left
 ·rw [if_neg (fun h => hname h.2.1)];refine vr 5 ?_;refine Lo 0 sg42 rfl hc0 ?_;refine pe 0 (zT zl50 pl50 rfl rfl) ?_;refine Al 0 zl50 fun b3 => ?_;refine Sg 11 ag50 .here ?_;refine Lo 6 sg42 rfl hc0 ?_;refine cfo 5 ?_;refine cfo 6 ?_;refine cfo 6 ?_;refine cfo 6 ?_;refine cfo 6 ?_;refine cfo 6 ?_;refine cfo 6 ?_;refine cfo 7 ?_;refine Lo 0 sg42 rfl hc0 ?_;refine ctr 2 ?_
  refine Lo 0 sg42 rfl hc1 ?_;refine cta 3 ?_;refine Lo 0 sg9 rfl hc6 ?_;refine cfa 7 ?_;refine Mf fun _ => ?_;exact pW hl2 ⟨.inl (rfl), rfl⟩
 subst hwho hname;refine vr 5 ?_;refine Lo 0 sg42 rfl hc0 ?_;refine pe 0 (zT zl50 pl50 rfl rfl) ?_;refine Al 0 zl50 fun b3 => ?_;refine Sg 11 ag50 .here ?_;refine Lo 6 sg42 rfl hc0 ?_;refine cfo 5 ?_;refine cfo 6 ?_;refine cfo 6 ?_;refine cfo 6 ?_;refine cfo 6 ?_;refine cfo 6 ?_;refine cfo 6 ?_;refine cfo 7 ?_;refine Lo 0 sg42 rfl hc0 ?_;refine ctr 2 ?_;refine Lo 0 sg42 rfl hc1 ?_
 refine ctr 3 ?_;refine Lo 0 sg9 rfl hc6 ?_;refine ctr 3 ?_;refine La 0 ag45 haN ?_;refine pe 0 (zT zl48 pl48 rfl rfl) ?_;refine Cr cl112 rfl (fun m' hm he => (plainN112 hn)) ?_;rintro _ rfl;cases hzn : zeroN n with
 | false =>
   rw [if_neg (fun h => absurd h.2.2 (by decide))];refine vr 1 ?_;refine Mf fun _ => ?_;exact pW hl2 ⟨.inl (rfl), rfl⟩
 | true =>
   rw [if_pos ⟨rfl, rfl, rfl⟩];refine vr 1 ?_;refine Mt 4 ?_;refine Lo 1 sg89 rfl hcp ?_;refine Cp cl113 rfl .k1 (fun m' hm he => within113 (r := ifP cond thn els) (q := [ptr b1, ptr b2]) hd cl114 (fun h8 m2 hm2 => if114 (hR1.mono (hm.trans hm2)) (hR.mono (hm.trans hm2)) (haC.mono (hm.trans hm2)) (iC.mono (hm.trans hm2)) (hbt.mono (hm.trans hm2)) (hbe.mono (hm.trans hm2)) hp1 h8)) ?_ ?_
   ·rintro _ _ ⟨h3, rfl⟩;exact pW hl2 ⟨h3.imp id (fun h => by omega), rfl⟩
   rintro _ _ ⟨t, h3, h4, rfl, rfl⟩;refine vr 6 ?_;rw [show p + 1 + (condW cond + effsW thn + effsW els) = p + (1 + (condW cond + effsW thn + effsW els)) by omega];exact zX hl2 [_] ⟨rfl, trivial⟩ [_] .p0 ⟨t, h3, by omega, rfl, rfl⟩
theorem Xt (hT : TabI m) (hU : Tabs m) {op who nop nn nwho : Int} {nA : Option Addr} {nl nc : Nat} {name : List UInt8} {cop cwho : Int} {cname : List UInt8} {cA : Option Addr} {cla cca : Nat} {cB : Option Addr} {clb ccb : Nat} {TA : Option Addr} {la ca : Nat} {EB : Option Addr} {lb cb : Nat} {n : NumT} {cond : CondT} {thn els : List EffT}
  (hn : NumR m (n4 nop nn nwho nA nl nc) n) (hc : CondR m (c5 cop cwho cname cA cla cca cB clb ccb) cond) (hcs : CondSm cond) (hnm : name.length ≤ 140737488355328) (hla : thn.length = la) (hlb : els.length = lb) (hla2 : la ≤ 140737488355328) (hlb2 : lb ≤ 140737488355328)
  (hbt : BlkOk m b TA la ca thn) (hbe : BlkOk m b EB lb cb els) (hop : ¬ (0 ≤ op ∧ op ≤ 8)) : EffOk m b (e14 op who nop nn nwho nA nl nc name cop cwho cname cA cla cca cB clb ccb TA la ca EB lb cb) (.mk op who n name cond thn els) := by
 intro m0 hm0 p d hp hd;skip;refine za [.tmp 4] Tryz.func94 rfl rfl rfl ?_;refine tr 2 ?_;refine Bx 0 rfl fun b1 => ?_;refine Bx 4 rfl fun b2 => ?_;refine zG .here (fun ns hi _ hd1 => ?_);refine zG .here (fun ns2 hi2 _ hd2 => ?_)
 have hR : Rd (uni (uni m0 ns) ns2) (some ⟨b2, 0, none⟩) (e14 op who nop nn nwho nA nl nc name cop cwho cname cA cla cca cB clb ccb TA la ca EB lb cb) := ((Rd.blk hi).mono (zV hd1)).mono (zM _ _);have haN : At (uni (uni m0 ns) ns2) ⟨b2, 2, none⟩ (n4 nop nn nwho nA nl nc) := ((At.blkO (o := 2) (k := 4) hi).mono (zV hd1)).mono (zM _ _)
 have haC : At (uni (uni m0 ns) ns2) ⟨b2, 7, none⟩ (c5 cop cwho cname cA cla cca cB clb ccb) := ((At.blkO (o := 7) (k := 5) hi).mono (zV hd1)).mono (zM _ _);have hR1 : Rd (uni (uni m0 ns) ns2) (some ⟨b1, 0, none⟩) [ptr b] := (Rd.blk hi2).mono (zV hd2);have hl2 : Le m0 (uni (uni m0 ns) ns2) := (zM _ _).trans (zM _ _);clear hi hd1 hi2 hd2
 generalize uni (uni m0 ns) ns2 = m9 at hR hR1 hl2 haN haC;have hl9 := hm0.trans hl2;have hT := hT.mono hl9;have hU := hU.mono hl9;have hn := hn.mono hl9;have hc := hc.mono hl9;have hbt := hbt.mono hl9;have hbe := hbe.mono hl9;have iN : NumOk m9 b _ n := num111 (b := b) hT hn;have iC : CondOk m9 b _ cond := cond115 (b := b) hT hU hc hcs
 have hcp : mc m9 ⟨b1, 0, none⟩ = some (ptr b) := hR1.at_ (i := 0) rfl;have hc0 : mc m9 ⟨b2, 0, none⟩ = some (.int .i8 op) := hR.at_ (i := 0) rfl;have hc1 : mc m9 ⟨b2, 1, none⟩ = some (.int .i8 who) := hR.at_ (i := 1) rfl;have hc6 : mc m9 ⟨b2, 6, none⟩ = some (.string (bs name)) := hR.at_ (i := 6) rfl;have hc12 : mc m9 ⟨b2, 12, none⟩ = some (.slice TA la ca) := hR.at_ (i := 12) rfl
 have hc13 : mc m9 ⟨b2, 13, none⟩ = some (.slice EB lb cb) := hR.at_ (i := 13) rfl;have hw1 := y4 (.mk op who n name cond thn els);refine tr 1 ?_;refine Lo 0 sg89 rfl hcp ?_;refine Cp cl109 rfl .k0 (fun m' hm he => part109 hp) ?_ ?_
 ·rintro _ _ ⟨h1, rfl⟩;exact pW hl2 ⟨.inr (by omega), rfl⟩
 rintro _ _ ⟨hp1, rfl, rfl⟩;by_cases hneg : op < 0
 ·refine vr 5 ?_;refine Lo 0 sg42 rfl hc0 ?_;refine pe 0 (zT zl50 pl50 rfl rfl) ?_;refine Al 0 zl50 fun b3 => ?_;refine Sg 11 ag50 .here ?_;refine Lo 6 sg42 rfl hc0 ?_;refine cfo 5 ?_;refine cfo 6 ?_;refine cfo 6 ?_;refine cfo 6 ?_;refine cfo 6 ?_;refine cfo 6 ?_;refine cfo 6 ?_;refine cfo 7 ?_;refine Lo 0 sg42 rfl hc0 ?_;refine cfo 16 ?_;refine Mf fun _ => ?_
  exact pW hl2 ⟨.inl (jI hop), rfl⟩
 ·have hpos : 9 ≤ op := by omega
  refine vr 5 ?_;refine Lo 0 sg42 rfl hc0 ?_;refine pe 0 (zT zl50 pl50 rfl rfl) ?_;refine Al 0 zl50 fun b3 => ?_;refine Sg 11 ag50 .here ?_;refine Lo 6 sg42 rfl hc0 ?_;refine cfo 5 ?_;refine cfo 6 ?_;refine cfo 6 ?_;refine cfo 6 ?_;refine cfo 6 ?_;refine cfo 6 ?_;refine cfo 6 ?_;refine cfo 7 ?_;refine Lo 0 sg42 rfl hc0 ?_;refine cfo 16 ?_;refine Mf fun _ => ?_
  exact pW hl2 ⟨.inl (jI hop), rfl⟩
end
section
open Wd Tp Kd
variable {m : Mp} {b : Nat}
abbrev bu (b : Nat) (p s : Value) : Ent := cel b [p, s] 76
def PB (b : Nat) (p : Value) : Prop := p = .pointer none ∨ p = ptr b
abbrev buL (b : Nat) (p : Value) (A : Option Addr) (c : Nat) (l : List UInt8) : List Ent := [cel b [p, .slice A l.length c] 76, own 5 1 A l.length c (l.map byteV)]
theorem copy88 {p s : Value} (hp : PB b p) : CS Tryz.prog 88 [ptr b] m [bu b p s] (fun v L' => v = U0 ∧ L' = [bu b (ptr b) s]) := by
 intro h hs x d;have hb : mp h b = some (.cells [p, s].toArray 76 (0, 0)) := hs.head;have hw : (W x h d).heap[b]? = some (.cells [p, s].toArray 76 (0, 0)) := hb;rcases hp with rfl | rfl
 ·refine (Any.Builder_copyCheck_fresh (ρ := Tryz.lays156_ren) { Tryz.lays156 with } Tryz.extra156.toX72 b (W x h d) (by simp [World.cell?, hw]) (by simp only [World.shape?, hw]; rfl) (by simp [World.frozen?, hw])).mono ?_;rintro e w' ⟨rfl, rfl⟩;refine ⟨U0, hset h ⟨b, 0, none⟩ (ptr b), d, rfl, rfl, _, ⟨rfl, rfl⟩, ?_⟩
  exact hs.upd (fun k _ hk => vY h _ _ (fun e => by
   have e : k = b := e;have hk : Nat.beq b k = false := hk;rw [e] at hk
   simp at hk)) (jn h (ptr b) hb) (fun k hk => .inl hk)
 ·refine (Any.Builder_copyCheck_used (ρ := Tryz.lays156_ren) { Tryz.lays156 with } Tryz.extra156.toX72 b (W x h d) (by simp [World.cell?, hw])).mono ?_;rintro e w' ⟨rfl, rfl⟩;exact ⟨U0, h, d, rfl, rfl, _, ⟨rfl, rfl⟩, hs⟩
theorem Write36 {p : Value} {A : Option Addr} {c : Nat} {l s : List UInt8} (hp : PB b p) (hA : Buf A l) (hl : l.length + s.length ≤ 140737488355328) :
  CS Tryz.prog 36 [ptr b, .string (bs s)] m (buL b p A c l) (fun v L' => ∃ A' c', Buf A' (l ++ s) ∧ v = .tuple [.int .i64 (s.length : Nat), .nilIface].toArray ∧ L' = buL b (ptr b) A' c' (l ++ s)) := by
 refine yI [.tmp 4, .tmp 5] Tryz.func36 rfl rfl rfl ?_;refine tr 9 ?_;refine C1 cl88 rfl .here (fun m' hm he => copy88 hp) ?_;rintro _ _ ⟨rfl, rfl⟩;refine vr 8 ?_;refine Lb 1 sg74 .here ?_;refine zE (V7 (l := l) sl74 rfl Tryz.underlying9 rfl rfl (fun _ _ => .h1) hA (by simp only [maxLen]; omega) (by omega) rfl (fun A' c' hB => ?_)) rfl;refine vr 2 ?_;refine Sr 5 co74 .here .h1 ?_
 refine pe 5 (zg rfl st9) ?_;rw [← List.length_append];exact zm [_, _] ⟨rfl, rfl, trivial⟩ [_, _] .pp ⟨A', c', hB, rfl, rfl⟩
theorem Len35 {p : Value} {A : Option Addr} {c : Nat} {l : List UInt8} : CS Tryz.prog 35 [ptr b] m (buL b p A c l) (fun v L' => v = .int .i64 (l.length : Nat) ∧ L' = buL b p A c l) := by
 refine yI [.tmp 2] Tryz.func35 rfl rfl rfl ?_;refine tr 10 ?_;refine Lb 5 sg74 .here ?_;exact zm [_] ⟨rfl, trivial⟩ [_, _] (Pick.refl _) ⟨rfl, rfl⟩
theorem String38 {p : Value} {A : Option Addr} {c : Nat} {l : List UInt8} (hA : Buf A l) (hl : l.length ≤ 140737488355328) : CS Tryz.prog 38 [ptr b] m (buL b p A c l) (fun v L' => v = .string (bs l) ∧ L' = []) := by
 skip;skip;refine yI [.tmp 2] Tryz.func38 rfl rfl rfl ?_;rcases hA with ⟨rfl, rfl⟩ | ⟨h0, g, rfl⟩
 ·refine tr 6 ?_;refine Db (sq [0, 1, 2, 5, 6, 7] (.fork (sq [103] (.fork (sq [104, 108, 9, 110, 11] .done) (sq [108, 9, 104, 110, 11] .done))) (sq [108, 9, 103, 104, 110, 11] .done))) ?_;refine vB 6 ?_;refine zk ?_ ?_;refine Ve 0 rfl (zZ sg74 rfl .here rfl) ?_;refine zk ?_ ?_
  ·refine zA rfl ((yX (fun h _ => (wY rfl).read) rfl rfl ?_)) rfl;refine Ve 1 rfl (zZ sg74 rfl .here rfl) ?_;refine zA rfl ((yX (fun h _ => (wE rfl rfl).read) rfl rfl ?_)) rfl;refine vB 1 ?_;refine Vn 2 ?_;exact rt1 ⟨rfl, trivial⟩ ⟨rfl, rfl⟩
  ·refine Ve 1 rfl (zZ sg74 rfl .here rfl) ?_;refine zA rfl ((yX (fun h _ => (wY rfl).read) rfl rfl ?_)) rfl;skip;refine zA rfl ((yX (fun h _ => (wE rfl rfl).read) rfl rfl ?_)) rfl;refine vB 1 ?_;refine Vn 2 ?_;exact rt1 ⟨rfl, trivial⟩ ⟨rfl, rfl⟩
  ·refine Ve 1 rfl (zZ sg74 rfl .here rfl) ?_;refine Ve 0 rfl (zZ sg74 rfl .here rfl) ?_;refine zA rfl ((yX (fun h _ => (wY rfl).read) rfl rfl ?_)) rfl;skip;refine zA rfl ((yX (fun h _ => (wE rfl rfl).read) rfl rfl ?_)) rfl;refine vB 1 ?_;refine Vn 2 ?_;exact rt1 ⟨rfl, trivial⟩ ⟨rfl, rfl⟩
 ·refine TS_fact (p := l.length ≤ c) (fun h hs => Own.le hs.tail.head) (fun hc => ?_);have hc0 : c ≠ 0 := fun e => h0 (List.eq_nil_of_length_eq_zero (by omega));refine tr 6 ?_;refine Db (sq [0, 1, 2, 5, 6, 7] (.fork (sq [103] (.fork (sq [104, 108, 9, 110, 11] .done) (sq [108, 9, 104, 110, 11] .done))) (sq [108, 9, 103, 104, 110, 11] .done))) ?_;refine vB 6 ?_;refine zk ?_ ?_
  refine Ve 0 rfl (zZ sg74 rfl .here rfl) ?_;refine zk ?_ ?_
  ·refine zA rfl ((yX (fun h _ => (uN rfl hc0).read) rfl rfl ?_)) rfl;refine Ve 1 rfl (zZ sg74 rfl .here rfl) ?_;refine zA rfl ((wX Tryz.underlying124 rfl rfl rfl .h1 h0 (by omega) rfl ?_)) rfl;refine vB 1 ?_;refine Vn 2 ?_;exact rt1 ⟨rfl, trivial⟩ ⟨rfl, rfl⟩
  ·refine Ve 1 rfl (zZ sg74 rfl .here rfl) ?_;refine zA rfl ((yX (fun h _ => (uN rfl hc0).read) rfl rfl ?_)) rfl;skip;refine zA rfl ((wX Tryz.underlying124 rfl rfl rfl .h1 h0 (by omega) rfl ?_)) rfl;refine vB 1 ?_;refine Vn 2 ?_;exact rt1 ⟨rfl, trivial⟩ ⟨rfl, rfl⟩
  ·refine Ve 1 rfl (zZ sg74 rfl .here rfl) ?_;refine Ve 0 rfl (zZ sg74 rfl .here rfl) ?_;refine zA rfl ((yX (fun h _ => (uN rfl hc0).read) rfl rfl ?_)) rfl;skip;refine zA rfl ((wX Tryz.underlying124 rfl rfl rfl .h1 h0 (by omega) rfl ?_)) rfl;refine vB 1 ?_;refine Vn 2 ?_;exact rt1 ⟨rfl, trivial⟩ ⟨rfl, rfl⟩
end
section
open Wd Tp Kd
variable {m : Mp} {b d p : Nat}
theorem eff94 (hT : TabI m) (hU : Tabs m) {op who nop nn nwho : Int} {nA : Option Addr} {nl nc : Nat} {name : List UInt8} {cop cwho : Int} {cname : List UInt8} {cA : Option Addr} {cla cca : Nat} {cB : Option Addr} {clb ccb : Nat} {TA : Option Addr} {la ca : Nat} {EB : Option Addr} {lb cb : Nat} {n : NumT} {cond : CondT} {thn els : List EffT}
  (hn : NumR m (n4 nop nn nwho nA nl nc) n) (hc : CondR m (c5 cop cwho cname cA cla cca cB clb ccb) cond) (hcs : CondSm cond) (hnm : name.length ≤ 140737488355328) (hla : thn.length = la) (hlb : els.length = lb) (hla2 : la ≤ 140737488355328) (hlb2 : lb ≤ 140737488355328)
  (hbt : BlkOk m b TA la ca thn) (hbe : BlkOk m b EB lb cb els) : EffOk m b (e14 op who nop nn nwho nA nl nc name cop cwho cname cA cla cca cB clb ccb TA la ca EB lb cb) (.mk op who n name cond thn els) := by
 by_cases h0 : op = 0
 ·exact Xr hT hU hn hc hcs hnm hla hlb hla2 hlb2 hbt hbe h0
 by_cases h1 : op = 1
 ·exact Xp hT hU hn hc hcs hnm hla hlb hla2 hlb2 hbt hbe h1
 by_cases h2 : op = 2
 ·exact Xv hT hU hn hc hcs hnm hla hlb hla2 hlb2 hbt hbe h2
 by_cases h3 : op = 3
 ·exact Xs hT hU hn hc hcs hnm hla hlb hla2 hlb2 hbt hbe h3
 by_cases h5 : op = 5
 ·exact Xq hT hU hn hc hcs hnm hla hlb hla2 hlb2 hbt hbe h5
 by_cases h4 : op = 4
 ·exact Xu hT hU hn hc hcs hnm hla hlb hla2 hlb2 hbt hbe h4
 by_cases h6 : op = 6
 ·exact Xo hT hU hn hc hcs hnm hla hlb hla2 hlb2 hbt hbe h6
 by_cases h7 : op = 7
 ·exact Zk hT hU hn hc hcs hnm hla hlb hla2 hlb2 hbt hbe h7
 by_cases h8 : op = 8
 ·exact Uk hT hU hn hc hcs hnm hla hlb hla2 hlb2 hbt hbe h8
 ·exact Xt hT hU hn hc hcs hnm hla hlb hla2 hlb2 hbt hbe (by omega)
theorem XO (a c : List EffT) (d : Nat) : blkP (a ++ c) d = (blkP a d).bind fun s => (blkP c d).map fun t => s ++ t := by
 induction a with
 | nil => rw [vO]; simp
 | cons x r ih =>
   rw [List.cons_append, xo, xo, ih];cases effP x d with
   | none => rfl
   | some u =>
     cases blkP r d with
     | none => rfl
     | some v =>
       cases blkP c d with
       | none => rfl
       | some w => simp
theorem Vh (a c : List EffT) : effsW (a ++ c) = effsW a + effsW c := by simp [effsW]
theorem Vz {l : List EffT} {i d : Nat} (h : i < l.length) : blkP (l.take (i + 1)) d = (blkP (l.take i) d).bind fun s => (effP l[i] d).map fun t => s ++ (sSp ++ t) := by
 rw [List.take_add_one, List.getElem?_eq_getElem h, Option.toList_some, XO, xo, vO];cases blkP (l.take i) d with
 | none => rfl
 | some s => cases effP l[i] d <;> simp
theorem WF {l : List EffT} {i : Nat} (h : i < l.length) : effsW (l.take (i + 1)) = effsW (l.take i) + effW l[i] := wL effW h
theorem V0 {l : List EffT} {i d : Nat} (h : blkP (l.take i) d = none) : blkP l d = none := by
 conv => lhs; rw [← List.take_append_drop i l, XO, h]
 rfl
theorem kV (l : List EffT) (i : Nat) : effsW (l.take i) ≤ effsW l := by
 conv => rhs; rw [← List.take_append_drop i l, Vh]
 omega
structure BlS where
 i : Nat
 p : Nat
 A : Option Addr
 c : Nat
 l : List UInt8
 q : Value
theorem WO {l : List EffT} {A : Option Addr} {cap : Nat} (hl : EffsR m A l.length l) (hlen : l.length ≤ 140737488355328) (ih : ∀ (i : Nat) (h : i < l.length) cs, EffR m cs l[i] → EffOk m b cs l[i]) : BlkOk m b A l.length cap l := by
 intro m0 hm0 p d hp hd;obtain ⟨-, -, vs, hrd, hvl, hel⟩ := hl;have hrd := hrd.mono hm0;refine za [.tmp 4] Tryz.func44 rfl rfl rfl ?_;refine tr 7 ?_;refine Al 4 zl76 fun b1 => ?_;refine xK 5 1 ?_;refine tr 7 ?_
 refine zj (α := BlS) (fun y => [(0, ptr b), (5, ptr b1), (8, .slice A l.length cap), (9, .int .i64 (l.length : Nat)), (10, .int .i64 (y.i : Nat))]) (fun y => buL b1 y.q y.A y.c y.l ++ [pr b y.p d])
  (fun y => y.i ≤ l.length ∧ PB b1 y.q ∧ Buf y.A y.l ∧ blkP (l.take y.i) d = some y.l ∧ y.p = p + effsW (l.take y.i) ∧ y.p ≤ 200) (fun y => l.length - y.i) ⟨0, p, none, 0, [], .pointer none⟩ ⟨rfl, rfl, rfl, rfl, rfl, trivial⟩ (.cons .h1 .pp)
  ⟨Nat.zero_le _, .inl rfl, Buf.nil, by rw [List.take_zero, vO], by simp [effsW], hp⟩ ?_
 rintro ⟨i, p1, A1, c1, l1, q1⟩ ⟨hi, hq, hB, hs, hpe, hp1⟩;dsimp only at hi hq hB hs hpe hp1;dsimp only;have hls := zt hs;have hwp := kV l i;by_cases hlt : i < l.length
 ·have hA : A.isSome = true := hrd.isSome (by omega);have hat := hrd.elem (i * 14) 14;have hx := hel i hlt;have hok := ih i hlt _ hx;have hok := hok.mono hm0;have htk := Vz (d := d) hlt;have hwk := WF hlt;have hwp2 := kV l (i + 1);have hst : effP l[i] d = none → blkP l d = none := fun h => V0 (i := i + 1) (by rw [htk, hs, h]; rfl)
  have hnx : ∀ s, effP l[i] d = some s → blkP (l.take (i + 1)) d = some (l1 ++ ([32] ++ s)) := fun s h => by rw [htk, hs, h]; rfl
  have hsz : ∀ s, effP l[i] d = some s → s.length + 1 ≤ 100 * effW l[i] := fun s h => ZI h;clear htk;obtain ⟨op, who, nop, nn, nwho, nA, nl, nc, name, cop, cwho, cname, cA, cla, cca, cB, clb, ccb, TA, la, ca, EB, lb, cb, e⟩ := EffR.form hx;rw [e] at hat hok;clear hx e;refine tr 2 ?_;refine cto 10 ?_;refine pe 0 (zI ez38 rfl rfl hA (by omega)) ?_;refine La 0 ag50 hat ?_
  refine Al 0 zl50 fun b2 => ?_;refine Sg 4 ag50 .here ?_;refine Lc 0 ag50 .here ?_;refine Cp cl94 rfl .k3 (fun m' hm he => hok m' hm p1 d hp1 hd) ?_ ?_
  ·rintro _ _ ⟨h1, rfl⟩;refine zU ?_;refine zH ?_;exact pn ⟨h1.imp hst (fun h => by omega), rfl⟩
  rintro _ _ ⟨s, h1, h2, rfl, rfl⟩;have hsz := hsz s h1;have hnx := hnx s h1;refine Ps 0 ?_;refine zE ((ze cl36 rfl (.cons .h2 .k2) (fun m' hm he => Write36 (s := [32] ++ s) hq hB (by simp only [List.length_append, List.length_cons, List.length_nil]; omega)) rfl ?_)) rfl;rintro _ _ ⟨A2, c2, hB2, rfl, rfl⟩;refine vr 4 ?_;refine Pa 2 ?_
  exact QR (⟨i + 1, p1 + effW l[i], A2, c2, l1 ++ ([32] ++ s), ptr b1⟩ : BlS) (.cons .here .pp) ⟨hlt, .inr rfl, hB2, hnx, by dsimp only; omega, h2⟩ (by dsimp only; omega)
 ·have hi2 : i = l.length := by omega
  subst hi2;rw [List.take_length] at hs hpe;subst hpe;refine tr 2 ?_;refine cfo 6 ?_;refine zC ?_;refine zB ?_;refine qt 3 ?_;refine zE ((ze cl38 rfl (.cons .here .k0) (fun m' hm he => String38 hB (by omega)) rfl ?_)) rfl;rintro _ _ ⟨rfl, rfl⟩;refine vr 4 ?_;exact zb [_] ⟨rfl, trivial⟩ [_] .p0 ⟨l1, hs, hp1, rfl, rfl⟩
def BW (l : List EffT) : Prop := EffsSm l → ∀ (m : Mp), TabI m → Tabs m → ∀ (b : Nat) (A : Option Addr) (cap : Nat), EffsR m A l.length l → l.length ≤ 140737488355328 → BlkOk m b A l.length cap l
theorem V2 {l : List EffT} (ih : ∀ (i : Nat) (h : i < l.length) (op who : Int) (n : NumT) (name : List UInt8) (c : CondT) (a e : List EffT), l[i] = .mk op who n name c a e → BW a ∧ BW e) : BW l := fun hsm m hT hU b A cap hl hlen =>
 WO hl hlen fun i h cs hx => by
  have hs := hsm _ (List.getElem_mem h);have hi := ih i h;generalize l[i] = x at hx hs hi;obtain ⟨op, who, nop, nn, nwho, nA, nlen, nc, name, cop, cwho, cname, cA, cla, cca, cB, clb, ccb, TA, la, ca, EB, lb, cb, n, cond, thn, els, rfl, rfl, -, hn, hc, hthn, hels⟩ := EffR.parts hx;cases hs with
  | mk h1 h2 h3 h4 h5 h6 =>
    have e1 := hthn.1;have e2 := hels.1;subst e1 e2;obtain ⟨i1, i2⟩ := hi _ _ _ _ _ _ _ rfl;exact eff94 hT hU hn hc h2 h1 rfl rfl h3 h4 (i1 h5 m hT hU b TA ca hthn h3) (i2 h6 m hT hU b EB cb hels h4)
theorem blk44 (l : List EffT) : BW l := V2 fun i h op who n name c a e he => ⟨blk44 a, blk44 e⟩
termination_by SizeOf.sizeOf l
decreasing_by
 all_goals
  have h1 := List.sizeOf_lt_of_mem (List.getElem_mem h);rw [he] at h1;simp only [EffT.mk.sizeOf_spec] at h1;omega
end
section
open Wd Tp Kd
variable {m : Mp} {b d p : Nat} {q : Bool}
structure BdS where
 i : Nat
 p : Nat
 q : Bool
 s : List UInt8
end
namespace Tp
open Go Go.Eng Wd Kd
def smallB (n : Int) : Bool := decide (0 ≤ n ∧ n ≤ 999)
def secP (w : List UInt8) (l : List EffT) : Option (List UInt8) := if l.length = 0 then some [] else (blkP l 0).map fun s => sSp ++ w ++ [32, 123] ++ s ++ [32, 125, 10]
def headT (c : CardT) : List UInt8 := if c.unit = true then sSp ++ sUnit ++ sSp ++ decP c.cost ++ sSp ++ decP c.power ++ sSlash ++ decP c.health ++ [32, 123, 10] else sSp ++ sCharm ++ sSp ++ decP c.cost ++ [32, 123, 10]
def auraT (c : CardT) : List UInt8 := if c.apow = 0 ∧ c.aheal = 0 then [] else sSp ++ sAura ++ sSp ++ decP c.apow ++ sSlash ++ decP c.aheal ++ [59, 10]
def shldT (c : CardT) : List UInt8 := if c.shield = 0 then [] else sSp ++ sShield ++ sSp ++ decP c.shield ++ [59, 10]
def numsB (c : CardT) : Bool := smallB c.cost && smallB c.power && smallB c.health && smallB c.shield && smallB c.apow && smallB c.aheal
def kindB (c : CardT) : Bool := c.unit || (decide (c.power = 0) && decide (c.health = 0))
def secsP (c : CardT) : Option (List UInt8) := (secP sPlayed c.played).bind fun a => (secP sDead c.dead).bind fun b => (secP sDawn c.dawn).map fun e => a ++ b ++ e
def cardP (c : CardT) : Option (List UInt8) :=
 if nameP c.name = true ∧ kindB c = true ∧ numsB c = true ∧ cardWt c ≤ 200 then (secsP c).map fun t => sCard ++ sSp ++ c.name ++ headT c ++ t ++ auraT c ++ shldT c ++ [125, 10] else none
def ruleT (w : List UInt8) (n : Int) : List UInt8 := if n = 0 then [] else sSp ++ w ++ sSp ++ decP n ++ [59, 10]
def namesT (w : List UInt8) (l : List (List UInt8)) : List UInt8 := if l.length = 0 then [] else sSp ++ w ++ sSp ++ Lib.join l [44, 32] ++ [59, 10]
def fmtP (f : FmtT) : Option (List UInt8) :=
 if nameP f.name = true ∧ smallB f.least = true ∧ smallB f.most = true ∧ smallB f.copies = true ∧ f.banned.all nameP = true ∧ f.single.all nameP = true then
  some (sFormat ++ sSp ++ f.name ++ [32, 123, 10] ++ ruleT sLeast f.least ++ ruleT sMost f.most ++ ruleT sCopies f.copies ++ namesT sBanned f.banned ++ namesT sSingle f.single ++ [125, 10]) else none
def catP : List (Option (List UInt8)) → Option (List UInt8)
 | [] => some []
 | a :: r => a.bind fun s => (catP r).map fun t => s ++ t
def bookP (b : BkT) : Option (List UInt8) := if b.cards.length ≤ 240 ∧ b.fmts.length ≤ 240 then catP (b.cards.map cardP ++ b.fmts.map fmtP) else none
def textP (b : BkT) : List UInt8 × Int := match bookP b with
 | none => ([], 2)
 | some s => if 65536 < s.length then ([], 3) else (s, 0)
theorem XL (a c : List (Option (List UInt8))) : catP (a ++ c) = (catP a).bind fun s => (catP c).map fun t => s ++ t := by
 induction a with
 | nil => simp [catP]
 | cons x r ih =>
   rw [List.cons_append, catP, catP, ih];cases x with
   | none => rfl
   | some u =>
     cases catP r with
     | none => rfl
     | some v => cases catP c <;> simp
theorem Vq {l : List (Option (List UInt8))} {i : Nat} (h : i < l.length) : catP (l.take (i + 1)) = (catP (l.take i)).bind fun s => l[i].map fun t => s ++ t := by
 rw [List.take_add_one, List.getElem?_eq_getElem h, Option.toList_some, XL];cases catP (l.take i) with
 | none => rfl
 | some s => cases l[i] <;> simp [catP]
theorem Vv {l : List (Option (List UInt8))} {i : Nat} (h : catP (l.take i) = none) : catP l = none := by
 conv => lhs; rw [← List.take_append_drop i l, XL, h]
 rfl
structure CardSm (c : CardT) : Prop where
 name : c.name.length ≤ 140737488355328
 lp : c.played.length ≤ 140737488355328
 ld : c.dead.length ≤ 140737488355328
 lw : c.dawn.length ≤ 140737488355328
 p : EffsSm c.played
 d : EffsSm c.dead
 w : EffsSm c.dawn
structure FmtSm (f : FmtT) : Prop where
 name : f.name.length ≤ 140737488355328
 lb : f.banned.length ≤ 1000000000
 ls : f.single.length ≤ 1000000000
 b : ∀ s ∈ f.banned, s.length ≤ 140737488355328
 s : ∀ s ∈ f.single, s.length ≤ 140737488355328
theorem zf (n : Int) : (decP n).length ≤ 3 := Wv _
theorem qF (c : CardT) : (headT c).length ≤ 30 := by
 have h1 := zf c.cost;have h2 := zf c.power;have h3 := zf c.health;unfold headT
 split <;> simp only [List.length_append, List.length_cons, List.length_nil] <;> omega
theorem WP (c : CardT) : (auraT c).length ≤ 20 := by
 have h1 := zf c.apow;have h2 := zf c.aheal;unfold auraT
 split <;> simp only [List.length_append, List.length_cons, List.length_nil] <;> omega
theorem Xj (c : CardT) : (shldT c).length ≤ 20 := by
 have h1 := zf c.shield;unfold shldT
 split <;> simp only [List.length_append, List.length_cons, List.length_nil] <;> omega
theorem xG {w : List UInt8} {l : List EffT} {s : List UInt8} (hw : w.length ≤ 10) (h : secP w l = some s) : s.length ≤ 100 * effsW l + 20 := by
 unfold secP at h
 split at h
 ·cases h; exact Nat.zero_le _
 ·cases hb : blkP l 0 with
  | none => rw [hb] at h; cases h
  | some t =>
    rw [hb] at h;cases h;have := zt hb;simp only [List.length_append, List.length_cons, List.length_nil];omega
theorem vi {c : CardT} {s : List UInt8} (h : cardP c = some s) : nameP c.name = true ∧ kindB c = true ∧ numsB c = true ∧ cardWt c ≤ 200 ∧ ∃ a b e, secP sPlayed c.played = some a ∧ secP sDead c.dead = some b ∧ secP sDawn c.dawn = some e ∧ s = sCard ++ sSp ++ c.name ++ headT c ++ (a ++ b ++ e) ++ auraT c ++ shldT c ++ [125, 10] := by
 unfold cardP at h
 split at h
 ·rename_i h0
  refine ⟨h0.1, h0.2.1, h0.2.2.1, h0.2.2.2, ?_⟩;unfold secsP at h;cases ha : secP sPlayed c.played with
  | none => rw [ha] at h; cases h
  | some a =>
    rw [ha] at h;cases hb : secP sDead c.dead with
    | none => rw [hb] at h; cases h
    | some b =>
      rw [hb] at h;cases he : secP sDawn c.dawn with
      | none => rw [he] at h; cases h
      | some e =>
        rw [he] at h;cases h;exact ⟨a, b, e, rfl, rfl, rfl, rfl⟩
 ·cases h
theorem WJ {c : CardT} {s : List UInt8} (h : cardP c = some s) : s.length ≤ 21000 := by
 obtain ⟨hn, -, -, hw, a, b, e, h1, h2, h3, rfl⟩ := vi h;have g1 := zx hn;have g2 := xG (by decide) h1;have g3 := xG (by decide) h2;have g4 := xG (by decide) h3;have g5 := qF c;have g6 := WP c;have g7 := Xj c;unfold cardWt at hw;simp only [List.length_append, List.length_cons, List.length_nil];omega
theorem vF {k : Nat} {sep : List UInt8} : ∀ {l : List (List UInt8)}, (∀ s ∈ l, s.length ≤ k) → (Lib.join l sep).length ≤ l.length * (k + sep.length)
 | [], _ => Nat.zero_le _
 | [x], h => by rw [Lib.join_one]; have := h x (.head _); simp; omega
 | x :: y :: r, h => by
   have ih := vF (sep := sep) (l := y :: r) (fun s hs => h s (.tail _ hs))
   have e : Lib.join (x :: y :: r) sep = x ++ sep ++ Lib.join (y :: r) sep := by
    unfold Lib.join
    simp [List.intercalate]
   have hx := h x (.head _);rw [e];simp only [List.length_append, List.length_cons] at ih ⊢;rw [Nat.add_mul (r.length + 1) 1, Nat.one_mul];omega
theorem Vc {f : FmtT} {s : List UInt8} (hs : FmtSm f) (h : fmtP f = some s) : s.length ≤ 90000000000 := by
 unfold fmtP at h
 split at h
 ·rename_i h0
  obtain ⟨hn, h1, h2, h3, hb, hsn⟩ := h0;cases h;have g0 := zx hn
  have g1 : ∀ (w : List UInt8) (n : Int), w.length ≤ 10 → (ruleT w n).length ≤ 20 := fun w n hw => by
   have := zf n;unfold ruleT
   split <;> simp only [List.length_append, List.length_cons, List.length_nil] <;> omega
  have g2 : ∀ (w : List UInt8) (l : List (List UInt8)), w.length ≤ 10 → l.all nameP = true → l.length ≤ 1000000000 → (namesT w l).length ≤ 43000000000 := fun w l hw hb hn => by
   have h1 := vF (k := 40) (sep := [44, 32]) (l := l) (fun s hs => zx (List.all_eq_true.1 hb s hs));have h2 : l.length * (40 + [44, (32 : UInt8)].length) = l.length * 42 := rfl;unfold namesT
   split <;> simp only [List.length_append, List.length_cons, List.length_nil] <;> omega
  have e1 := g1 sLeast f.least (by decide);have e2 := g1 sMost f.most (by decide);have e3 := g1 sCopies f.copies (by decide);have e4 := g2 sBanned f.banned (by decide) hb hs.lb;have e5 := g2 sSingle f.single (by decide) hsn hs.ls;simp only [List.length_append, List.length_cons, List.length_nil];omega
 ·cases h
structure BkSm (b : BkT) : Prop where
 lc : b.cards.length ≤ 140737488355328
 lf : b.fmts.length ≤ 140737488355328
 c : ∀ x ∈ b.cards, CardSm x
 f : ∀ x ∈ b.fmts, FmtSm x
def textsL (b : BkT) : List (Option (List UInt8)) := b.cards.map cardP ++ b.fmts.map fmtP
theorem uy (b : BkT) : (textsL b).length = b.cards.length + b.fmts.length := by simp [textsL]
theorem Yd {b : BkT} {i : Nat} (h : i < b.cards.length) : (textsL b)[i]'(by rw [uy]; omega) = cardP b.cards[i] := by
 unfold textsL;rw [List.getElem_append_left (by simpa using h), List.getElem_map]
theorem Xh {b : BkT} {i : Nat} (h : i < b.fmts.length) : (textsL b)[b.cards.length + i]'(by rw [uy]; omega) = fmtP b.fmts[i] := by
 unfold textsL;rw [List.getElem_append_right (by simp), List.getElem_map]
 simp
theorem vU {b : BkT} {i : Nat} {T : List UInt8} (hi : i < (textsL b).length) (h : catP ((textsL b).take i) = some T) : ((textsL b)[i] = none → catP (textsL b) = none) ∧ ∀ s, (textsL b)[i] = some s → catP ((textsL b).take (i + 1)) = some (T ++ s) := by
 have h1 := Vq hi;rw [h] at h1;refine ⟨fun hn => Vv (i := i + 1) (by rw [h1, hn]; rfl), fun s hs => by rw [h1, hs]; rfl⟩
theorem jt {f : FmtT} (h : ¬ (nameP f.name = true ∧ smallB f.least = true ∧ smallB f.most = true ∧ smallB f.copies = true ∧ f.banned.all nameP = true ∧ f.single.all nameP = true)) : fmtP f = none := by unfold fmtP; rw [if_neg h]
end Tp
section
open Wd Tp Kd
variable {m : Mp} {b d p : Nat}
def okT : Option (List UInt8) → Value
 | some s => .tuple [.string (bs s), .int .i64 0].toArray
 | none => .tuple [.string (bs []), .int .i64 2].toArray
theorem numbers42 {A : Option Addr} {c : Nat} {l : List Int} (hA : Rd m A (l.map fun n => .int .i64 n)) (hl : l.length ≤ 100) : OkC 42 [.slice A l.length c] m (∀ x ∈ l, smallB x = true) := by
 refine za [] Tryz.func42 rfl rfl rfl ?_;refine tr 8 ?_;refine zj (α := Nat) (fun i => [(4, .slice A l.length c), (5, .int .i64 (l.length : Nat)), (6, .int .i64 (i : Nat))]) (fun _ => []) (fun i => i ≤ l.length ∧ ∀ x ∈ l.take i, smallB x = true) (fun i => l.length - i) 0 ⟨rfl, rfl, rfl, trivial⟩ (Pick.nil _) ⟨Nat.zero_le _, fun x hx => by simp at hx⟩ ?_;rintro i ⟨hi, hb⟩
 by_cases hlt : i < l.length
 ·have hA1 : A.isSome = true := hA.isSome (by rw [List.length_map]; omega);have hcx := hA.at_ (show (l.map fun n => Value.int .i64 n)[i]? = some (.int .i64 l[i]) by simp [hlt]);have hmem : l[i] ∈ l := List.getElem_mem hlt
  have hnx : smallB l[i] = true → ∀ x ∈ l.take (i + 1), smallB x = true := fun h x hx => by
   rw [List.take_add_one, List.getElem?_eq_getElem hlt] at hx;rcases List.mem_append.1 hx with hx | hx
   ·exact hb x hx
   ·simp at hx; rw [hx]; exact h
  generalize l[i] = n at hcx hmem hnx;by_cases h0 : 0 ≤ n
  ·by_cases h9 : n ≤ 999
   ·refine tr 2 ?_;refine cto 10 ?_;refine pe 0 (zD ez121 rfl rfl hA1 (by omega)) ?_;refine Lo 5 sg3 rfl hcx ?_;refine cta 2 ?_;refine cta 1 ?_;refine Mt 4 ?_;refine Pa 2 ?_;exact QR (i + 1) (Pick.nil _) ⟨hlt, hnx (decide_eq_true ⟨h0, h9⟩)⟩ (by omega)
   ·refine tr 2 ?_;refine cto 10 ?_;refine pe 0 (zD ez121 rfl rfl hA1 (by omega)) ?_;refine Lo 5 sg3 rfl hcx ?_;refine cta 2 ?_;refine cfa 1 ?_;refine Mf fun _ => ?_;refine zU ?_;refine zH ?_;exact pn ⟨fun h => h9 (of_decide_eq_true (h n hmem)).2, rfl⟩
  ·refine tr 2 ?_;refine cto 10 ?_;refine pe 0 (zD ez121 rfl rfl hA1 (by omega)) ?_;refine Lo 5 sg3 rfl hcx ?_;refine cfa 4 ?_;refine Mf fun _ => ?_;refine zU ?_;refine zH ?_;exact pn ⟨fun h => h0 (of_decide_eq_true (h n hmem)).1, rfl⟩
 ·have hi2 : i = l.length := by omega
  subst hi2;rw [List.take_length] at hb;refine tr 2 ?_;refine cfo 6 ?_;refine zC ?_;refine zB ?_;exact yO [] trivial [] (Pick.nil _) ⟨hb, rfl, rfl⟩
theorem W9 {m : Mp} {L : List Ent} {b2 b3 : Nat} {x : Fx} {h : Heap} {d : Nat} (hs : HS m L h) :
  CallsD Tryz.prog 87 [ptr b2, ptr b3].toArray .returning (W x h d) fun e u2 w' => e = .returned (.tuple #[]) ∧ u2 = .returning ∧ ∃ h' d' L', w' = W x h' d' ∧ (L' = L) ∧ HS m L' h' := by
 refine VB (post := fun _ L' => L' = L) Tryz.func87 rfl rfl rfl rfl .ret ?_ hs;refine vr 5 ?_;refine pe 7 (Xc (by kernel_rfl) rfl) ?_;exact wr [] trivial L (Pick.refl _) rfl
theorem D87_pan {m : Mp} {b2 b3 : Nat} {v1 v2 v : Value} {x : Fx} {h : Heap} {d : Nat} (hv : v = wrongV) (hs : HS m [cel b3 [v2] 27, cel b2 [v1] 9] h) :
  CallsD Tryz.prog 87 [ptr b2, ptr b3].toArray (.panicking (pan v)) (W x h d) fun e' u2 w' => e' = .returned (.tuple #[]) ∧ u2 = .panicking [{ v := v, recovered := true }] ∧ ∃ h' d' L', w' = W x h' d' ∧ (L' = [cel b3 [.int .i64 2] 27, cel b2 [.string (bs [])] 9]) ∧ HS m L' h' := by
 subst hv;refine VB (post := fun _ L' => L' = [cel b3 [.int .i64 2] 27, cel b2 [.string (bs [])] 9]) Tryz.func87 rfl rfl rfl rfl (.pan _ _) ?_ hs;unfold wrongV;refine vr 5 ?_;refine pe 5 (W7 (by kernel_rfl) rfl) ?_;refine pe 7 (jh ni120 us120 rfl) ?_;refine Al 0 zl120 fun b1 => ?_;refine Sg 3 ag120 .here ?_;refine Sr 0 co9 .h2 .here ?_;refine Sr 2 co27 .h1 .here ?_
 exact wr [] trivial _ (.cons .h1 .p1) rfl
end
section
open Wd Tp Kd
theorem XT {L es r : List Ent} {a : Ent} (h : Tks L es r) : Tks (a :: L) es (a :: r) := by
 induction h with
 | nil => exact .nil
 | cons h1 _ ih => exact .cons (.there h1) ih
theorem W1 : ∀ es : List Ent, Tks es es []
 | [] => .nil
 | _ :: es => .cons .here (W1 es)
abbrev sB (b2 b3 : Nat) : Env := [(2, ptr b2), (3, ptr b3)]
def sGood (b2 b3 : Nat) (I : List UInt8 → List Ent → Prop) (env : Env) (L : List Ent) : Prop := Sub (sB b2 b3) env ∧ ∃ s L1, I s L1 ∧ L = [cel b3 [.int .i64 0] 27, cel b2 [.string (bs s)] 9, pack L1]
def sBad (b2 b3 : Nat) (N : Prop) (env : Env) (v : Value) (L : List Ent) : Prop := Sub (sB b2 b3) env ∧ ∃ v1 v2, N ∧ v = wrongV ∧ L = [cel b3 [v2] 27, cel b2 [v1] 9]
theorem safe31 {m : Mp} {g : FuncId} {q : List Value} {pre : List Ent} {N : Prop} {I : List UInt8 → List Ent → Prop} (hcl : callable Tryz.prog g = true)
  (hc : ∀ m', Le m m' → CSP Tryz.prog g q m' pre (fun v L' => ∃ s, v = .string (bs s) ∧ I s L') (fun v _ => N ∧ v = wrongV)) :
  CS Tryz.prog 31 [.func (.func g) [].toArray q.toArray] m pre (fun v L' => (∃ s, v = okT (some s) ∧ I s L') ∨ (N ∧ v = okT none ∧ L' = [])) := by
 intro h hs0 x0 d0;refine calls_of_wp_defers Tryz.func31 rfl ?_;refine at_W (x := ⟨x0.tape, x0.os, x0.out, []⟩) (h := h) (d := d0) rfl (fun a hag => ?_) (agD0 (by show 1 ≤ 7; decide))
 refine qL (m := m) (L := pre) (K := fun env' L' => ∃ b2 b3, L' = cel b3 [.int .i64 0] 27 :: cel b2 [.string (bs [])] 9 :: pre ∧ Sub [(0, .func (.func g) [].toArray q.toArray), (2, ptr b2), (3, ptr b3)] env') ?_ hs0 hag ?_
 ·refine tr 1 ?_;refine Al 0 zl9 fun b1 => ?_;refine Al 1 zl27 fun b2 => ?_;exact YO _ (Pick.refl _) ⟨b1, b2, rfl, rfl, rfl, rfl, trivial⟩
 rintro env1 _ h1 d1' a1' ⟨b2, b3, rfl, hsub⟩ hs1 hag1;have hag1 := hag1.sub hsub;refine wp_seq ?_;refine YX rfl rfl hag1 fun a5' hag5 => ?_;refine UH (x := ⟨x0.tape, x0.os, x0.out, [dfr (.func 87) [ptr b2, ptr b3]]⟩) (Qr := endQ m (sGood b2 b3 I) (sBad b2 b3 N)) ?_ hs1 hag5 ?_
 ·refine tr 3 ?_;refine zE ((yl (p := []) (q := q) (vs := []) hcl rfl rfl (XT (XT (W1 pre))) (fun m' hm he => hc m' hm) rfl ?_ ?_)) rfl
  ·rintro _ _ ⟨h1, rfl⟩;refine uL ?_;exact xS (Le.refl _) [_, _] (Pick.app .pp) ⟨⟨rfl, rfl, trivial⟩, _, _, h1, rfl, rfl⟩
  rintro _ L1 ⟨s, rfl, hI⟩;refine ql [pack L1, cel b3 [.int .i64 0] 27, cel b2 [.string (bs [])] 9] (fun m h hs => HS.pack_iff.1 hs) ?_;refine Sr 0 co9 .h2 .here ?_;refine Sr 3 co27 .h1 .here ?_;exact YP (Le.refl _) [_, _, _] (.cons .h1 (.cons .h1 .p0)) ⟨⟨rfl, rfl, trivial⟩, s, L1, hI, rfl⟩
 ·rintro e1 env' h' d' a' hq hag';have hdf : a'.defers = [dfr (.func 87) [ptr b2, ptr b3]] := hag'.defers
  have good : ∀ L', sGood b2 b3 I env' L' → ∀ h2 d2, HS m L' h2 → ∃ vs, RvsOk Tryz.prog env' h2 [.cell 2 9, .cell 3 27] vs ∧ ∃ v h' d', Ending.returned (tup vs) = .returned v ∧ W x0 h2 d2 = W x0 h' d' ∧ postS m (fun v L' => (∃ s, v = okT (some s) ∧ I s L') ∨ (N ∧ v = okT none ∧ L' = [])) v h' := by
   rintro L' ⟨hsub, s, L1, hI, rfl⟩ h2 d2 hh;refine ⟨[_, _], RvsS.ok hh ⟨⟨_, _, _, _, hsub.1, .h1, .inl ⟨sg9, rfl⟩⟩, ⟨_, _, _, _, hsub.2.1, .here, .inl ⟨sg27, rfl⟩⟩, trivial⟩, _, h2, d2, rfl, rfl, L1, .inl ⟨s, rfl, hI⟩, ?_⟩;have := HS.pack_iff.2 hh.tail.tail;rwa [List.append_nil] at this
  have bad : Sub (sB b2 b3) env' → N → ∀ h2 d2, HS m [cel b3 [.int .i64 2] 27, cel b2 [.string (bs [])] 9] h2 → ∃ vs, RvsOk Tryz.prog env' h2 [.cell 2 9, .cell 3 27] vs ∧ ∃ v h' d', Ending.returned (tup vs) = .returned v ∧ W x0 h2 d2 = W x0 h' d' ∧ postS m (fun v L' => (∃ s, v = okT (some s) ∧ I s L') ∨ (N ∧ v = okT none ∧ L' = [])) v h' := by
   rintro hsub hr h2 d2 hh;exact ⟨[_, _], RvsS.ok hh ⟨⟨_, _, _, _, hsub.1, .h1, .inl ⟨sg9, rfl⟩⟩, ⟨_, _, _, _, hsub.2.1, .here, .inl ⟨sg27, rfl⟩⟩, trivial⟩, _, h2, d2, rfl, rfl, [], .inr ⟨hr, rfl, rfl⟩, hh.tail.tail⟩
  cases e1 with
  | normal =>
    obtain ⟨L', hp, hh⟩ := hq;show Leaves _ _ _ _ a'.defers _ _;rw [hdf];exact xl (post := fun _ L2 => L2 = L') (rs := [.cell 2 9, .cell 3 27]) rfl (by kernel_rfl) (by simp) rfl (W9 hh) hag'.toAg (fun h2 d2 L2 e hs2 => by subst e; exact good _ hp h2 d2 hs2)
  | ret =>
    obtain ⟨L', hp, hh⟩ := hq;show Leaves _ _ _ _ a'.defers _ _;rw [hdf];exact xl (post := fun _ L2 => L2 = L') (rs := [.cell 2 9, .cell 3 27]) rfl (by kernel_rfl) (by simp) rfl (W9 hh) hag'.toAg (fun h2 d2 L2 e hs2 => by subst e; exact good _ hp h2 d2 hs2)
  | panic c =>
    obtain ⟨v', L', rfl, ⟨hsub, v1, v2, hr, hv, rfl⟩, hh⟩ := hq;show Leaves _ _ _ _ a'.defers _ _;rw [hdf];exact xl (post := fun _ L2 => L2 = [cel b3 [.int .i64 2] 27, cel b2 [.string (bs [])] 9]) (rs := [.cell 2 9, .cell 3 27]) rfl (by kernel_rfl) (by simp) rfl (D87_pan hv hh) hag'.toAg (fun h2 d2 L2 e' hs2 => by subst e'; exact bad hsub hr h2 d2 hs2)
  | exit i => exact hq.elim
  | goto i => exact hq.elim
  | outgrown => exact hq.elim
end
section
open Wd Tp Kd
variable {m : Mp}
inductive CaI (H : List UInt8) (c : CardT) : Nat → List UInt8 → Nat → Prop
 | z {l : List UInt8} (hl : l = H) : CaI H c 0 l 0
 | a {l s : List UInt8} {p : Nat} (h1 : secP sPlayed c.played = some s) (hl : l = H ++ s) (hp : p = effsW c.played) : CaI H c 1 l p
 | b {l s t : List UInt8} {p : Nat} (h1 : secP sPlayed c.played = some s) (h2 : secP sDead c.dead = some t) (hl : l = H ++ s ++ t) (hp : p = effsW c.played + effsW c.dead) : CaI H c 2 l p
 | e {l s t u : List UInt8} {p : Nat} (h1 : secP sPlayed c.played = some s) (h2 : secP sDead c.dead = some t) (h3 : secP sDawn c.dawn = some u) (hl : l = H ++ s ++ t ++ u) (hp : p = effsW c.played + effsW c.dead + effsW c.dawn) : CaI H c 3 l p
theorem CaI.len {H : List UInt8} {c : CardT} {i p : Nat} {l : List UInt8} (h : CaI H c i l p) : l.length ≤ H.length + 100 * p + 60 := by
 cases h with
 | z hl => rw [hl]; omega
 | a h1 hl hp => have := xG (by decide) h1; rw [hl, List.length_append]; omega
 | b h1 h2 hl hp => have := xG (by decide) h1; have := xG (by decide) h2; rw [hl, List.length_append, List.length_append]; omega
 | e h1 h2 h3 hl hp => have := xG (by decide) h1; have := xG (by decide) h2; have := xG (by decide) h3; rw [hl, List.length_append, List.length_append, List.length_append]; omega
structure CaS where
 i : Nat
 p : Nat
 A : Option Addr
 c : Nat
 l : List UInt8
theorem wy {w : List UInt8} {l : List EffT} (h : ¬ 0 < l.length) : secP w l = some [] ∧ effsW l = 0 := by
 have : l = [] := List.eq_nil_of_length_eq_zero (by omega);subst this;exact ⟨rfl, rfl⟩
theorem yE {w : List UInt8} {l : List EffT} {s : List UInt8} (h : 0 < l.length) (hs : blkP l 0 = some s) : secP w l = some (sSp ++ w ++ [32, 123] ++ s ++ [32, 125, 10]) := by
 unfold secP;rw [if_neg (by omega), hs]
 rfl
theorem yD {w : List UInt8} {l : List EffT} (h : 0 < l.length) (hs : blkP l 0 = none) : secP w l = none := by
 unfold secP;rw [if_neg (by omega), hs]
 rfl
theorem y5 {c : CardT} {a b e : List UInt8} (hn : nameP c.name = true) (hk : kindB c = true) (hm : numsB c = true) (hw : cardWt c ≤ 200) (h1 : secP sPlayed c.played = some a) (h2 : secP sDead c.dead = some b) (h3 : secP sDawn c.dawn = some e) :
  cardP c = some (sCard ++ sSp ++ c.name ++ headT c ++ (a ++ b ++ e) ++ auraT c ++ shldT c ++ [125, 10]) := by
 unfold cardP secsP;rw [if_pos ⟨hn, hk, hm, hw⟩, h1, h2, h3]
 rfl
theorem yA {c : CardT} (h : ¬ (nameP c.name = true ∧ kindB c = true ∧ numsB c = true ∧ cardWt c ≤ 200)) : cardP c = none := by unfold cardP; rw [if_neg h]
theorem yF {c : CardT} (h : secP sPlayed c.played = none ∨ secP sDead c.dead = none ∨ secP sDawn c.dawn = none) : cardP c = none := by
 unfold cardP secsP
 split
 ·rcases h with h | h | h
  ·rw [h]; rfl
  ·rw [h]; cases secP sPlayed c.played <;> rfl
  ·rw [h]; cases secP sPlayed c.played <;> cases secP sDead c.dead <;> rfl
 ·rfl
theorem yz {n : Int} (h : smallB n = true) : 0 ≤ n ∧ n ≤ 999 := of_decide_eq_true h
def numsL (c : CardT) : List Int := [c.cost, c.power, c.health, c.shield, c.apow, c.aheal]
theorem qT {c : CardT} : (∀ x ∈ numsL c, smallB x = true) ↔ numsB c = true := by
 unfold numsL numsB
 simp [and_assoc]
theorem Wi {c : CardT} (h : numsB c = true) : smallB c.cost = true ∧ smallB c.power = true ∧ smallB c.health = true ∧ smallB c.shield = true ∧ smallB c.apow = true ∧ smallB c.aheal = true := by
 unfold numsB at h;simp only [Bool.and_eq_true] at h;obtain ⟨⟨⟨⟨⟨h1, h2⟩, h3⟩, h4⟩, h5⟩, h6⟩ := h;exact ⟨h1, h2, h3, h4, h5, h6⟩
theorem card40 (hT : TabI m) (hU : Tabs m) {B : Nat} {c : CardT} {q : CardC} (hR : Rd m (some ⟨B, 0, none⟩) (q.v c)) (hpl : EffsR m q.A c.played.length c.played) (hde : EffsR m q.B c.dead.length c.dead) (hda : EffsR m q.D c.dawn.length c.dawn) (hs : CardSm c) : TxC 40 [ptr B] m (cardP c) := by
 have hnl := hs.name;have hc0 : mc m ⟨B, 0, none⟩ = some (.string (bs c.name)) := hR.at_ (i := 0) rfl;have hc1 : mc m ⟨B, 1, none⟩ = some (.bool c.unit) := hR.at_ (i := 1) rfl;have hc2 : mc m ⟨B, 2, none⟩ = some (.int .i64 c.cost) := hR.at_ (i := 2) rfl;have hc3 : mc m ⟨B, 3, none⟩ = some (.int .i64 c.power) := hR.at_ (i := 3) rfl
 have hc4 : mc m ⟨B, 4, none⟩ = some (.int .i64 c.health) := hR.at_ (i := 4) rfl;have hc5 : mc m ⟨B, 5, none⟩ = some (.int .i64 c.shield) := hR.at_ (i := 5) rfl;have hc6 : mc m ⟨B, 6, none⟩ = some (.int .i64 c.apow) := hR.at_ (i := 6) rfl;have hc7 : mc m ⟨B, 7, none⟩ = some (.int .i64 c.aheal) := hR.at_ (i := 7) rfl
 have hc8 : mc m ⟨B, 8, none⟩ = some (.slice q.A c.played.length q.ca) := hR.at_ (i := 8) rfl;have hc9 : mc m ⟨B, 9, none⟩ = some (.slice q.B c.dead.length q.cb) := hR.at_ (i := 9) rfl;have hc10 : mc m ⟨B, 10, none⟩ = some (.slice q.D c.dawn.length q.cd) := hR.at_ (i := 10) rfl;skip;refine za [.tmp 1] Tryz.func40 rfl rfl rfl ?_;cases hnp : nameP c.name with
 | false =>
   refine tr 8 ?_;refine Lo 0 sg9 rfl hc0 ?_;refine Cr cl41 rfl (fun m' hm he => (xj (hU.mono hm) hnl)) ?_;rintro _ rfl;rw [hnp];refine vr 14 ?_;refine Mf fun _ => ?_;exact pn ⟨yA (fun h => by rw [hnp] at h; exact absurd h.1 (by decide)), rfl⟩
 | true =>
 have hn40 := zx hnp;cases hun : c.unit with
 | true =>
   rw [hun] at hc1;have hkb : kindB c = true := by unfold kindB; rw [hun]; rfl
   refine tr 8 ?_;refine Lo 0 sg9 rfl hc0 ?_;refine Cr cl41 rfl (fun m' hm he => (xj (hU.mono hm) hnl)) ?_;rintro _ rfl;rw [hnp];refine vr 2 ?_;refine Lo 11 sg4 rfl hc1 ?_;refine Mt 5 ?_;refine Lo 1 sg3 rfl hc2 ?_;refine Lo 1 sg3 rfl hc3 ?_;refine Lo 1 sg3 rfl hc4 ?_;refine Lo 1 sg3 rfl hc5 ?_;refine Lo 1 sg3 rfl hc6 ?_;refine Lo 0 sg3 rfl hc7 ?_;refine Bs 0 sl121 fun b1 => ?_
   refine Cp cl42 rfl .nil (fun m' hm he => numbers42 (l := numsL c) (Rd.blk (he _ (.head _))) (by show 6 ≤ 100; decide)) ?_ ?_
   ·rintro _ _ ⟨h1, rfl⟩;exact pn ⟨yA (fun h => h1 (qT.2 h.2.2.1)), rfl⟩
   rintro _ _ ⟨h1, rfl, rfl⟩;have hnm := qT.1 h1;have hsm := Wi hnm;obtain ⟨s1, s2, s3, s4, s5, s6⟩ := hsm;have s1 := yz s1;have s2 := yz s2;have s3 := yz s3;have s4 := yz s4;have s5 := yz s5;have s6 := yz s6;refine vr 4 ?_;refine Al 3 zl76 fun b2 => ?_;refine xK 5 1 ?_;refine tr 2 ?_;refine Lo 0 sg9 rfl hc0 ?_;refine Ps 0 ?_
   refine zE ((ze cl36 rfl (.cons .h1 .k0) (fun m' hm he => Write36 (s := [99, 97, 114, 100, 32] ++ c.name) (.inl rfl) Buf.nil (by simp only [List.length_append, List.length_cons, List.length_nil]; omega)) rfl ?_)) rfl;rintro _ _ ⟨A1, c1, hB1, rfl, rfl⟩;refine vr 6 ?_;refine Lo 3 sg4 rfl hc1 ?_;refine Db (sq [0, 1, 5, 6, 10, 11, 102, 3, 4, 107, 8, 9, 112, 13, 14, 115] .done) ?_
   refine vB 1 ?_;refine Vr 1 rfl (zF sg3 rfl hc2) ?_;refine Vr 1 rfl (zF sg3 rfl hc3) ?_;refine Vr 0 rfl (zF sg3 rfl hc4) ?_;refine zA rfl (zl cl43 rfl (fun m' hm he => (z8 (hT.mono hm) (by omega) (by omega))) rfl ?_) rfl;rintro _ rfl;rw [zn s1.1 s1.2];have hd_cost := zf c.cost;refine Vs 0 rfl ?_;refine Vs 0 rfl ?_
   refine zA rfl (zl cl43 rfl (fun m' hm he => (z8 (hT.mono hm) (by omega) (by omega))) rfl ?_) rfl;rintro _ rfl;rw [zn s2.1 s2.2];have hd_power := zf c.power;refine Vs 0 rfl ?_;refine Vs 0 rfl ?_;refine zA rfl (zl cl43 rfl (fun m' hm he => (z8 (hT.mono hm) (by omega) (by omega))) rfl ?_) rfl;rintro _ rfl;rw [zn s3.1 s3.2]
   have hd_health := zf c.health;refine Vs 0 rfl ?_;refine Vs 0 rfl ?_;refine zA rfl ((ze cl36 rfl (.cons .here .k0) (fun m' hm he => Write36 (s := [32, 117, 110, 105, 116, 32] ++ decP c.cost ++ [32] ++ decP c.power ++ [47] ++ decP c.health ++ [32, 123, 10]) (.inr rfl) hB1 (by simp only [List.length_append, List.length_cons, List.length_nil]; omega)) rfl ?_)) rfl
   rintro _ _ ⟨A2, c2, hB2, rfl, rfl⟩;refine Vn 3 ?_;refine pe 0 (zT zl91 pl91 rfl rfl) ?_;refine Bx 7 rfl fun b3 => ?_;refine Lo 1 sg38 rfl hc8 ?_;refine Lo 1 sg38 rfl hc9 ?_;refine Lo 0 sg38 rfl hc10 ?_;refine Bs 5 sl92 fun b4 => ?_;refine zG .here (fun ns hi _ hd => ?_)
   have hR4 : Rd (uni m ns) (some ⟨b4, 0, none⟩) [.slice q.A c.played.length q.ca, .slice q.B c.dead.length q.cb, .slice q.D c.dawn.length q.cd] := (Rd.blk hi).mono (zV hd);have hl2 : Le m (uni m ns) := zM _ _;clear hi hd;generalize uni m ns = m9 at hR4 hl2;have hT := hT.mono hl2;have hU := hU.mono hl2;have hc0 := zq hl2 hc0;have hc1 := zq hl2 hc1;have hc2 := zq hl2 hc2
   have hc3 := zq hl2 hc3;have hc4 := zq hl2 hc4;have hc5 := zq hl2 hc5;have hc6 := zq hl2 hc6;have hc7 := zq hl2 hc7;have hc8 := zq hl2 hc8;have hc9 := zq hl2 hc9;have hc10 := zq hl2 hc10;have hb1 : BlkOk m9 b3 q.A c.played.length q.ca c.played := blk44 c.played hs.p m9 hT hU b3 q.A q.ca (hpl.mono hl2) hs.lp
   have hb2 : BlkOk m9 b3 q.B c.dead.length q.cb c.dead := blk44 c.dead hs.d m9 hT hU b3 q.B q.cb (hde.mono hl2) hs.ld;have hb3 : BlkOk m9 b3 q.D c.dawn.length q.cd c.dawn := blk44 c.dawn hs.w m9 hT hU b3 q.D q.cd (hda.mono hl2) hs.lw;have hq0 : mc m9 ⟨b4, 0, none⟩ = some (.slice q.A c.played.length q.ca) := hR4.at_ (i := 0) rfl
   have hq1 : mc m9 ⟨b4, 1, none⟩ = some (.slice q.B c.dead.length q.cb) := hR4.at_ (i := 1) rfl;have hq2 : mc m9 ⟨b4, 2, none⟩ = some (.slice q.D c.dawn.length q.cd) := hR4.at_ (i := 2) rfl;have hlp : c.played.length ≤ 9223372036854775807 := Nat.le_trans hs.lp (by decide);have hld : c.dead.length ≤ 9223372036854775807 := Nat.le_trans hs.ld (by decide)
   have hlw : c.dawn.length ≤ 9223372036854775807 := Nat.le_trans hs.lw (by decide)
   refine zj (α := CaS) (fun y => [(0, ptr B), (2, ptr b2), (3, ptr b3), (74, .slice (some ⟨b4, 0, none⟩) 3 3), (75, .int .i64 (3 : Nat)), (76, .int .i64 (y.i : Nat))]) (fun y => buL b2 (ptr b2) y.A y.c y.l ++ [pr b3 y.p 0])
    (fun y => CaI (sCard ++ sSp ++ c.name ++ headT c) c y.i y.l y.p ∧ Buf y.A y.l ∧ y.p ≤ 200) (fun y => 3 - y.i) ⟨0, 0, A2, c2, _⟩ ⟨rfl, rfl, rfl, rfl, rfl, rfl, trivial⟩ (.cons .h1 (.cons .h1 .p0)) ⟨.z (by unfold headT; simp [hun]), hB2, Nat.zero_le _⟩ ?_
   have hHl : (sCard ++ sSp ++ c.name ++ headT c).length ≤ 100 := by
    have h1 := zx hnp;have h2 := qF c;simp only [List.length_append, List.length_cons, List.length_nil];omega
   rintro ⟨i, p, A3, c3, l⟩ ⟨hI, hB3, hp⟩;dsimp only at hI hB3 hp;dsimp only;have hlen := hI.len;cases hI with
   | z hl =>
     by_cases hlen0 : 0 < c.played.length
     rotate_left
     ·obtain ⟨e1, e2⟩ := wy (w := sPlayed) hlen0;refine tr 2 ?_;refine cto 11 ?_;refine pe 0 (zD ez92 rfl rfl (hR4.isSome (by simp <;> omega)) (by omega)) ?_;refine Lo 8 sg38 rfl hq0 ?_;refine cfo 7 ?_;refine Pa 2 ?_;exact QR (⟨1, _, A3, c3, l⟩ : CaS) (Pick.refl _) ⟨.a (s := []) (by exact e1) (by rw [hl]; simp) (by dsimp only; omega), hB3, hp⟩ (by dsimp only; omega)
     skip;refine tr 2 ?_;refine cto 11 ?_;refine pe 0 (zD ez92 rfl rfl (hR4.isSome (by simp <;> omega)) (by omega)) ?_;refine Lo 8 sg38 rfl hq0 ?_;refine cto 3 ?_;refine Db (sq [1, 6, 7] (.fork (sq [100, 2] (.fork (sq [103, 4, 5, 108, 9, 10, 111] .done) (sq [108, 103, 4, 5, 9, 10, 111] .done))) (sq [108, 100, 2, 103, 4, 5, 9, 10, 111] .done))) ?_;refine vB 3 ?_;refine zk ?_ ?_
     refine zA rfl (zQ sl61 rfl rfl rfl rfl (fun b5 => ?_)) rfl;refine Vb 0 rfl (zD ez61 rfl rfl (hR4.isSome (by simp <;> omega)) (by omega)) ?_;refine zk ?_ ?_
     ·refine Ve 0 rfl ((zZ (b := b5) (i := 0) (l := [.string (bs [112, 108, 97, 121, 101, 100]), .string (bs [100, 101, 97, 100]), .string (bs [100, 97, 119, 110])]) sg9 rfl .here rfl)) ?_;refine Vs 0 rfl ?_;refine Vs 0 rfl ?_;refine zA rfl ((zR cl44 rfl .k3 (fun m' hm he => hb1 m' hm _ 0 hp (by decide)) rfl ?_ ?_)) rfl
      ·rintro _ _ ⟨g1, rfl⟩;refine zU ?_;refine zH ?_;exact pW hl2 ⟨g1.elim (fun g => yF (Or.inl (yD hlen0 g))) (fun g => yA (fun h => by have hw := h.2.2.2; unfold cardWt at hw; omega)), rfl⟩
      rintro _ _ ⟨s, g1, g2, rfl, rfl⟩;have gl := zt g1;refine Vs 0 rfl ?_;refine Vs 0 rfl ?_;refine zA rfl ((ze cl36 rfl (.cons .h2 .k2) (fun m' hm he => Write36 (s := [32] ++ [112, 108, 97, 121, 101, 100] ++ [32, 123] ++ s ++ [32, 125, 10]) (.inr rfl) hB3 (by simp only [List.length_append, List.length_cons, List.length_nil]; omega)) rfl ?_)) rfl
      rintro _ _ ⟨A4, c4, hB4, rfl, rfl⟩;refine Vn 3 ?_;refine Pa 2 ?_;exact QR (⟨1, _, A4, c4, _⟩ : CaS) (.cons .here .pp) ⟨.a (s := _) (by exact yE hlen0 g1) (by rw [hl]) (by dsimp only; omega), hB4, g2⟩ (by dsimp only; omega)
     ·skip;refine zA rfl ((zR cl44 rfl .k3 (fun m' hm he => hb1 m' hm _ 0 hp (by decide)) rfl ?_ ?_)) rfl
      ·rintro _ _ ⟨g1, rfl⟩;refine zU ?_;refine zH ?_;exact pW hl2 ⟨g1.elim (fun g => yF (Or.inl (yD hlen0 g))) (fun g => yA (fun h => by have hw := h.2.2.2; unfold cardWt at hw; omega)), rfl⟩
      rintro _ _ ⟨s, g1, g2, rfl, rfl⟩;have gl := zt g1;skip;refine Ve 0 rfl ((zZ (b := b5) (i := 0) (l := [.string (bs [112, 108, 97, 121, 101, 100]), .string (bs [100, 101, 97, 100]), .string (bs [100, 97, 119, 110])]) sg9 rfl .h1 rfl)) ?_
      iterate 4 (refine Vs 0 rfl ?_)
      refine zA rfl ((ze cl36 rfl (.cons .h2 .k2) (fun m' hm he => Write36 (s := [32] ++ [112, 108, 97, 121, 101, 100] ++ [32, 123] ++ s ++ [32, 125, 10]) (.inr rfl) hB3 (by simp only [List.length_append, List.length_cons, List.length_nil]; omega)) rfl ?_)) rfl;rintro _ _ ⟨A4, c4, hB4, rfl, rfl⟩;refine Vn 3 ?_;refine Pa 2 ?_
      exact QR (⟨1, _, A4, c4, _⟩ : CaS) (.cons .here .pp) ⟨.a (s := _) (by exact yE hlen0 g1) (by rw [hl]) (by dsimp only; omega), hB4, g2⟩ (by dsimp only; omega)
     ·refine zA rfl ((zR cl44 rfl .k2 (fun m' hm he => hb1 m' hm _ 0 hp (by decide)) rfl ?_ ?_)) rfl
      ·rintro _ _ ⟨g1, rfl⟩;refine zU ?_;refine zH ?_;exact pW hl2 ⟨g1.elim (fun g => yF (Or.inl (yD hlen0 g))) (fun g => yA (fun h => by have hw := h.2.2.2; unfold cardWt at hw; omega)), rfl⟩
      rintro _ _ ⟨s, g1, g2, rfl, rfl⟩;have gl := zt g1;refine zA rfl (zQ sl61 rfl rfl rfl rfl (fun b5 => ?_)) rfl;refine Vb 0 rfl (zD ez61 rfl rfl (hR4.isSome (by simp <;> omega)) (by omega)) ?_
      refine Ve 0 rfl ((zZ (b := b5) (i := 0) (l := [.string (bs [112, 108, 97, 121, 101, 100]), .string (bs [100, 101, 97, 100]), .string (bs [100, 97, 119, 110])]) sg9 rfl .here rfl)) ?_
      iterate 4 (refine Vs 0 rfl ?_)
      refine zA rfl ((ze cl36 rfl (.cons .h2 .k2) (fun m' hm he => Write36 (s := [32] ++ [112, 108, 97, 121, 101, 100] ++ [32, 123] ++ s ++ [32, 125, 10]) (.inr rfl) hB3 (by simp only [List.length_append, List.length_cons, List.length_nil]; omega)) rfl ?_)) rfl;rintro _ _ ⟨A4, c4, hB4, rfl, rfl⟩;refine Vn 3 ?_;refine Pa 2 ?_
      exact QR (⟨1, _, A4, c4, _⟩ : CaS) (.cons .here (.cons .here .p1)) ⟨.a (s := _) (by exact yE hlen0 g1) (by rw [hl]) (by dsimp only; omega), hB4, g2⟩ (by dsimp only; omega)
   | a h1 hl hpe =>
     by_cases hlen0 : 0 < c.dead.length
     rotate_left
     ·obtain ⟨e1, e2⟩ := wy (w := sDead) hlen0;refine tr 2 ?_;refine cto 11 ?_;refine pe 0 (zD ez92 rfl rfl (hR4.isSome (by simp <;> omega)) (by omega)) ?_;refine Lo 8 sg38 rfl hq1 ?_;refine cfo 7 ?_;refine Pa 2 ?_;exact QR (⟨2, _, A3, c3, l⟩ : CaS) (Pick.refl _) ⟨.b (t := []) h1 (by exact e1) (by rw [hl]; simp) (by dsimp only; omega), hB3, hp⟩ (by dsimp only; omega)
     skip;refine tr 2 ?_;refine cto 11 ?_;refine pe 0 (zD ez92 rfl rfl (hR4.isSome (by simp <;> omega)) (by omega)) ?_;refine Lo 8 sg38 rfl hq1 ?_;refine cto 3 ?_;refine Db (sq [1, 6, 7] (.fork (sq [100, 2] (.fork (sq [103, 4, 5, 108, 9, 10, 111] .done) (sq [108, 103, 4, 5, 9, 10, 111] .done))) (sq [108, 100, 2, 103, 4, 5, 9, 10, 111] .done))) ?_;refine vB 3 ?_;refine zk ?_ ?_
     refine zA rfl (zQ sl61 rfl rfl rfl rfl (fun b5 => ?_)) rfl;refine Vb 0 rfl (zD ez61 rfl rfl (hR4.isSome (by simp <;> omega)) (by omega)) ?_;refine zk ?_ ?_
     ·refine Ve 0 rfl ((zZ (b := b5) (i := 1) (l := [.string (bs [112, 108, 97, 121, 101, 100]), .string (bs [100, 101, 97, 100]), .string (bs [100, 97, 119, 110])]) sg9 rfl .here rfl)) ?_;refine Vs 0 rfl ?_;refine Vs 0 rfl ?_;refine zA rfl ((zR cl44 rfl .k3 (fun m' hm he => hb2 m' hm _ 0 hp (by decide)) rfl ?_ ?_)) rfl
      ·rintro _ _ ⟨g1, rfl⟩;refine zU ?_;refine zH ?_;exact pW hl2 ⟨g1.elim (fun g => yF (Or.inr <| Or.inl (yD hlen0 g))) (fun g => yA (fun h => by have hw := h.2.2.2; unfold cardWt at hw; omega)), rfl⟩
      rintro _ _ ⟨s, g1, g2, rfl, rfl⟩;have gl := zt g1;refine Vs 0 rfl ?_;refine Vs 0 rfl ?_;refine zA rfl ((ze cl36 rfl (.cons .h2 .k2) (fun m' hm he => Write36 (s := [32] ++ [100, 101, 97, 100] ++ [32, 123] ++ s ++ [32, 125, 10]) (.inr rfl) hB3 (by simp only [List.length_append, List.length_cons, List.length_nil]; omega)) rfl ?_)) rfl;rintro _ _ ⟨A4, c4, hB4, rfl, rfl⟩
      refine Vn 3 ?_;refine Pa 2 ?_;exact QR (⟨2, _, A4, c4, _⟩ : CaS) (.cons .here .pp) ⟨.b (t := _) h1 (by exact yE hlen0 g1) (by rw [hl]) (by dsimp only; omega), hB4, g2⟩ (by dsimp only; omega)
     ·skip;refine zA rfl ((zR cl44 rfl .k3 (fun m' hm he => hb2 m' hm _ 0 hp (by decide)) rfl ?_ ?_)) rfl
      ·rintro _ _ ⟨g1, rfl⟩;refine zU ?_;refine zH ?_;exact pW hl2 ⟨g1.elim (fun g => yF (Or.inr <| Or.inl (yD hlen0 g))) (fun g => yA (fun h => by have hw := h.2.2.2; unfold cardWt at hw; omega)), rfl⟩
      rintro _ _ ⟨s, g1, g2, rfl, rfl⟩;have gl := zt g1;skip;refine Ve 0 rfl ((zZ (b := b5) (i := 1) (l := [.string (bs [112, 108, 97, 121, 101, 100]), .string (bs [100, 101, 97, 100]), .string (bs [100, 97, 119, 110])]) sg9 rfl .h1 rfl)) ?_
      iterate 4 (refine Vs 0 rfl ?_)
      refine zA rfl ((ze cl36 rfl (.cons .h2 .k2) (fun m' hm he => Write36 (s := [32] ++ [100, 101, 97, 100] ++ [32, 123] ++ s ++ [32, 125, 10]) (.inr rfl) hB3 (by simp only [List.length_append, List.length_cons, List.length_nil]; omega)) rfl ?_)) rfl;rintro _ _ ⟨A4, c4, hB4, rfl, rfl⟩;refine Vn 3 ?_;refine Pa 2 ?_
      exact QR (⟨2, _, A4, c4, _⟩ : CaS) (.cons .here .pp) ⟨.b (t := _) h1 (by exact yE hlen0 g1) (by rw [hl]) (by dsimp only; omega), hB4, g2⟩ (by dsimp only; omega)
     ·refine zA rfl ((zR cl44 rfl .k2 (fun m' hm he => hb2 m' hm _ 0 hp (by decide)) rfl ?_ ?_)) rfl
      ·rintro _ _ ⟨g1, rfl⟩;refine zU ?_;refine zH ?_;exact pW hl2 ⟨g1.elim (fun g => yF (Or.inr <| Or.inl (yD hlen0 g))) (fun g => yA (fun h => by have hw := h.2.2.2; unfold cardWt at hw; omega)), rfl⟩
      rintro _ _ ⟨s, g1, g2, rfl, rfl⟩;have gl := zt g1;refine zA rfl (zQ sl61 rfl rfl rfl rfl (fun b5 => ?_)) rfl;refine Vb 0 rfl (zD ez61 rfl rfl (hR4.isSome (by simp <;> omega)) (by omega)) ?_
      refine Ve 0 rfl ((zZ (b := b5) (i := 1) (l := [.string (bs [112, 108, 97, 121, 101, 100]), .string (bs [100, 101, 97, 100]), .string (bs [100, 97, 119, 110])]) sg9 rfl .here rfl)) ?_
      iterate 4 (refine Vs 0 rfl ?_)
      refine zA rfl ((ze cl36 rfl (.cons .h2 .k2) (fun m' hm he => Write36 (s := [32] ++ [100, 101, 97, 100] ++ [32, 123] ++ s ++ [32, 125, 10]) (.inr rfl) hB3 (by simp only [List.length_append, List.length_cons, List.length_nil]; omega)) rfl ?_)) rfl;rintro _ _ ⟨A4, c4, hB4, rfl, rfl⟩;refine Vn 3 ?_;refine Pa 2 ?_
      exact QR (⟨2, _, A4, c4, _⟩ : CaS) (.cons .here (.cons .here .p1)) ⟨.b (t := _) h1 (by exact yE hlen0 g1) (by rw [hl]) (by dsimp only; omega), hB4, g2⟩ (by dsimp only; omega)
   | b h1 h2 hl hpe =>
     by_cases hlen0 : 0 < c.dawn.length
     rotate_left
     ·obtain ⟨e1, e2⟩ := wy (w := sDawn) hlen0;refine tr 2 ?_;refine cto 11 ?_;refine pe 0 (zD ez92 rfl rfl (hR4.isSome (by simp <;> omega)) (by omega)) ?_;refine Lo 8 sg38 rfl hq2 ?_;refine cfo 7 ?_;refine Pa 2 ?_;exact QR (⟨3, _, A3, c3, l⟩ : CaS) (Pick.refl _) ⟨.e (u := []) h1 h2 (by exact e1) (by rw [hl]; simp) (by dsimp only; omega), hB3, hp⟩ (by dsimp only; omega)
     skip;refine tr 2 ?_;refine cto 11 ?_;refine pe 0 (zD ez92 rfl rfl (hR4.isSome (by simp <;> omega)) (by omega)) ?_;refine Lo 8 sg38 rfl hq2 ?_;refine cto 3 ?_;refine Db (sq [1, 6, 7] (.fork (sq [100, 2] (.fork (sq [103, 4, 5, 108, 9, 10, 111] .done) (sq [108, 103, 4, 5, 9, 10, 111] .done))) (sq [108, 100, 2, 103, 4, 5, 9, 10, 111] .done))) ?_;refine vB 3 ?_;refine zk ?_ ?_
     refine zA rfl (zQ sl61 rfl rfl rfl rfl (fun b5 => ?_)) rfl;refine Vb 0 rfl (zD ez61 rfl rfl (hR4.isSome (by simp <;> omega)) (by omega)) ?_;refine zk ?_ ?_
     ·refine Ve 0 rfl ((zZ (b := b5) (i := 2) (l := [.string (bs [112, 108, 97, 121, 101, 100]), .string (bs [100, 101, 97, 100]), .string (bs [100, 97, 119, 110])]) sg9 rfl .here rfl)) ?_;refine Vs 0 rfl ?_;refine Vs 0 rfl ?_;refine zA rfl ((zR cl44 rfl .k3 (fun m' hm he => hb3 m' hm _ 0 hp (by decide)) rfl ?_ ?_)) rfl
      ·rintro _ _ ⟨g1, rfl⟩;refine zU ?_;refine zH ?_;exact pW hl2 ⟨g1.elim (fun g => yF (Or.inr <| Or.inr (yD hlen0 g))) (fun g => yA (fun h => by have hw := h.2.2.2; unfold cardWt at hw; omega)), rfl⟩
      rintro _ _ ⟨s, g1, g2, rfl, rfl⟩;have gl := zt g1;refine Vs 0 rfl ?_;refine Vs 0 rfl ?_;refine zA rfl ((ze cl36 rfl (.cons .h2 .k2) (fun m' hm he => Write36 (s := [32] ++ [100, 97, 119, 110] ++ [32, 123] ++ s ++ [32, 125, 10]) (.inr rfl) hB3 (by simp only [List.length_append, List.length_cons, List.length_nil]; omega)) rfl ?_)) rfl;rintro _ _ ⟨A4, c4, hB4, rfl, rfl⟩
      refine Vn 3 ?_;refine Pa 2 ?_;exact QR (⟨3, _, A4, c4, _⟩ : CaS) (.cons .here .pp) ⟨.e (u := _) h1 h2 (by exact yE hlen0 g1) (by rw [hl]) (by dsimp only; omega), hB4, g2⟩ (by dsimp only; omega)
     ·skip;refine zA rfl ((zR cl44 rfl .k3 (fun m' hm he => hb3 m' hm _ 0 hp (by decide)) rfl ?_ ?_)) rfl
      ·rintro _ _ ⟨g1, rfl⟩;refine zU ?_;refine zH ?_;exact pW hl2 ⟨g1.elim (fun g => yF (Or.inr <| Or.inr (yD hlen0 g))) (fun g => yA (fun h => by have hw := h.2.2.2; unfold cardWt at hw; omega)), rfl⟩
      rintro _ _ ⟨s, g1, g2, rfl, rfl⟩;have gl := zt g1;skip;refine Ve 0 rfl ((zZ (b := b5) (i := 2) (l := [.string (bs [112, 108, 97, 121, 101, 100]), .string (bs [100, 101, 97, 100]), .string (bs [100, 97, 119, 110])]) sg9 rfl .h1 rfl)) ?_
      iterate 4 (refine Vs 0 rfl ?_)
      refine zA rfl ((ze cl36 rfl (.cons .h2 .k2) (fun m' hm he => Write36 (s := [32] ++ [100, 97, 119, 110] ++ [32, 123] ++ s ++ [32, 125, 10]) (.inr rfl) hB3 (by simp only [List.length_append, List.length_cons, List.length_nil]; omega)) rfl ?_)) rfl;rintro _ _ ⟨A4, c4, hB4, rfl, rfl⟩;refine Vn 3 ?_;refine Pa 2 ?_
      exact QR (⟨3, _, A4, c4, _⟩ : CaS) (.cons .here .pp) ⟨.e (u := _) h1 h2 (by exact yE hlen0 g1) (by rw [hl]) (by dsimp only; omega), hB4, g2⟩ (by dsimp only; omega)
     ·refine zA rfl ((zR cl44 rfl .k2 (fun m' hm he => hb3 m' hm _ 0 hp (by decide)) rfl ?_ ?_)) rfl
      ·rintro _ _ ⟨g1, rfl⟩;refine zU ?_;refine zH ?_;exact pW hl2 ⟨g1.elim (fun g => yF (Or.inr <| Or.inr (yD hlen0 g))) (fun g => yA (fun h => by have hw := h.2.2.2; unfold cardWt at hw; omega)), rfl⟩
      rintro _ _ ⟨s, g1, g2, rfl, rfl⟩;have gl := zt g1;refine zA rfl (zQ sl61 rfl rfl rfl rfl (fun b5 => ?_)) rfl;refine Vb 0 rfl (zD ez61 rfl rfl (hR4.isSome (by simp <;> omega)) (by omega)) ?_
      refine Ve 0 rfl ((zZ (b := b5) (i := 2) (l := [.string (bs [112, 108, 97, 121, 101, 100]), .string (bs [100, 101, 97, 100]), .string (bs [100, 97, 119, 110])]) sg9 rfl .here rfl)) ?_
      iterate 4 (refine Vs 0 rfl ?_)
      refine zA rfl ((ze cl36 rfl (.cons .h2 .k2) (fun m' hm he => Write36 (s := [32] ++ [100, 97, 119, 110] ++ [32, 123] ++ s ++ [32, 125, 10]) (.inr rfl) hB3 (by simp only [List.length_append, List.length_cons, List.length_nil]; omega)) rfl ?_)) rfl;rintro _ _ ⟨A4, c4, hB4, rfl, rfl⟩;refine Vn 3 ?_;refine Pa 2 ?_
      exact QR (⟨3, _, A4, c4, _⟩ : CaS) (.cons .here (.cons .here .p1)) ⟨.e (u := _) h1 h2 (by exact yE hlen0 g1) (by rw [hl]) (by dsimp only; omega), hB4, g2⟩ (by dsimp only; omega)
   | e h1 h2 h3 hl hpe =>
     skip;by_cases ha0 : c.apow = 0
     rotate_left
     ·have hau : auraT c = sSp ++ sAura ++ sSp ++ decP c.apow ++ sSlash ++ decP c.aheal ++ [59, 10] := by unfold auraT; rw [if_neg (fun h => ha0 h.1)]
      refine tr 2 ?_;refine cfo 6 ?_;refine zC ?_;refine zB ?_;refine qt 5 ?_;refine Lo 0 sg3 rfl hc6 ?_;refine cta 8 ?_;refine Db (sq [0, 1, 5, 6, 102, 3, 4, 107, 8, 9, 110] .done) ?_;refine vB 1 ?_;refine Vr 1 rfl (zF sg3 rfl hc6) ?_;refine Vr 0 rfl (zF sg3 rfl hc7) ?_
      refine zA rfl (zl cl43 rfl (fun m' hm he => (z8 (hT.mono hm) (by omega) (by omega))) rfl ?_) rfl;rintro _ rfl;rw [zn s5.1 s5.2];have hd_apow := zf c.apow;refine Vs 0 rfl ?_;refine Vs 0 rfl ?_;refine zA rfl (zl cl43 rfl (fun m' hm he => (z8 (hT.mono hm) (by omega) (by omega))) rfl ?_) rfl;rintro _ rfl;rw [zn s6.1 s6.2]
      have hd_aheal := zf c.aheal;refine Vs 0 rfl ?_;refine Vs 0 rfl ?_;refine zA rfl ((ze cl36 rfl (.cons .here .k0) (fun m' hm he => Write36 (s := [32, 97, 117, 114, 97, 32] ++ decP c.apow ++ [47] ++ decP c.aheal ++ [59, 10]) (.inr rfl) hB3 (by simp only [List.length_append, List.length_cons, List.length_nil]; omega)) rfl ?_)) rfl;rintro _ _ ⟨A5, c5, hB5, rfl, rfl⟩
      by_cases hs0 : c.shield = 0
      ·have hsh : shldT c = [] := by unfold shldT; rw [if_pos hs0]
       refine Vn 5 ?_;refine Lo 0 sg3 rfl hc5 ?_;refine cfo 7 ?_;refine zE ((ze cl38 rfl (.cons .here .k0) (fun m' hm he => String38 hB5 (by first | omega | (simp only [List.length_append, List.length_cons, List.length_nil]; omega))) rfl ?_)) rfl;rintro _ _ ⟨rfl, rfl⟩;refine Ps 4 ?_
       exact rt4 hl2 ⟨rfl, trivial⟩ ⟨_, y5 hnp hkb hnm (by unfold cardWt; omega) h1 h2 h3, congrArg (fun t => Value.string (bs t)) (by rw [hl, hau, hsh]; simp), rfl⟩
      ·have hsh : shldT c = sSp ++ sShield ++ sSp ++ decP c.shield ++ [59, 10] := by unfold shldT; rw [if_neg hs0]
       refine Vn 5 ?_;refine Lo 0 sg3 rfl hc5 ?_;refine cta 5 ?_;refine Lo 0 sg3 rfl hc5 ?_;refine Cr cl43 rfl (fun m' hm he => (z8 (hT.mono hm) (by omega) (by omega))) ?_;rintro _ rfl;rw [zn s4.1 s4.2];have hd_shield := zf c.shield;refine Ps 0 ?_;refine Ps 0 ?_
       refine zE ((ze cl36 rfl (.cons .here .k0) (fun m' hm he => Write36 (s := [32, 115, 104, 105, 101, 108, 100, 32] ++ decP c.shield ++ [59, 10]) (.inr rfl) hB5 (by simp only [List.length_append, List.length_cons, List.length_nil]; omega)) rfl ?_)) rfl;rintro _ _ ⟨A6, c6, hB6, rfl, rfl⟩;refine vr 4 ?_
       refine zE ((ze cl38 rfl (.cons .here .k0) (fun m' hm he => String38 hB6 (by first | omega | (simp only [List.length_append, List.length_cons, List.length_nil]; omega))) rfl ?_)) rfl;rintro _ _ ⟨rfl, rfl⟩;refine Ps 4 ?_;exact rt4 hl2 ⟨rfl, trivial⟩ ⟨_, y5 hnp hkb hnm (by unfold cardWt; omega) h1 h2 h3, congrArg (fun t => Value.string (bs t)) (by rw [hl, hau, hsh]; simp), rfl⟩
     by_cases hh0 : c.aheal = 0
     rotate_left
     ·have hau : auraT c = sSp ++ sAura ++ sSp ++ decP c.apow ++ sSlash ++ decP c.aheal ++ [59, 10] := by unfold auraT; rw [if_neg (fun h => hh0 h.2)]
      refine tr 2 ?_;refine cfo 6 ?_;refine zC ?_;refine zB ?_;refine qt 5 ?_;refine Lo 0 sg3 rfl hc6 ?_;refine cfo 2 ?_;refine Lo 0 sg3 rfl hc7 ?_;refine cta 4 ?_;refine Db (sq [0, 1, 5, 6, 102, 3, 4, 107, 8, 9, 110] .done) ?_;refine vB 1 ?_;refine Vr 1 rfl (zF sg3 rfl hc6) ?_;refine Vr 0 rfl (zF sg3 rfl hc7) ?_
      refine zA rfl (zl cl43 rfl (fun m' hm he => (z8 (hT.mono hm) (by omega) (by omega))) rfl ?_) rfl;rintro _ rfl;rw [zn s5.1 s5.2];have hd_apow := zf c.apow;refine Vs 0 rfl ?_;refine Vs 0 rfl ?_;refine zA rfl (zl cl43 rfl (fun m' hm he => (z8 (hT.mono hm) (by omega) (by omega))) rfl ?_) rfl;rintro _ rfl;rw [zn s6.1 s6.2]
      have hd_aheal := zf c.aheal;refine Vs 0 rfl ?_;refine Vs 0 rfl ?_;refine zA rfl ((ze cl36 rfl (.cons .here .k0) (fun m' hm he => Write36 (s := [32, 97, 117, 114, 97, 32] ++ decP c.apow ++ [47] ++ decP c.aheal ++ [59, 10]) (.inr rfl) hB3 (by simp only [List.length_append, List.length_cons, List.length_nil]; omega)) rfl ?_)) rfl;rintro _ _ ⟨A5, c5, hB5, rfl, rfl⟩
      by_cases hs0 : c.shield = 0
      ·have hsh : shldT c = [] := by unfold shldT; rw [if_pos hs0]
       refine Vn 5 ?_;refine Lo 0 sg3 rfl hc5 ?_;refine cfo 7 ?_;refine zE ((ze cl38 rfl (.cons .here .k0) (fun m' hm he => String38 hB5 (by first | omega | (simp only [List.length_append, List.length_cons, List.length_nil]; omega))) rfl ?_)) rfl;rintro _ _ ⟨rfl, rfl⟩;refine Ps 4 ?_
       exact rt4 hl2 ⟨rfl, trivial⟩ ⟨_, y5 hnp hkb hnm (by unfold cardWt; omega) h1 h2 h3, congrArg (fun t => Value.string (bs t)) (by rw [hl, hau, hsh]; simp), rfl⟩
      ·have hsh : shldT c = sSp ++ sShield ++ sSp ++ decP c.shield ++ [59, 10] := by unfold shldT; rw [if_neg hs0]
       refine Vn 5 ?_;refine Lo 0 sg3 rfl hc5 ?_;refine cta 5 ?_;refine Lo 0 sg3 rfl hc5 ?_;refine Cr cl43 rfl (fun m' hm he => (z8 (hT.mono hm) (by omega) (by omega))) ?_;rintro _ rfl;rw [zn s4.1 s4.2];have hd_shield := zf c.shield;refine Ps 0 ?_;refine Ps 0 ?_
       refine zE ((ze cl36 rfl (.cons .here .k0) (fun m' hm he => Write36 (s := [32, 115, 104, 105, 101, 108, 100, 32] ++ decP c.shield ++ [59, 10]) (.inr rfl) hB5 (by simp only [List.length_append, List.length_cons, List.length_nil]; omega)) rfl ?_)) rfl;rintro _ _ ⟨A6, c6, hB6, rfl, rfl⟩;refine vr 4 ?_
       refine zE ((ze cl38 rfl (.cons .here .k0) (fun m' hm he => String38 hB6 (by first | omega | (simp only [List.length_append, List.length_cons, List.length_nil]; omega))) rfl ?_)) rfl;rintro _ _ ⟨rfl, rfl⟩;refine Ps 4 ?_;exact rt4 hl2 ⟨rfl, trivial⟩ ⟨_, y5 hnp hkb hnm (by unfold cardWt; omega) h1 h2 h3, congrArg (fun t => Value.string (bs t)) (by rw [hl, hau, hsh]; simp), rfl⟩
     have hau : auraT c = [] := by unfold auraT; rw [if_pos ⟨ha0, hh0⟩]
     by_cases hs0 : c.shield = 0
     ·have hsh : shldT c = [] := by unfold shldT; rw [if_pos hs0]
      refine tr 2 ?_;refine cfo 6 ?_;refine zC ?_;refine zB ?_;refine qt 5 ?_;refine Lo 0 sg3 rfl hc6 ?_;refine cfo 2 ?_;refine Lo 0 sg3 rfl hc7 ?_;refine cfo 10 ?_;refine Lo 0 sg3 rfl hc5 ?_;refine cfo 7 ?_
      refine zE ((ze cl38 rfl (.cons .here .k0) (fun m' hm he => String38 hB3 (by first | omega | (simp only [List.length_append, List.length_cons, List.length_nil]; omega))) rfl ?_)) rfl;rintro _ _ ⟨rfl, rfl⟩;refine Ps 4 ?_;exact rt4 hl2 ⟨rfl, trivial⟩ ⟨_, y5 hnp hkb hnm (by unfold cardWt; omega) h1 h2 h3, congrArg (fun t => Value.string (bs t)) (by rw [hl, hau, hsh]; simp), rfl⟩
     ·have hsh : shldT c = sSp ++ sShield ++ sSp ++ decP c.shield ++ [59, 10] := by unfold shldT; rw [if_neg hs0]
      refine tr 2 ?_;refine cfo 6 ?_;refine zC ?_;refine zB ?_;refine qt 5 ?_;refine Lo 0 sg3 rfl hc6 ?_;refine cfo 2 ?_;refine Lo 0 sg3 rfl hc7 ?_;refine cfo 10 ?_;refine Lo 0 sg3 rfl hc5 ?_;refine cta 5 ?_;refine Lo 0 sg3 rfl hc5 ?_;refine Cr cl43 rfl (fun m' hm he => (z8 (hT.mono hm) (by omega) (by omega))) ?_;rintro _ rfl;rw [zn s4.1 s4.2]
      have hd_shield := zf c.shield;refine Ps 0 ?_;refine Ps 0 ?_;refine zE ((ze cl36 rfl (.cons .here .k0) (fun m' hm he => Write36 (s := [32, 115, 104, 105, 101, 108, 100, 32] ++ decP c.shield ++ [59, 10]) (.inr rfl) hB3 (by simp only [List.length_append, List.length_cons, List.length_nil]; omega)) rfl ?_)) rfl;rintro _ _ ⟨A6, c6, hB6, rfl, rfl⟩;refine vr 4 ?_
      refine zE ((ze cl38 rfl (.cons .here .k0) (fun m' hm he => String38 hB6 (by first | omega | (simp only [List.length_append, List.length_cons, List.length_nil]; omega))) rfl ?_)) rfl;rintro _ _ ⟨rfl, rfl⟩;refine Ps 4 ?_;exact rt4 hl2 ⟨rfl, trivial⟩ ⟨_, y5 hnp hkb hnm (by unfold cardWt; omega) h1 h2 h3, congrArg (fun t => Value.string (bs t)) (by rw [hl, hau, hsh]; simp), rfl⟩
 | false =>
   rw [hun] at hc1;by_cases hpw : c.power = 0
   rotate_left
   ·refine tr 8 ?_;refine Lo 0 sg9 rfl hc0 ?_;refine Cr cl41 rfl (fun m' hm he => (xj (hU.mono hm) hnl)) ?_;rintro _ rfl;rw [hnp];refine vr 2 ?_;refine Lo 2 sg4 rfl hc1 ?_;refine Lo 0 sg3 rfl hc3 ?_;refine cfa 7 ?_;refine Mf fun _ => ?_
    exact pn ⟨yA (fun h => by have h2 := h.2.1; unfold kindB at h2; rw [hun, Bool.false_or, Bool.and_eq_true, decide_eq_true_eq, decide_eq_true_eq] at h2; omega), rfl⟩
   by_cases hhl : c.health = 0
   rotate_left
   ·refine tr 8 ?_;refine Lo 0 sg9 rfl hc0 ?_;refine Cr cl41 rfl (fun m' hm he => (xj (hU.mono hm) hnl)) ?_;rintro _ rfl;rw [hnp];refine vr 2 ?_;refine Lo 2 sg4 rfl hc1 ?_;refine Lo 0 sg3 rfl hc3 ?_;refine cta 2 ?_;refine Lo 0 sg3 rfl hc4 ?_;refine cfa 3 ?_;refine Mf fun _ => ?_
    exact pn ⟨yA (fun h => by have h2 := h.2.1; unfold kindB at h2; rw [hun, Bool.false_or, Bool.and_eq_true, decide_eq_true_eq, decide_eq_true_eq] at h2; omega), rfl⟩
   have hkb : kindB c = true := by unfold kindB; rw [hun, decide_eq_true hpw, decide_eq_true hhl]; rfl
   refine tr 8 ?_;refine Lo 0 sg9 rfl hc0 ?_;refine Cr cl41 rfl (fun m' hm he => (xj (hU.mono hm) hnl)) ?_;rintro _ rfl;rw [hnp];refine vr 2 ?_;refine Lo 2 sg4 rfl hc1 ?_;refine Lo 0 sg3 rfl hc3 ?_;refine cta 2 ?_;refine Lo 0 sg3 rfl hc4 ?_;refine cta 3 ?_;refine Mt 5 ?_;refine Lo 1 sg3 rfl hc2 ?_;refine Lo 1 sg3 rfl hc3 ?_;refine Lo 1 sg3 rfl hc4 ?_;refine Lo 1 sg3 rfl hc5 ?_
   refine Lo 1 sg3 rfl hc6 ?_;refine Lo 0 sg3 rfl hc7 ?_;refine Bs 0 sl121 fun b1 => ?_;refine Cp cl42 rfl .nil (fun m' hm he => numbers42 (l := numsL c) (Rd.blk (he _ (.head _))) (by show 6 ≤ 100; decide)) ?_ ?_
   ·rintro _ _ ⟨h1, rfl⟩;exact pn ⟨yA (fun h => h1 (qT.2 h.2.2.1)), rfl⟩
   rintro _ _ ⟨h1, rfl, rfl⟩;have hnm := qT.1 h1;have hsm := Wi hnm;obtain ⟨s1, s2, s3, s4, s5, s6⟩ := hsm;have s1 := yz s1;have s2 := yz s2;have s3 := yz s3;have s4 := yz s4;have s5 := yz s5;have s6 := yz s6;refine vr 4 ?_;refine Al 3 zl76 fun b2 => ?_;refine xK 5 1 ?_;refine tr 2 ?_;refine Lo 0 sg9 rfl hc0 ?_;refine Ps 0 ?_
   refine zE ((ze cl36 rfl (.cons .h1 .k0) (fun m' hm he => Write36 (s := [99, 97, 114, 100, 32] ++ c.name) (.inl rfl) Buf.nil (by simp only [List.length_append, List.length_cons, List.length_nil]; omega)) rfl ?_)) rfl;rintro _ _ ⟨A1, c1, hB1, rfl, rfl⟩;refine vr 6 ?_;refine Lo 5 sg4 rfl hc1 ?_;refine Lo 0 sg3 rfl hc2 ?_
   refine Cr cl43 rfl (fun m' hm he => (z8 (hT.mono hm) (by omega) (by omega))) ?_;rintro _ rfl;rw [zn s1.1 s1.2];have hd_cost := zf c.cost;refine Ps 0 ?_;refine Ps 0 ?_
   refine zE ((ze cl36 rfl (.cons .here .k0) (fun m' hm he => Write36 (s := [32, 99, 104, 97, 114, 109, 32] ++ decP c.cost ++ [32, 123, 10]) (.inr rfl) hB1 (by simp only [List.length_append, List.length_cons, List.length_nil]; omega)) rfl ?_)) rfl;rintro _ _ ⟨A2, c2, hB2, rfl, rfl⟩;refine vr 4 ?_;refine pe 0 (zT zl91 pl91 rfl rfl) ?_;refine Bx 7 rfl fun b3 => ?_
   refine Lo 1 sg38 rfl hc8 ?_;refine Lo 1 sg38 rfl hc9 ?_;refine Lo 0 sg38 rfl hc10 ?_;refine Bs 5 sl92 fun b4 => ?_;refine zG .here (fun ns hi _ hd => ?_);have hR4 : Rd (uni m ns) (some ⟨b4, 0, none⟩) [.slice q.A c.played.length q.ca, .slice q.B c.dead.length q.cb, .slice q.D c.dawn.length q.cd] := (Rd.blk hi).mono (zV hd);have hl2 : Le m (uni m ns) := zM _ _;clear hi hd
   generalize uni m ns = m9 at hR4 hl2;have hT := hT.mono hl2;have hU := hU.mono hl2;have hc0 := zq hl2 hc0;have hc1 := zq hl2 hc1;have hc2 := zq hl2 hc2;have hc3 := zq hl2 hc3;have hc4 := zq hl2 hc4;have hc5 := zq hl2 hc5;have hc6 := zq hl2 hc6;have hc7 := zq hl2 hc7;have hc8 := zq hl2 hc8;have hc9 := zq hl2 hc9;have hc10 := zq hl2 hc10
   have hb1 : BlkOk m9 b3 q.A c.played.length q.ca c.played := blk44 c.played hs.p m9 hT hU b3 q.A q.ca (hpl.mono hl2) hs.lp;have hb2 : BlkOk m9 b3 q.B c.dead.length q.cb c.dead := blk44 c.dead hs.d m9 hT hU b3 q.B q.cb (hde.mono hl2) hs.ld;have hb3 : BlkOk m9 b3 q.D c.dawn.length q.cd c.dawn := blk44 c.dawn hs.w m9 hT hU b3 q.D q.cd (hda.mono hl2) hs.lw
   have hq0 : mc m9 ⟨b4, 0, none⟩ = some (.slice q.A c.played.length q.ca) := hR4.at_ (i := 0) rfl;have hq1 : mc m9 ⟨b4, 1, none⟩ = some (.slice q.B c.dead.length q.cb) := hR4.at_ (i := 1) rfl;have hq2 : mc m9 ⟨b4, 2, none⟩ = some (.slice q.D c.dawn.length q.cd) := hR4.at_ (i := 2) rfl;have hlp : c.played.length ≤ 9223372036854775807 := Nat.le_trans hs.lp (by decide)
   have hld : c.dead.length ≤ 9223372036854775807 := Nat.le_trans hs.ld (by decide);have hlw : c.dawn.length ≤ 9223372036854775807 := Nat.le_trans hs.lw (by decide)
   refine zj (α := CaS) (fun y => [(0, ptr B), (2, ptr b2), (3, ptr b3), (74, .slice (some ⟨b4, 0, none⟩) 3 3), (75, .int .i64 (3 : Nat)), (76, .int .i64 (y.i : Nat))]) (fun y => buL b2 (ptr b2) y.A y.c y.l ++ [pr b3 y.p 0])
    (fun y => CaI (sCard ++ sSp ++ c.name ++ headT c) c y.i y.l y.p ∧ Buf y.A y.l ∧ y.p ≤ 200) (fun y => 3 - y.i) ⟨0, 0, A2, c2, _⟩ ⟨rfl, rfl, rfl, rfl, rfl, rfl, trivial⟩ (.cons .h1 (.cons .h1 .p0)) ⟨.z (by unfold headT; simp [hun]), hB2, Nat.zero_le _⟩ ?_
   have hHl : (sCard ++ sSp ++ c.name ++ headT c).length ≤ 100 := by
    have h1 := zx hnp;have h2 := qF c;simp only [List.length_append, List.length_cons, List.length_nil];omega
   rintro ⟨i, p, A3, c3, l⟩ ⟨hI, hB3, hp⟩;dsimp only at hI hB3 hp;dsimp only;have hlen := hI.len;cases hI with
   | z hl =>
     by_cases hlen0 : 0 < c.played.length
     rotate_left
     ·obtain ⟨e1, e2⟩ := wy (w := sPlayed) hlen0;refine tr 2 ?_;refine cto 11 ?_;refine pe 0 (zD ez92 rfl rfl (hR4.isSome (by simp <;> omega)) (by omega)) ?_;refine Lo 8 sg38 rfl hq0 ?_;refine cfo 7 ?_;refine Pa 2 ?_;exact QR (⟨1, _, A3, c3, l⟩ : CaS) (Pick.refl _) ⟨.a (s := []) (by exact e1) (by rw [hl]; simp) (by dsimp only; omega), hB3, hp⟩ (by dsimp only; omega)
     skip;refine tr 2 ?_;refine cto 11 ?_;refine pe 0 (zD ez92 rfl rfl (hR4.isSome (by simp <;> omega)) (by omega)) ?_;refine Lo 8 sg38 rfl hq0 ?_;refine cto 3 ?_;refine Db (sq [1, 6, 7] (.fork (sq [100, 2] (.fork (sq [103, 4, 5, 108, 9, 10, 111] .done) (sq [108, 103, 4, 5, 9, 10, 111] .done))) (sq [108, 100, 2, 103, 4, 5, 9, 10, 111] .done))) ?_;refine vB 3 ?_;refine zk ?_ ?_
     refine zA rfl (zQ sl61 rfl rfl rfl rfl (fun b5 => ?_)) rfl;refine Vb 0 rfl (zD ez61 rfl rfl (hR4.isSome (by simp <;> omega)) (by omega)) ?_;refine zk ?_ ?_
     ·refine Ve 0 rfl ((zZ (b := b5) (i := 0) (l := [.string (bs [112, 108, 97, 121, 101, 100]), .string (bs [100, 101, 97, 100]), .string (bs [100, 97, 119, 110])]) sg9 rfl .here rfl)) ?_;refine Vs 0 rfl ?_;refine Vs 0 rfl ?_;refine zA rfl ((zR cl44 rfl .k3 (fun m' hm he => hb1 m' hm _ 0 hp (by decide)) rfl ?_ ?_)) rfl
      ·rintro _ _ ⟨g1, rfl⟩;refine zU ?_;refine zH ?_;exact pW hl2 ⟨g1.elim (fun g => yF (Or.inl (yD hlen0 g))) (fun g => yA (fun h => by have hw := h.2.2.2; unfold cardWt at hw; omega)), rfl⟩
      rintro _ _ ⟨s, g1, g2, rfl, rfl⟩;have gl := zt g1;refine Vs 0 rfl ?_;refine Vs 0 rfl ?_;refine zA rfl ((ze cl36 rfl (.cons .h2 .k2) (fun m' hm he => Write36 (s := [32] ++ [112, 108, 97, 121, 101, 100] ++ [32, 123] ++ s ++ [32, 125, 10]) (.inr rfl) hB3 (by simp only [List.length_append, List.length_cons, List.length_nil]; omega)) rfl ?_)) rfl
      rintro _ _ ⟨A4, c4, hB4, rfl, rfl⟩;refine Vn 3 ?_;refine Pa 2 ?_;exact QR (⟨1, _, A4, c4, _⟩ : CaS) (.cons .here .pp) ⟨.a (s := _) (by exact yE hlen0 g1) (by rw [hl]) (by dsimp only; omega), hB4, g2⟩ (by dsimp only; omega)
     ·skip;refine zA rfl ((zR cl44 rfl .k3 (fun m' hm he => hb1 m' hm _ 0 hp (by decide)) rfl ?_ ?_)) rfl
      ·rintro _ _ ⟨g1, rfl⟩;refine zU ?_;refine zH ?_;exact pW hl2 ⟨g1.elim (fun g => yF (Or.inl (yD hlen0 g))) (fun g => yA (fun h => by have hw := h.2.2.2; unfold cardWt at hw; omega)), rfl⟩
      rintro _ _ ⟨s, g1, g2, rfl, rfl⟩;have gl := zt g1;skip;refine Ve 0 rfl ((zZ (b := b5) (i := 0) (l := [.string (bs [112, 108, 97, 121, 101, 100]), .string (bs [100, 101, 97, 100]), .string (bs [100, 97, 119, 110])]) sg9 rfl .h1 rfl)) ?_
      iterate 4 (refine Vs 0 rfl ?_)
      refine zA rfl ((ze cl36 rfl (.cons .h2 .k2) (fun m' hm he => Write36 (s := [32] ++ [112, 108, 97, 121, 101, 100] ++ [32, 123] ++ s ++ [32, 125, 10]) (.inr rfl) hB3 (by simp only [List.length_append, List.length_cons, List.length_nil]; omega)) rfl ?_)) rfl;rintro _ _ ⟨A4, c4, hB4, rfl, rfl⟩;refine Vn 3 ?_;refine Pa 2 ?_
      exact QR (⟨1, _, A4, c4, _⟩ : CaS) (.cons .here .pp) ⟨.a (s := _) (by exact yE hlen0 g1) (by rw [hl]) (by dsimp only; omega), hB4, g2⟩ (by dsimp only; omega)
     ·refine zA rfl ((zR cl44 rfl .k2 (fun m' hm he => hb1 m' hm _ 0 hp (by decide)) rfl ?_ ?_)) rfl
      ·rintro _ _ ⟨g1, rfl⟩;refine zU ?_;refine zH ?_;exact pW hl2 ⟨g1.elim (fun g => yF (Or.inl (yD hlen0 g))) (fun g => yA (fun h => by have hw := h.2.2.2; unfold cardWt at hw; omega)), rfl⟩
      rintro _ _ ⟨s, g1, g2, rfl, rfl⟩;have gl := zt g1;refine zA rfl (zQ sl61 rfl rfl rfl rfl (fun b5 => ?_)) rfl;refine Vb 0 rfl (zD ez61 rfl rfl (hR4.isSome (by simp <;> omega)) (by omega)) ?_
      refine Ve 0 rfl ((zZ (b := b5) (i := 0) (l := [.string (bs [112, 108, 97, 121, 101, 100]), .string (bs [100, 101, 97, 100]), .string (bs [100, 97, 119, 110])]) sg9 rfl .here rfl)) ?_
      iterate 4 (refine Vs 0 rfl ?_)
      refine zA rfl ((ze cl36 rfl (.cons .h2 .k2) (fun m' hm he => Write36 (s := [32] ++ [112, 108, 97, 121, 101, 100] ++ [32, 123] ++ s ++ [32, 125, 10]) (.inr rfl) hB3 (by simp only [List.length_append, List.length_cons, List.length_nil]; omega)) rfl ?_)) rfl;rintro _ _ ⟨A4, c4, hB4, rfl, rfl⟩;refine Vn 3 ?_;refine Pa 2 ?_
      exact QR (⟨1, _, A4, c4, _⟩ : CaS) (.cons .here (.cons .here .p1)) ⟨.a (s := _) (by exact yE hlen0 g1) (by rw [hl]) (by dsimp only; omega), hB4, g2⟩ (by dsimp only; omega)
   | a h1 hl hpe =>
     by_cases hlen0 : 0 < c.dead.length
     rotate_left
     ·obtain ⟨e1, e2⟩ := wy (w := sDead) hlen0;refine tr 2 ?_;refine cto 11 ?_;refine pe 0 (zD ez92 rfl rfl (hR4.isSome (by simp <;> omega)) (by omega)) ?_;refine Lo 8 sg38 rfl hq1 ?_;refine cfo 7 ?_;refine Pa 2 ?_;exact QR (⟨2, _, A3, c3, l⟩ : CaS) (Pick.refl _) ⟨.b (t := []) h1 (by exact e1) (by rw [hl]; simp) (by dsimp only; omega), hB3, hp⟩ (by dsimp only; omega)
     skip;refine tr 2 ?_;refine cto 11 ?_;refine pe 0 (zD ez92 rfl rfl (hR4.isSome (by simp <;> omega)) (by omega)) ?_;refine Lo 8 sg38 rfl hq1 ?_;refine cto 3 ?_;refine Db (sq [1, 6, 7] (.fork (sq [100, 2] (.fork (sq [103, 4, 5, 108, 9, 10, 111] .done) (sq [108, 103, 4, 5, 9, 10, 111] .done))) (sq [108, 100, 2, 103, 4, 5, 9, 10, 111] .done))) ?_;refine vB 3 ?_;refine zk ?_ ?_
     refine zA rfl (zQ sl61 rfl rfl rfl rfl (fun b5 => ?_)) rfl;refine Vb 0 rfl (zD ez61 rfl rfl (hR4.isSome (by simp <;> omega)) (by omega)) ?_;refine zk ?_ ?_
     ·refine Ve 0 rfl ((zZ (b := b5) (i := 1) (l := [.string (bs [112, 108, 97, 121, 101, 100]), .string (bs [100, 101, 97, 100]), .string (bs [100, 97, 119, 110])]) sg9 rfl .here rfl)) ?_;refine Vs 0 rfl ?_;refine Vs 0 rfl ?_;refine zA rfl ((zR cl44 rfl .k3 (fun m' hm he => hb2 m' hm _ 0 hp (by decide)) rfl ?_ ?_)) rfl
      ·rintro _ _ ⟨g1, rfl⟩;refine zU ?_;refine zH ?_;exact pW hl2 ⟨g1.elim (fun g => yF (Or.inr <| Or.inl (yD hlen0 g))) (fun g => yA (fun h => by have hw := h.2.2.2; unfold cardWt at hw; omega)), rfl⟩
      rintro _ _ ⟨s, g1, g2, rfl, rfl⟩;have gl := zt g1;refine Vs 0 rfl ?_;refine Vs 0 rfl ?_;refine zA rfl ((ze cl36 rfl (.cons .h2 .k2) (fun m' hm he => Write36 (s := [32] ++ [100, 101, 97, 100] ++ [32, 123] ++ s ++ [32, 125, 10]) (.inr rfl) hB3 (by simp only [List.length_append, List.length_cons, List.length_nil]; omega)) rfl ?_)) rfl;rintro _ _ ⟨A4, c4, hB4, rfl, rfl⟩
      refine Vn 3 ?_;refine Pa 2 ?_;exact QR (⟨2, _, A4, c4, _⟩ : CaS) (.cons .here .pp) ⟨.b (t := _) h1 (by exact yE hlen0 g1) (by rw [hl]) (by dsimp only; omega), hB4, g2⟩ (by dsimp only; omega)
     ·skip;refine zA rfl ((zR cl44 rfl .k3 (fun m' hm he => hb2 m' hm _ 0 hp (by decide)) rfl ?_ ?_)) rfl
      ·rintro _ _ ⟨g1, rfl⟩;refine zU ?_;refine zH ?_;exact pW hl2 ⟨g1.elim (fun g => yF (Or.inr <| Or.inl (yD hlen0 g))) (fun g => yA (fun h => by have hw := h.2.2.2; unfold cardWt at hw; omega)), rfl⟩
      rintro _ _ ⟨s, g1, g2, rfl, rfl⟩;have gl := zt g1;skip;refine Ve 0 rfl ((zZ (b := b5) (i := 1) (l := [.string (bs [112, 108, 97, 121, 101, 100]), .string (bs [100, 101, 97, 100]), .string (bs [100, 97, 119, 110])]) sg9 rfl .h1 rfl)) ?_
      iterate 4 (refine Vs 0 rfl ?_)
      refine zA rfl ((ze cl36 rfl (.cons .h2 .k2) (fun m' hm he => Write36 (s := [32] ++ [100, 101, 97, 100] ++ [32, 123] ++ s ++ [32, 125, 10]) (.inr rfl) hB3 (by simp only [List.length_append, List.length_cons, List.length_nil]; omega)) rfl ?_)) rfl;rintro _ _ ⟨A4, c4, hB4, rfl, rfl⟩;refine Vn 3 ?_;refine Pa 2 ?_
      exact QR (⟨2, _, A4, c4, _⟩ : CaS) (.cons .here .pp) ⟨.b (t := _) h1 (by exact yE hlen0 g1) (by rw [hl]) (by dsimp only; omega), hB4, g2⟩ (by dsimp only; omega)
     ·refine zA rfl ((zR cl44 rfl .k2 (fun m' hm he => hb2 m' hm _ 0 hp (by decide)) rfl ?_ ?_)) rfl
      ·rintro _ _ ⟨g1, rfl⟩;refine zU ?_;refine zH ?_;exact pW hl2 ⟨g1.elim (fun g => yF (Or.inr <| Or.inl (yD hlen0 g))) (fun g => yA (fun h => by have hw := h.2.2.2; unfold cardWt at hw; omega)), rfl⟩
      rintro _ _ ⟨s, g1, g2, rfl, rfl⟩;have gl := zt g1;refine zA rfl (zQ sl61 rfl rfl rfl rfl (fun b5 => ?_)) rfl;refine Vb 0 rfl (zD ez61 rfl rfl (hR4.isSome (by simp <;> omega)) (by omega)) ?_
      refine Ve 0 rfl ((zZ (b := b5) (i := 1) (l := [.string (bs [112, 108, 97, 121, 101, 100]), .string (bs [100, 101, 97, 100]), .string (bs [100, 97, 119, 110])]) sg9 rfl .here rfl)) ?_
      iterate 4 (refine Vs 0 rfl ?_)
      refine zA rfl ((ze cl36 rfl (.cons .h2 .k2) (fun m' hm he => Write36 (s := [32] ++ [100, 101, 97, 100] ++ [32, 123] ++ s ++ [32, 125, 10]) (.inr rfl) hB3 (by simp only [List.length_append, List.length_cons, List.length_nil]; omega)) rfl ?_)) rfl;rintro _ _ ⟨A4, c4, hB4, rfl, rfl⟩;refine Vn 3 ?_;refine Pa 2 ?_
      exact QR (⟨2, _, A4, c4, _⟩ : CaS) (.cons .here (.cons .here .p1)) ⟨.b (t := _) h1 (by exact yE hlen0 g1) (by rw [hl]) (by dsimp only; omega), hB4, g2⟩ (by dsimp only; omega)
   | b h1 h2 hl hpe =>
     by_cases hlen0 : 0 < c.dawn.length
     rotate_left
     ·obtain ⟨e1, e2⟩ := wy (w := sDawn) hlen0;refine tr 2 ?_;refine cto 11 ?_;refine pe 0 (zD ez92 rfl rfl (hR4.isSome (by simp <;> omega)) (by omega)) ?_;refine Lo 8 sg38 rfl hq2 ?_;refine cfo 7 ?_;refine Pa 2 ?_;exact QR (⟨3, _, A3, c3, l⟩ : CaS) (Pick.refl _) ⟨.e (u := []) h1 h2 (by exact e1) (by rw [hl]; simp) (by dsimp only; omega), hB3, hp⟩ (by dsimp only; omega)
     skip;refine tr 2 ?_;refine cto 11 ?_;refine pe 0 (zD ez92 rfl rfl (hR4.isSome (by simp <;> omega)) (by omega)) ?_;refine Lo 8 sg38 rfl hq2 ?_;refine cto 3 ?_;refine Db (sq [1, 6, 7] (.fork (sq [100, 2] (.fork (sq [103, 4, 5, 108, 9, 10, 111] .done) (sq [108, 103, 4, 5, 9, 10, 111] .done))) (sq [108, 100, 2, 103, 4, 5, 9, 10, 111] .done))) ?_;refine vB 3 ?_;refine zk ?_ ?_
     refine zA rfl (zQ sl61 rfl rfl rfl rfl (fun b5 => ?_)) rfl;refine Vb 0 rfl (zD ez61 rfl rfl (hR4.isSome (by simp <;> omega)) (by omega)) ?_;refine zk ?_ ?_
     ·refine Ve 0 rfl ((zZ (b := b5) (i := 2) (l := [.string (bs [112, 108, 97, 121, 101, 100]), .string (bs [100, 101, 97, 100]), .string (bs [100, 97, 119, 110])]) sg9 rfl .here rfl)) ?_;refine Vs 0 rfl ?_;refine Vs 0 rfl ?_;refine zA rfl ((zR cl44 rfl .k3 (fun m' hm he => hb3 m' hm _ 0 hp (by decide)) rfl ?_ ?_)) rfl
      ·rintro _ _ ⟨g1, rfl⟩;refine zU ?_;refine zH ?_;exact pW hl2 ⟨g1.elim (fun g => yF (Or.inr <| Or.inr (yD hlen0 g))) (fun g => yA (fun h => by have hw := h.2.2.2; unfold cardWt at hw; omega)), rfl⟩
      rintro _ _ ⟨s, g1, g2, rfl, rfl⟩;have gl := zt g1;refine Vs 0 rfl ?_;refine Vs 0 rfl ?_;refine zA rfl ((ze cl36 rfl (.cons .h2 .k2) (fun m' hm he => Write36 (s := [32] ++ [100, 97, 119, 110] ++ [32, 123] ++ s ++ [32, 125, 10]) (.inr rfl) hB3 (by simp only [List.length_append, List.length_cons, List.length_nil]; omega)) rfl ?_)) rfl;rintro _ _ ⟨A4, c4, hB4, rfl, rfl⟩
      refine Vn 3 ?_;refine Pa 2 ?_;exact QR (⟨3, _, A4, c4, _⟩ : CaS) (.cons .here .pp) ⟨.e (u := _) h1 h2 (by exact yE hlen0 g1) (by rw [hl]) (by dsimp only; omega), hB4, g2⟩ (by dsimp only; omega)
     ·skip;refine zA rfl ((zR cl44 rfl .k3 (fun m' hm he => hb3 m' hm _ 0 hp (by decide)) rfl ?_ ?_)) rfl
      ·rintro _ _ ⟨g1, rfl⟩;refine zU ?_;refine zH ?_;exact pW hl2 ⟨g1.elim (fun g => yF (Or.inr <| Or.inr (yD hlen0 g))) (fun g => yA (fun h => by have hw := h.2.2.2; unfold cardWt at hw; omega)), rfl⟩
      rintro _ _ ⟨s, g1, g2, rfl, rfl⟩;have gl := zt g1;skip;refine Ve 0 rfl ((zZ (b := b5) (i := 2) (l := [.string (bs [112, 108, 97, 121, 101, 100]), .string (bs [100, 101, 97, 100]), .string (bs [100, 97, 119, 110])]) sg9 rfl .h1 rfl)) ?_
      iterate 4 (refine Vs 0 rfl ?_)
      refine zA rfl ((ze cl36 rfl (.cons .h2 .k2) (fun m' hm he => Write36 (s := [32] ++ [100, 97, 119, 110] ++ [32, 123] ++ s ++ [32, 125, 10]) (.inr rfl) hB3 (by simp only [List.length_append, List.length_cons, List.length_nil]; omega)) rfl ?_)) rfl;rintro _ _ ⟨A4, c4, hB4, rfl, rfl⟩;refine Vn 3 ?_;refine Pa 2 ?_
      exact QR (⟨3, _, A4, c4, _⟩ : CaS) (.cons .here .pp) ⟨.e (u := _) h1 h2 (by exact yE hlen0 g1) (by rw [hl]) (by dsimp only; omega), hB4, g2⟩ (by dsimp only; omega)
     ·refine zA rfl ((zR cl44 rfl .k2 (fun m' hm he => hb3 m' hm _ 0 hp (by decide)) rfl ?_ ?_)) rfl
      ·rintro _ _ ⟨g1, rfl⟩;refine zU ?_;refine zH ?_;exact pW hl2 ⟨g1.elim (fun g => yF (Or.inr <| Or.inr (yD hlen0 g))) (fun g => yA (fun h => by have hw := h.2.2.2; unfold cardWt at hw; omega)), rfl⟩
      rintro _ _ ⟨s, g1, g2, rfl, rfl⟩;have gl := zt g1;refine zA rfl (zQ sl61 rfl rfl rfl rfl (fun b5 => ?_)) rfl;refine Vb 0 rfl (zD ez61 rfl rfl (hR4.isSome (by simp <;> omega)) (by omega)) ?_
      refine Ve 0 rfl ((zZ (b := b5) (i := 2) (l := [.string (bs [112, 108, 97, 121, 101, 100]), .string (bs [100, 101, 97, 100]), .string (bs [100, 97, 119, 110])]) sg9 rfl .here rfl)) ?_
      iterate 4 (refine Vs 0 rfl ?_)
      refine zA rfl ((ze cl36 rfl (.cons .h2 .k2) (fun m' hm he => Write36 (s := [32] ++ [100, 97, 119, 110] ++ [32, 123] ++ s ++ [32, 125, 10]) (.inr rfl) hB3 (by simp only [List.length_append, List.length_cons, List.length_nil]; omega)) rfl ?_)) rfl;rintro _ _ ⟨A4, c4, hB4, rfl, rfl⟩;refine Vn 3 ?_;refine Pa 2 ?_
      exact QR (⟨3, _, A4, c4, _⟩ : CaS) (.cons .here (.cons .here .p1)) ⟨.e (u := _) h1 h2 (by exact yE hlen0 g1) (by rw [hl]) (by dsimp only; omega), hB4, g2⟩ (by dsimp only; omega)
   | e h1 h2 h3 hl hpe =>
     skip;by_cases ha0 : c.apow = 0
     rotate_left
     ·have hau : auraT c = sSp ++ sAura ++ sSp ++ decP c.apow ++ sSlash ++ decP c.aheal ++ [59, 10] := by unfold auraT; rw [if_neg (fun h => ha0 h.1)]
      refine tr 2 ?_;refine cfo 6 ?_;refine zC ?_;refine zB ?_;refine qt 5 ?_;refine Lo 0 sg3 rfl hc6 ?_;refine cta 8 ?_;refine Db (sq [0, 1, 5, 6, 102, 3, 4, 107, 8, 9, 110] .done) ?_;refine vB 1 ?_;refine Vr 1 rfl (zF sg3 rfl hc6) ?_;refine Vr 0 rfl (zF sg3 rfl hc7) ?_
      refine zA rfl (zl cl43 rfl (fun m' hm he => (z8 (hT.mono hm) (by omega) (by omega))) rfl ?_) rfl;rintro _ rfl;rw [zn s5.1 s5.2];have hd_apow := zf c.apow;refine Vs 0 rfl ?_;refine Vs 0 rfl ?_;refine zA rfl (zl cl43 rfl (fun m' hm he => (z8 (hT.mono hm) (by omega) (by omega))) rfl ?_) rfl;rintro _ rfl;rw [zn s6.1 s6.2]
      have hd_aheal := zf c.aheal;refine Vs 0 rfl ?_;refine Vs 0 rfl ?_;refine zA rfl ((ze cl36 rfl (.cons .here .k0) (fun m' hm he => Write36 (s := [32, 97, 117, 114, 97, 32] ++ decP c.apow ++ [47] ++ decP c.aheal ++ [59, 10]) (.inr rfl) hB3 (by simp only [List.length_append, List.length_cons, List.length_nil]; omega)) rfl ?_)) rfl;rintro _ _ ⟨A5, c5, hB5, rfl, rfl⟩
      by_cases hs0 : c.shield = 0
      ·have hsh : shldT c = [] := by unfold shldT; rw [if_pos hs0]
       refine Vn 5 ?_;refine Lo 0 sg3 rfl hc5 ?_;refine cfo 7 ?_;refine zE ((ze cl38 rfl (.cons .here .k0) (fun m' hm he => String38 hB5 (by first | omega | (simp only [List.length_append, List.length_cons, List.length_nil]; omega))) rfl ?_)) rfl;rintro _ _ ⟨rfl, rfl⟩;refine Ps 4 ?_
       exact rt4 hl2 ⟨rfl, trivial⟩ ⟨_, y5 hnp hkb hnm (by unfold cardWt; omega) h1 h2 h3, congrArg (fun t => Value.string (bs t)) (by rw [hl, hau, hsh]; simp), rfl⟩
      ·have hsh : shldT c = sSp ++ sShield ++ sSp ++ decP c.shield ++ [59, 10] := by unfold shldT; rw [if_neg hs0]
       refine Vn 5 ?_;refine Lo 0 sg3 rfl hc5 ?_;refine cta 5 ?_;refine Lo 0 sg3 rfl hc5 ?_;refine Cr cl43 rfl (fun m' hm he => (z8 (hT.mono hm) (by omega) (by omega))) ?_;rintro _ rfl;rw [zn s4.1 s4.2];have hd_shield := zf c.shield;refine Ps 0 ?_;refine Ps 0 ?_
       refine zE ((ze cl36 rfl (.cons .here .k0) (fun m' hm he => Write36 (s := [32, 115, 104, 105, 101, 108, 100, 32] ++ decP c.shield ++ [59, 10]) (.inr rfl) hB5 (by simp only [List.length_append, List.length_cons, List.length_nil]; omega)) rfl ?_)) rfl;rintro _ _ ⟨A6, c6, hB6, rfl, rfl⟩;refine vr 4 ?_
       refine zE ((ze cl38 rfl (.cons .here .k0) (fun m' hm he => String38 hB6 (by first | omega | (simp only [List.length_append, List.length_cons, List.length_nil]; omega))) rfl ?_)) rfl;rintro _ _ ⟨rfl, rfl⟩;refine Ps 4 ?_;exact rt4 hl2 ⟨rfl, trivial⟩ ⟨_, y5 hnp hkb hnm (by unfold cardWt; omega) h1 h2 h3, congrArg (fun t => Value.string (bs t)) (by rw [hl, hau, hsh]; simp), rfl⟩
     by_cases hh0 : c.aheal = 0
     rotate_left
     ·have hau : auraT c = sSp ++ sAura ++ sSp ++ decP c.apow ++ sSlash ++ decP c.aheal ++ [59, 10] := by unfold auraT; rw [if_neg (fun h => hh0 h.2)]
      refine tr 2 ?_;refine cfo 6 ?_;refine zC ?_;refine zB ?_;refine qt 5 ?_;refine Lo 0 sg3 rfl hc6 ?_;refine cfo 2 ?_;refine Lo 0 sg3 rfl hc7 ?_;refine cta 4 ?_;refine Db (sq [0, 1, 5, 6, 102, 3, 4, 107, 8, 9, 110] .done) ?_;refine vB 1 ?_;refine Vr 1 rfl (zF sg3 rfl hc6) ?_;refine Vr 0 rfl (zF sg3 rfl hc7) ?_
      refine zA rfl (zl cl43 rfl (fun m' hm he => (z8 (hT.mono hm) (by omega) (by omega))) rfl ?_) rfl;rintro _ rfl;rw [zn s5.1 s5.2];have hd_apow := zf c.apow;refine Vs 0 rfl ?_;refine Vs 0 rfl ?_;refine zA rfl (zl cl43 rfl (fun m' hm he => (z8 (hT.mono hm) (by omega) (by omega))) rfl ?_) rfl;rintro _ rfl;rw [zn s6.1 s6.2]
      have hd_aheal := zf c.aheal;refine Vs 0 rfl ?_;refine Vs 0 rfl ?_;refine zA rfl ((ze cl36 rfl (.cons .here .k0) (fun m' hm he => Write36 (s := [32, 97, 117, 114, 97, 32] ++ decP c.apow ++ [47] ++ decP c.aheal ++ [59, 10]) (.inr rfl) hB3 (by simp only [List.length_append, List.length_cons, List.length_nil]; omega)) rfl ?_)) rfl;rintro _ _ ⟨A5, c5, hB5, rfl, rfl⟩
      by_cases hs0 : c.shield = 0
      ·have hsh : shldT c = [] := by unfold shldT; rw [if_pos hs0]
       refine Vn 5 ?_;refine Lo 0 sg3 rfl hc5 ?_;refine cfo 7 ?_;refine zE ((ze cl38 rfl (.cons .here .k0) (fun m' hm he => String38 hB5 (by first | omega | (simp only [List.length_append, List.length_cons, List.length_nil]; omega))) rfl ?_)) rfl;rintro _ _ ⟨rfl, rfl⟩;refine Ps 4 ?_
       exact rt4 hl2 ⟨rfl, trivial⟩ ⟨_, y5 hnp hkb hnm (by unfold cardWt; omega) h1 h2 h3, congrArg (fun t => Value.string (bs t)) (by rw [hl, hau, hsh]; simp), rfl⟩
      ·have hsh : shldT c = sSp ++ sShield ++ sSp ++ decP c.shield ++ [59, 10] := by unfold shldT; rw [if_neg hs0]
       refine Vn 5 ?_;refine Lo 0 sg3 rfl hc5 ?_;refine cta 5 ?_;refine Lo 0 sg3 rfl hc5 ?_;refine Cr cl43 rfl (fun m' hm he => (z8 (hT.mono hm) (by omega) (by omega))) ?_;rintro _ rfl;rw [zn s4.1 s4.2];have hd_shield := zf c.shield;refine Ps 0 ?_;refine Ps 0 ?_
       refine zE ((ze cl36 rfl (.cons .here .k0) (fun m' hm he => Write36 (s := [32, 115, 104, 105, 101, 108, 100, 32] ++ decP c.shield ++ [59, 10]) (.inr rfl) hB5 (by simp only [List.length_append, List.length_cons, List.length_nil]; omega)) rfl ?_)) rfl;rintro _ _ ⟨A6, c6, hB6, rfl, rfl⟩;refine vr 4 ?_
       refine zE ((ze cl38 rfl (.cons .here .k0) (fun m' hm he => String38 hB6 (by first | omega | (simp only [List.length_append, List.length_cons, List.length_nil]; omega))) rfl ?_)) rfl;rintro _ _ ⟨rfl, rfl⟩;refine Ps 4 ?_;exact rt4 hl2 ⟨rfl, trivial⟩ ⟨_, y5 hnp hkb hnm (by unfold cardWt; omega) h1 h2 h3, congrArg (fun t => Value.string (bs t)) (by rw [hl, hau, hsh]; simp), rfl⟩
     have hau : auraT c = [] := by unfold auraT; rw [if_pos ⟨ha0, hh0⟩]
     by_cases hs0 : c.shield = 0
     ·have hsh : shldT c = [] := by unfold shldT; rw [if_pos hs0]
      refine tr 2 ?_;refine cfo 6 ?_;refine zC ?_;refine zB ?_;refine qt 5 ?_;refine Lo 0 sg3 rfl hc6 ?_;refine cfo 2 ?_;refine Lo 0 sg3 rfl hc7 ?_;refine cfo 10 ?_;refine Lo 0 sg3 rfl hc5 ?_;refine cfo 7 ?_
      refine zE ((ze cl38 rfl (.cons .here .k0) (fun m' hm he => String38 hB3 (by first | omega | (simp only [List.length_append, List.length_cons, List.length_nil]; omega))) rfl ?_)) rfl;rintro _ _ ⟨rfl, rfl⟩;refine Ps 4 ?_;exact rt4 hl2 ⟨rfl, trivial⟩ ⟨_, y5 hnp hkb hnm (by unfold cardWt; omega) h1 h2 h3, congrArg (fun t => Value.string (bs t)) (by rw [hl, hau, hsh]; simp), rfl⟩
     ·have hsh : shldT c = sSp ++ sShield ++ sSp ++ decP c.shield ++ [59, 10] := by unfold shldT; rw [if_neg hs0]
      refine tr 2 ?_;refine cfo 6 ?_;refine zC ?_;refine zB ?_;refine qt 5 ?_;refine Lo 0 sg3 rfl hc6 ?_;refine cfo 2 ?_;refine Lo 0 sg3 rfl hc7 ?_;refine cfo 10 ?_;refine Lo 0 sg3 rfl hc5 ?_;refine cta 5 ?_;refine Lo 0 sg3 rfl hc5 ?_;refine Cr cl43 rfl (fun m' hm he => (z8 (hT.mono hm) (by omega) (by omega))) ?_;rintro _ rfl;rw [zn s4.1 s4.2]
      have hd_shield := zf c.shield;refine Ps 0 ?_;refine Ps 0 ?_;refine zE ((ze cl36 rfl (.cons .here .k0) (fun m' hm he => Write36 (s := [32, 115, 104, 105, 101, 108, 100, 32] ++ decP c.shield ++ [59, 10]) (.inr rfl) hB3 (by simp only [List.length_append, List.length_cons, List.length_nil]; omega)) rfl ?_)) rfl;rintro _ _ ⟨A6, c6, hB6, rfl, rfl⟩;refine vr 4 ?_
      refine zE ((ze cl38 rfl (.cons .here .k0) (fun m' hm he => String38 hB6 (by first | omega | (simp only [List.length_append, List.length_cons, List.length_nil]; omega))) rfl ?_)) rfl;rintro _ _ ⟨rfl, rfl⟩;refine Ps 4 ?_;exact rt4 hl2 ⟨rfl, trivial⟩ ⟨_, y5 hnp hkb hnm (by unfold cardWt; omega) h1 h2 h3, congrArg (fun t => Value.string (bs t)) (by rw [hl, hau, hsh]; simp), rfl⟩
end
section
open Wd Tp Kd
variable {m : Mp} {b c at_ d p : Nat} {A : Option Addr} {ws ts : List Wrd}
structure FmtC where
 A : Option Addr
 ca : Nat
 B : Option Addr
 cb : Nat
abbrev FmtC.v (q : FmtC) (x : FmtT) : List Value := [.string (bs x.name), .int .i64 x.least, .int .i64 x.most, .int .i64 x.copies, .slice q.A x.banned.length q.ca, .slice q.B x.single.length q.cb, .int .i64 x.at_]
structure FmtOk (x : FmtT) : Prop where
 name : x.name.length ≤ 65536
 ban : x.banned.length ≤ 65537
 bans : ∀ s ∈ x.banned, s.length ≤ 65536
 sin : x.single.length ≤ 65537
 sins : ∀ s ∈ x.single, s.length ≤ 65536
def FmtQ (m : Mp) (vs : List Value) (x : FmtT) : Prop := ∃ q : FmtC, vs = q.v x ∧ FmtOk x ∧ RdN m q.A q.ca x.banned ∧ RdN m q.B q.cb x.single
theorem FmtQ.mono {m m' : Mp} {vs : List Value} {x : FmtT} (h : FmtQ m vs x) (hl : Le m m') : FmtQ m' vs x := by
 obtain ⟨q, h1, h2, h3, h4⟩ := h;exact ⟨q, h1, h2, h3.mono hl, h4.mono hl⟩
def FmI (b4 : Nat) (_ : List (List UInt8)) (x : FmtT) (p : Nat) (e : Ent) : Prop := ∃ (q : FmtC) (o : Ent), e = pack [cel b4 (q.v x) 63, o] ∧ (∀ ns, o.inv ns → RdN ns q.A q.ca x.banned ∧ RdN ns q.B q.cb x.single) ∧ p = 0 ∧ FmtOk x
theorem FmI.pw {b4 : Nat} : ∀ (seen : List (List UInt8)) (x : FmtT) (p : Nat) (e : Ent), FmI b4 seen x p e → (200 < p ↔ 200 < (fun _ : FmtT => 0) x) := by
 rintro seen x p e ⟨q, o, -, -, rfl, -⟩;exact Iff.rfl
theorem mk66 {bF off bX : Nat} : CS Tryz.prog 66 [.pointer (some ⟨bF, off, none⟩), ptr bX] m [] (fun u L' => ∃ k, u = clo 67 [ptr bX, ptr k] ∧ L' = [cel k [.pointer (some ⟨bF, off, none⟩)] 109]) := by
 refine yI [.tmp 3] Tryz.func66 rfl rfl rfl ?_;refine tr 2 ?_;refine Bx 10 rfl fun b1 => ?_;exact zm [_] ⟨rfl, trivial⟩ _ .p0 ⟨b1, rfl, rfl⟩
theorem mk68 {bF off bX : Nat} : CS Tryz.prog 68 [.pointer (some ⟨bF, off, none⟩), ptr bX] m [] (fun u L' => ∃ k, u = clo 69 [ptr bX, ptr k] ∧ L' = [cel k [.pointer (some ⟨bF, off, none⟩)] 111]) := by
 refine yI [.tmp 3] Tryz.func68 rfl rfl rfl ?_;refine tr 2 ?_;refine Bx 10 rfl fun b1 => ?_;exact zm [_] ⟨rfl, trivial⟩ _ .p0 ⟨b1, rfl, rfl⟩
theorem Uh {bX bK bF n : Nat} {seen : List (List UInt8)} (hbox : Wc m ⟨bX, 0, none⟩ (ptr b)) (hfld : Wc m ⟨bK, 0, none⟩ (.pointer (some ⟨bF, 1, none⟩))) (hw : WsR m A ws) : RuC m b A c ws 67 [ptr bX, ptr bK] (fmtRead n sLeast) (FmI bF seen) (FmI bF (seen ++ [sLeast])) n := by
 rintro m' hm x e at_ p ts ⟨q, o, rfl, hes, rfl, hok⟩ hp hb hn;generalize hF : fmtRead n sLeast x ts = F;unfold fmtRead at hF;rw [if_pos rfl] at hF;have hbx := hbox.mono hm;have hfx := hfld.mono hm;clear hbox hfld;refine za [] Tryz.func67 rfl rfl rfl ?_;refine xJ _ Pick.unpack2 ?_;skip;refine tr 1 ?_;refine Db (sq [0, 1, 102, 3, 104] .done) ?_;refine Vr 0 rfl (yG sg109 rfl hfx) ?_
 refine Vr 0 rfl (yG sg54 rfl hbx) ?_;refine zA rfl (zR cl57 rfl .k0 (fun m1 hm1 he => number57 (hw.mono (hm.trans hm1)) hp) rfl ?_ ?_) rfl
 ·rintro _ _ ⟨e', a', h1, rfl⟩;rw [h1] at hF;exact pn ⟨e', a', hF.symm, rfl⟩
 rintro _ _ ⟨v1, ts1, at1, _, h1, hp1, ⟨rfl, rfl⟩, rfl⟩;rw [h1] at hF;dsimp only [R.bind] at hF;have hl1 : 1 + ts1.length ≤ ts.length := (zo (ts := ts)).2 _ _ h1;clear h1;refine vB 1 ?_;refine zA rfl (yB co3 rfl rfl rfl .h1 .h1 ?_) rfl;refine Vn 2 ?_;refine lr 0 (yG sg54 rfl hbx) ?_;refine Bs 0 sl61 fun b1 => ?_
 refine Cp cl58 rfl .k1 (fun m1 hm1 he => must58 (s := sSemi) (hw.mono (hm.trans hm1)) (Rd.blk (he _ (.head _))) (asc _ rfl) (by decide) hp1) ?_ ?_
 ·rintro _ _ ⟨e', a', h1, rfl⟩;rw [h1] at hF;skip;exact pn ⟨e', a', hF.symm, rfl⟩
 rintro _ _ ⟨_, ts2, at2, _, h1, hp2, ⟨rfl, rfl⟩, rfl⟩;rw [h1] at hF;dsimp only [R.bind] at hF;have hl2 : 1 + ts2.length ≤ ts1.length := (zL (s := sSemi) (ts := ts1)).2 _ _ h1;clear h1;refine vr 1 ?_
 exact yO [] trivial _ (.cons .here (Pick.pack2 (a := cel bF (FmtC.v q { x with least := v1 }) 63) (b := o) (.cons .h1 .p1))) ⟨{ x with least := v1 }, ts2, at2, 0, _, hF.symm, hp2, by omega, by omega, ⟨q, o, rfl, hes, rfl, ⟨hok.name, hok.ban, hok.bans, hok.sin, hok.sins⟩⟩, rfl, rfl⟩
theorem Ug {bX bK bF n : Nat} {seen : List (List UInt8)} (hbox : Wc m ⟨bX, 0, none⟩ (ptr b)) (hfld : Wc m ⟨bK, 0, none⟩ (.pointer (some ⟨bF, 2, none⟩))) (hw : WsR m A ws) : RuC m b A c ws 67 [ptr bX, ptr bK] (fmtRead n sMost) (FmI bF seen) (FmI bF (seen ++ [sMost])) n := by
 rintro m' hm x e at_ p ts ⟨q, o, rfl, hes, rfl, hok⟩ hp hb hn;generalize hF : fmtRead n sMost x ts = F;unfold fmtRead at hF;rw [if_neg (by decide), if_pos rfl] at hF;have hbx := hbox.mono hm;have hfx := hfld.mono hm;clear hbox hfld;refine za [] Tryz.func67 rfl rfl rfl ?_;refine xJ _ Pick.unpack2 ?_;skip;refine tr 1 ?_;refine Db (sq [0, 1, 102, 3, 104] .done) ?_
 refine Vr 0 rfl (yG sg109 rfl hfx) ?_;refine Vr 0 rfl (yG sg54 rfl hbx) ?_;refine zA rfl (zR cl57 rfl .k0 (fun m1 hm1 he => number57 (hw.mono (hm.trans hm1)) hp) rfl ?_ ?_) rfl
 ·rintro _ _ ⟨e', a', h1, rfl⟩;rw [h1] at hF;exact pn ⟨e', a', hF.symm, rfl⟩
 rintro _ _ ⟨v1, ts1, at1, _, h1, hp1, ⟨rfl, rfl⟩, rfl⟩;rw [h1] at hF;dsimp only [R.bind] at hF;have hl1 : 1 + ts1.length ≤ ts.length := (zo (ts := ts)).2 _ _ h1;clear h1;refine vB 1 ?_;refine zA rfl (yB co3 rfl rfl rfl .h1 .h2 ?_) rfl;refine Vn 2 ?_;refine lr 0 (yG sg54 rfl hbx) ?_;refine Bs 0 sl61 fun b1 => ?_
 refine Cp cl58 rfl .k1 (fun m1 hm1 he => must58 (s := sSemi) (hw.mono (hm.trans hm1)) (Rd.blk (he _ (.head _))) (asc _ rfl) (by decide) hp1) ?_ ?_
 ·rintro _ _ ⟨e', a', h1, rfl⟩;rw [h1] at hF;skip;exact pn ⟨e', a', hF.symm, rfl⟩
 rintro _ _ ⟨_, ts2, at2, _, h1, hp2, ⟨rfl, rfl⟩, rfl⟩;rw [h1] at hF;dsimp only [R.bind] at hF;have hl2 : 1 + ts2.length ≤ ts1.length := (zL (s := sSemi) (ts := ts1)).2 _ _ h1;clear h1;refine vr 1 ?_
 exact yO [] trivial _ (.cons .here (Pick.pack2 (a := cel bF (FmtC.v q { x with most := v1 }) 63) (b := o) (.cons .h1 .p1))) ⟨{ x with most := v1 }, ts2, at2, 0, _, hF.symm, hp2, by omega, by omega, ⟨q, o, rfl, hes, rfl, ⟨hok.name, hok.ban, hok.bans, hok.sin, hok.sins⟩⟩, rfl, rfl⟩
theorem Uf {bX bK bF n : Nat} {seen : List (List UInt8)} (hbox : Wc m ⟨bX, 0, none⟩ (ptr b)) (hfld : Wc m ⟨bK, 0, none⟩ (.pointer (some ⟨bF, 3, none⟩))) (hw : WsR m A ws) : RuC m b A c ws 67 [ptr bX, ptr bK] (fmtRead n sCopies) (FmI bF seen) (FmI bF (seen ++ [sCopies])) n := by
 rintro m' hm x e at_ p ts ⟨q, o, rfl, hes, rfl, hok⟩ hp hb hn;generalize hF : fmtRead n sCopies x ts = F;unfold fmtRead at hF;rw [if_neg (by decide), if_neg (by decide), if_pos rfl] at hF;have hbx := hbox.mono hm;have hfx := hfld.mono hm;clear hbox hfld;refine za [] Tryz.func67 rfl rfl rfl ?_;refine xJ _ Pick.unpack2 ?_;skip;refine tr 1 ?_;refine Db (sq [0, 1, 102, 3, 104] .done) ?_
 refine Vr 0 rfl (yG sg109 rfl hfx) ?_;refine Vr 0 rfl (yG sg54 rfl hbx) ?_;refine zA rfl (zR cl57 rfl .k0 (fun m1 hm1 he => number57 (hw.mono (hm.trans hm1)) hp) rfl ?_ ?_) rfl
 ·rintro _ _ ⟨e', a', h1, rfl⟩;rw [h1] at hF;exact pn ⟨e', a', hF.symm, rfl⟩
 rintro _ _ ⟨v1, ts1, at1, _, h1, hp1, ⟨rfl, rfl⟩, rfl⟩;rw [h1] at hF;dsimp only [R.bind] at hF;have hl1 : 1 + ts1.length ≤ ts.length := (zo (ts := ts)).2 _ _ h1;clear h1;refine vB 1 ?_;refine zA rfl (yB co3 rfl rfl rfl .h1 .h3 ?_) rfl;refine Vn 2 ?_;refine lr 0 (yG sg54 rfl hbx) ?_;refine Bs 0 sl61 fun b1 => ?_
 refine Cp cl58 rfl .k1 (fun m1 hm1 he => must58 (s := sSemi) (hw.mono (hm.trans hm1)) (Rd.blk (he _ (.head _))) (asc _ rfl) (by decide) hp1) ?_ ?_
 ·rintro _ _ ⟨e', a', h1, rfl⟩;rw [h1] at hF;skip;exact pn ⟨e', a', hF.symm, rfl⟩
 rintro _ _ ⟨_, ts2, at2, _, h1, hp2, ⟨rfl, rfl⟩, rfl⟩;rw [h1] at hF;dsimp only [R.bind] at hF;have hl2 : 1 + ts2.length ≤ ts1.length := (zL (s := sSemi) (ts := ts1)).2 _ _ h1;clear h1;refine vr 1 ?_
 exact yO [] trivial _ (.cons .here (Pick.pack2 (a := cel bF (FmtC.v q { x with copies := v1 }) 63) (b := o) (.cons .h1 .p1))) ⟨{ x with copies := v1 }, ts2, at2, 0, _, hF.symm, hp2, by omega, by omega, ⟨q, o, rfl, hes, rfl, ⟨hok.name, hok.ban, hok.bans, hok.sin, hok.sins⟩⟩, rfl, rfl⟩
theorem Ue {bX bK bF n : Nat} {seen : List (List UInt8)} (hbox : Wc m ⟨bX, 0, none⟩ (ptr b)) (hfld : Wc m ⟨bK, 0, none⟩ (.pointer (some ⟨bF, 4, none⟩))) (hT : Tabs m) (hw : WsR m A ws) : RuC m b A c ws 69 [ptr bX, ptr bK] (fmtRead n sBanned) (FmI bF seen) (FmI bF (seen ++ [sBanned])) n := by
 rintro m' hm x e at_ p ts ⟨q, o, rfl, hes, rfl, hok⟩ hp hb hn;generalize hF : fmtRead n sBanned x ts = F;unfold fmtRead at hF;rw [if_neg (by decide), if_neg (by decide), if_neg (by decide), if_pos rfl] at hF;have hbx := hbox.mono hm;have hfx := hfld.mono hm;clear hbox hfld;refine za [] Tryz.func69 rfl rfl rfl ?_;refine xJ _ Pick.unpack2 ?_;skip;refine tr 1 ?_
 refine Db (sq [0, 1, 102, 3, 104] .done) ?_;refine Vr 0 rfl (yG sg111 rfl hfx) ?_;refine Vr 0 rfl (yG sg54 rfl hbx) ?_;refine zA rfl (zR cl70 rfl .k0 (fun m1 hm1 he => names70 (hT.mono (hm.trans hm1)) (hw.mono (hm.trans hm1)) hp hn) rfl ?_ ?_) rfl
 ·rintro _ _ ⟨e', a', h1, rfl⟩;rw [h1] at hF;exact pn ⟨e', a', hF.symm, rfl⟩
 rintro _ _ ⟨v1, ts1, at1, _, h1, hp1, ⟨K, kc, ek, rfl, rfl, hnl, hns, hK⟩, rfl⟩;rw [h1] at hF;dsimp only [R.bind] at hF;have hl1 : ts1.length ≤ ts.length := by have h9 := (wN n [] ts hn).2 _ _ h1; omega
 clear h1;refine vB 1 ?_;refine zA rfl (yB co61 rfl rfl rfl .h2 .h4 ?_) rfl;refine Vn 2 ?_;refine lr 0 (yG sg54 rfl hbx) ?_;refine Bs 0 sl61 fun b1 => ?_;refine Cp cl58 rfl .k1 (fun m1 hm1 he => must58 (s := sSemi) (hw.mono (hm.trans hm1)) (Rd.blk (he _ (.head _))) (asc _ rfl) (by decide) hp1) ?_ ?_
 ·rintro _ _ ⟨e', a', h1, rfl⟩;rw [h1] at hF;skip;exact pn ⟨e', a', hF.symm, rfl⟩
 rintro _ _ ⟨_, ts2, at2, _, h1, hp2, ⟨rfl, rfl⟩, rfl⟩;rw [h1] at hF;dsimp only [R.bind] at hF;have hl2 : 1 + ts2.length ≤ ts1.length := (zL (s := sSemi) (ts := ts1)).2 _ _ h1;clear h1;refine vr 1 ?_
 exact yO [] trivial _ (.cons .here (Pick.pack2 (a := cel bF (FmtC.v ⟨K, kc, q.B, q.cb⟩ { x with banned := v1 }) 63) (b := pack [o, ek]) (.cons .h2 (Pick.pack2 (.cons .h2 .p1))))) ⟨{ x with banned := v1 }, ts2, at2, 0, _, hF.symm, hp2, by omega, by omega, ⟨⟨K, kc, q.B, q.cb⟩, pack [o, ek], rfl, fun ns h => ⟨hK ns (h.1 _ (.tail _ (.head _))), (hes ns (h.1 _ (.head _))).2⟩, rfl, ⟨hok.name, hnl, hns, hok.sin, hok.sins⟩⟩, rfl, rfl⟩
theorem Ud {bX bK bF n : Nat} {seen : List (List UInt8)} (hbox : Wc m ⟨bX, 0, none⟩ (ptr b)) (hfld : Wc m ⟨bK, 0, none⟩ (.pointer (some ⟨bF, 5, none⟩))) (hT : Tabs m) (hw : WsR m A ws) : RuC m b A c ws 69 [ptr bX, ptr bK] (fmtRead n sSingle) (FmI bF seen) (FmI bF (seen ++ [sSingle])) n := by
 rintro m' hm x e at_ p ts ⟨q, o, rfl, hes, rfl, hok⟩ hp hb hn;generalize hF : fmtRead n sSingle x ts = F;unfold fmtRead at hF;rw [if_neg (by decide), if_neg (by decide), if_neg (by decide), if_neg (by decide)] at hF;have hbx := hbox.mono hm;have hfx := hfld.mono hm;clear hbox hfld;refine za [] Tryz.func69 rfl rfl rfl ?_;refine xJ _ Pick.unpack2 ?_;skip;refine tr 1 ?_
 refine Db (sq [0, 1, 102, 3, 104] .done) ?_;refine Vr 0 rfl (yG sg111 rfl hfx) ?_;refine Vr 0 rfl (yG sg54 rfl hbx) ?_;refine zA rfl (zR cl70 rfl .k0 (fun m1 hm1 he => names70 (hT.mono (hm.trans hm1)) (hw.mono (hm.trans hm1)) hp hn) rfl ?_ ?_) rfl
 ·rintro _ _ ⟨e', a', h1, rfl⟩;rw [h1] at hF;exact pn ⟨e', a', hF.symm, rfl⟩
 rintro _ _ ⟨v1, ts1, at1, _, h1, hp1, ⟨K, kc, ek, rfl, rfl, hnl, hns, hK⟩, rfl⟩;rw [h1] at hF;dsimp only [R.bind] at hF;have hl1 : ts1.length ≤ ts.length := by have h9 := (wN n [] ts hn).2 _ _ h1; omega
 clear h1;refine vB 1 ?_;refine zA rfl (yB co61 rfl rfl rfl .h2 .h5 ?_) rfl;refine Vn 2 ?_;refine lr 0 (yG sg54 rfl hbx) ?_;refine Bs 0 sl61 fun b1 => ?_;refine Cp cl58 rfl .k1 (fun m1 hm1 he => must58 (s := sSemi) (hw.mono (hm.trans hm1)) (Rd.blk (he _ (.head _))) (asc _ rfl) (by decide) hp1) ?_ ?_
 ·rintro _ _ ⟨e', a', h1, rfl⟩;rw [h1] at hF;skip;exact pn ⟨e', a', hF.symm, rfl⟩
 rintro _ _ ⟨_, ts2, at2, _, h1, hp2, ⟨rfl, rfl⟩, rfl⟩;rw [h1] at hF;dsimp only [R.bind] at hF;have hl2 : 1 + ts2.length ≤ ts1.length := (zL (s := sSemi) (ts := ts1)).2 _ _ h1;clear h1;refine vr 1 ?_
 exact yO [] trivial _ (.cons .here (Pick.pack2 (a := cel bF (FmtC.v ⟨q.A, q.ca, K, kc⟩ { x with single := v1 }) 63) (b := pack [o, ek]) (.cons .h2 (Pick.pack2 (.cons .h2 .p1))))) ⟨{ x with single := v1 }, ts2, at2, 0, _, hF.symm, hp2, by omega, by omega, ⟨⟨q.A, q.ca, K, kc⟩, pack [o, ek], rfl, fun ns h => ⟨(hes ns (h.1 _ (.head _))).1, hK ns (h.1 _ (.tail _ (.head _)))⟩, rfl, ⟨hok.name, hok.ban, hok.bans, hnl, hns⟩⟩, rfl, rfl⟩
abbrev fmtKey : Nat → List UInt8
 | 0 => sLeast
 | 1 => sMost
 | 2 => sCopies
 | 3 => sBanned
 | _ => sSingle
abbrev fmtFn (j : Nat) : FuncId := if j < 3 then 67 else 69
abbrev fmtRu (bX : Nat) (β : Nat → Nat) (js : List Nat) : List (List UInt8 × FuncId × List Value) := js.map fun j => (fmtKey j, fmtFn j, [ptr bX, ptr (β j)])
theorem fmtCl {bX : Nat} {β : Nat → Nat} {js : List Nat} : ∀ k ∈ fmtRu bX β js, callable Tryz.prog k.2.1 = true := fun k hk => by
 obtain ⟨j, -, rfl⟩ := List.mem_map.1 hk;show callable Tryz.prog (if j < 3 then 67 else 69) = true
 split
 ·exact cl67
 ·exact cl69
theorem fmtRs {bX bF n : Nat} {β : Nat → Nat} {js : List Nat} (hjs : ∀ j ∈ js, j < 5) (hbox : Wc m ⟨bX, 0, none⟩ (ptr b)) (hf : ∀ j ∈ js, Wc m ⟨β j, 0, none⟩ (.pointer (some ⟨bF, j + 1, none⟩))) (hT : Tabs m) (hw : WsR m A ws) :
  ∀ k ∈ fmtRu bX β js, ∀ seen, k.1 ∉ seen → RuC m b A c ws k.2.1 k.2.2 (fmtRead n k.1) (FmI bF seen) (FmI bF (seen ++ [k.1])) n := fun k hk seen hs => by
 obtain ⟨j, hj, rfl⟩ := List.mem_map.1 hk;have h5 := hjs j hj;have hfj := hf j hj;clear hk hs hjs hf hj
 match j, h5 with
 | 0, _ => exact Uh hbox hfj hw
 | 1, _ => exact Ug hbox hfj hw
 | 2, _ => exact Uf hbox hfj hw
 | 3, _ => exact Ue hbox hfj hT hw
 | 4, _ => exact Ud hbox hfj hT hw
end
section
open Wd Tp Kd
noncomputable def drawsOf : Code → List (List Oper)
 | .seq a b => drawsOf a ++ drawsOf b
 | .block _ c => drawsOf c
 | .scope c => drawsOf c
 | .loop c => drawsOf c
 | .cond _ a b => drawsOf a ++ drawsOf b
 | .region _ l true => [l.toList]
 | _ => []
noncomputable def l21 : List Oper := ((Tryz.f21.body.map drawsOf).getD []).headD []
structure FSt where
 mm : Bool
 k : Nat
 b0 : Bool
 b1 : Bool
 b2 : Bool
 b3 : Bool
 b4 : Bool
 mv : Bool
 fin : Bool
def FSt.bit (s : FSt) : Nat → Bool
 | 0 => s.b0
 | 1 => s.b1
 | 2 => s.b2
 | 3 => s.b3
 | 4 => s.b4
 | _ => false
def FSt.lst (s : FSt) : Array Bool := #[true, s.mm, true, true, Nat.blt 0 s.k, s.b0, true, true, Nat.blt 1 s.k, s.b1, true, true, Nat.blt 2 s.k, s.b2, true, true, Nat.blt 3 s.k, s.b3, true, true, Nat.blt 4 s.k, s.b4, s.mv, s.fin]
def nB : Bool → Nat
 | true => 0
 | false => 1
def FSt.mu (s : FSt) : Nat := nB s.mm + (5 - s.k) + nB s.b0 + nB s.b1 + nB s.b2 + nB s.b3 + nB s.b4 + nB s.mv + nB s.fin
def FSt.all (s : FSt) : Bool := s.b0 && s.b1 && s.b2 && s.b3 && s.b4
def FSt.ok (s : FSt) : Bool := Nat.ble s.k 5 && (!s.b0 || (s.mm && Nat.blt 0 s.k)) && (!s.b1 || (s.mm && Nat.blt 1 s.k)) && (!s.b2 || (s.mm && Nat.blt 2 s.k)) && (!s.b3 || (s.mm && Nat.blt 3 s.k)) && (!s.b4 || (s.mm && Nat.blt 4 s.k)) && (!s.mv || s.all) && (!s.fin || s.mv)
def FSt.nx (s : FSt) (i : Nat) : Bool := (Nat.beq i 1 && !s.mm) || ((Nat.beq i (4 + 4 * s.k) && Nat.blt s.k 5) || ((Nat.beq i 5 && (s.mm && Nat.blt 0 s.k && !s.b0)) || ((Nat.beq i 9 && (s.mm && Nat.blt 1 s.k && !s.b1)) || ((Nat.beq i 13 && (s.mm && Nat.blt 2 s.k && !s.b2)) || ((Nat.beq i 17 && (s.mm && Nat.blt 3 s.k && !s.b3)) || ((Nat.beq i 21 && (s.mm && Nat.blt 4 s.k && !s.b4)) || ((Nat.beq i 22 && (s.all && !s.mv)) || (Nat.beq i 23 && (s.mv && !s.fin)))))))))
def FSt.nxt (s : FSt) : Nat → FSt
 | 1 => { s with mm := true }
 | 5 => { s with b0 := true }
 | 9 => { s with b1 := true }
 | 13 => { s with b2 := true }
 | 17 => { s with b3 := true }
 | 21 => { s with b4 := true }
 | 22 => { s with mv := true }
 | 23 => { s with fin := true }
 | _ => { s with k := s.k + 1 }
noncomputable def FSt.chk (s : FSt) : Bool := !s.ok || (fun r => (r.all fun i => s.nx i && ((s.nxt i).ok && ((s.nxt i).lst.toList == (s.lst.setIfInBounds i true).toList && Nat.beq ((s.nxt i).mu + 1) s.mu))) && (s.fin == r.isEmpty)) (Region.ready .any l21.toArray s.lst)
abbrev bools : List Bool := [true, false]
theorem xb (b : Bool) : b ∈ bools := by cases b <;> decide
theorem chkAll : (bools.all fun mk => bools.all fun b0 => bools.all fun b1 => bools.all fun b2 => bools.all fun b3 => bools.all fun b4 => bools.all fun mv => bools.all fun fin => (List.range 6).all fun k => FSt.chk ⟨mk, k, b0, b1, b2, b3, b4, mv, fin⟩) = true := by kernel_rfl
theorem chk_all (s : FSt) : s.chk = true := by
 obtain ⟨mk, k, b0, b1, b2, b3, b4, mv, fin⟩ := s;by_cases hk : k < 6
 ·have h := chkAll;simp only [List.all_eq_true] at h;exact h mk (xb _) b0 (xb _) b1 (xb _) b2 (xb _) b3 (xb _) b4 (xb _) mv (xb _) fin (xb _) k (List.mem_range.2 hk)
 ·unfold FSt.chk FSt.ok
  have : Nat.ble k 5 = false := by
   cases h : Nat.ble k 5 with
   | false => rfl
   | true => have := Nat.le_of_ble_eq_true h; omega
  simp [this]
theorem Un {s : FSt} {i : Nat} (h : s.nx i = true) : (i = 1 ∧ s.mm = false) ∨ (i = 4 + 4 * s.k ∧ s.k < 5) ∨ (i = 5 ∧ s.mm = true ∧ 0 < s.k ∧ s.b0 = false) ∨ (i = 9 ∧ s.mm = true ∧ 1 < s.k ∧ s.b1 = false) ∨ (i = 13 ∧ s.mm = true ∧ 2 < s.k ∧ s.b2 = false) ∨ (i = 17 ∧ s.mm = true ∧ 3 < s.k ∧ s.b3 = false) ∨ (i = 21 ∧ s.mm = true ∧ 4 < s.k ∧ s.b4 = false) ∨ (i = 22 ∧ s.all = true ∧ s.mv = false) ∨ (i = 23 ∧ s.mv = true ∧ s.fin = false) := by
 have hb : ∀ a b : Nat, Nat.beq a b = true ↔ a = b := fun a b => by simp
 have hl : ∀ a b : Nat, Nat.blt a b = true ↔ a < b := fun a b => by rw [Nat.blt_eq]
 unfold FSt.nx at h;simp only [Bool.or_eq_true, Bool.and_eq_true, Bool.not_eq_true', hb, hl, and_assoc] at h;exact h
theorem qS {bX : Nat} {β : Nat → Nat} : ∀ {js : List Nat} {j : Nat}, j < 5 → (∀ i ∈ js, i < 5) → j ∉ js → putM (ruM (fmtRu bX β js)) (fmtKey j) (clo (fmtFn j) [ptr bX, ptr (β j)]) = ruM (fmtRu bX β (js ++ [j])) := by
 intro js j hj hjs hn
 have inj : ∀ a b, a < 5 → b < 5 → fmtKey a = fmtKey b → a = b := by
  have h : ∀ a : Fin 5, ∀ b : Fin 5, fmtKey a.1 = fmtKey b.1 → a.1 = b.1 := by decide
  intro a b ha hb he;exact h ⟨a, ha⟩ ⟨b, hb⟩ he
 have hnone : ∀ (l : List Nat) (n : Nat), (∀ i ∈ l, i < 5) → j ∉ l → findM (fmtKey j) n (ruM (fmtRu bX β l)) = none := by
  intro l
  induction l with
  | nil => intro n _ _; rfl
  | cons a r ih =>
    intro n h1 h2;show findM (fmtKey j) n ((fmtKey a, _) :: ruM (fmtRu bX β r)) = none;rw [findM, if_neg (fun he => h2 (by rw [inj _ _ hj (h1 a (.head _)) he]; exact .head _))];exact ih _ (fun i hi => h1 i (.tail _ hi)) fun hm => h2 (.tail _ hm)
 rw [putM, hnone js 0 hjs hn];unfold ruM fmtRu;rw [List.map_append, List.map_append]
 rfl
theorem j4 {σ : Type} {K1 K2 : List (List UInt8)} (h : ∀ k, k ∈ K1 ↔ k ∈ K2) {read : List UInt8 → σ → List Wrd → R σ} {parts : σ → Nat} : ∀ (n : Nat) (seen : List (List UInt8)) (x : σ) (ts : List Wrd), pRules K1 read parts n seen x ts = pRules K2 read parts n seen x ts
 | 0, _, _, _ => rfl
 | n + 1, seen, x, ts => by
   unfold pRules;have ih := j4 h (read := read) (parts := parts) n;by_cases hk : (hd ts).kind = 1 ∧ (hd ts).text ∈ K1
   ·rw [if_pos hk, if_pos (show (hd ts).kind = 1 ∧ (hd ts).text ∈ K2 from ⟨hk.1, (h _).1 hk.2⟩)];simp only [ih]
   ·rw [if_neg hk, if_neg (show ¬((hd ts).kind = 1 ∧ (hd ts).text ∈ K2) from fun h2 => hk ⟨h2.1, (h _).2 h2.2⟩)]
theorem Y9 {bX : Nat} {β : Nat → Nat} {js : List Nat} (h : ∀ j, j ∈ js ↔ j < 5) : ∀ k, k ∈ (fmtRu bX β js).map (·.1) ↔ k ∈ fmtKeys := fun k => by
 simp only [fmtRu, List.map_map, List.mem_map, Function.comp]
 constructor
 ·rintro ⟨j, hj, rfl⟩;have := (h j).1 hj
  match j, this with
  | 0, _ => decide
  | 1, _ => decide
  | 2, _ => decide
  | 3, _ => decide
  | 4, _ => decide
 ·intro hk;simp only [fmtKeys, List.mem_cons, List.not_mem_nil, or_false] at hk;rcases hk with rfl | rfl | rfl | rfl | rfl
  ·exact ⟨0, (h 0).2 (by decide), rfl⟩
  ·exact ⟨1, (h 1).2 (by decide), rfl⟩
  ·exact ⟨2, (h 2).2 (by decide), rfl⟩
  ·exact ⟨3, (h 3).2 (by decide), rfl⟩
  ·exact ⟨4, (h 4).2 (by decide), rfl⟩
variable {m : Mp} {b c at_ d p : Nat} {A : Option Addr} {ws ts : List Wrd}
abbrev fptr (bF off : Nat) : Value := .pointer (some ⟨bF, off, none⟩)
abbrev fBase (b bF bX : Nat) : Env := [(4, ptr bF), (17, ptr b), (19, clo 66 [ptr bX]), (22, clo 66 [ptr bX]), (25, clo 66 [ptr bX]), (28, clo 68 [ptr bX]), (31, clo 68 [ptr bX]), (20, fptr bF 1), (23, fptr bF 2), (26, fptr bF 3), (29, fptr bF 4), (32, fptr bF 5)]
def FFin (b : Nat) (A : Option Addr) (c : Nat) (ws : List Wrd) (bF : Nat) (r : R FmtT) (L : List Ent) : Prop := ∃ x' ts' at' p' e' seen, r = .ok x' ts' ∧ Pos ws at' ts' ∧ p' ≤ 200 ∧ FmI bF seen x' p' e' ∧ Pick L [rd b A c ws at' 0 p', e']
def FIv (b : Nat) (A : Option Addr) (c : Nat) (ws : List Wrd) (at_ bF bX : Nat) (fm : Ent) (r : R FmtT) (s : FSt) (env : Env) (L : List Ent) : Prop :=
 s.ok = true ∧ Sub (fBase b bF bX) env ∧ ((s.fin = true ∧ FFin b A c ws bF r L) ∨ (s.fin = false ∧ ∃ (β : Nat → Nat) (bx : List Ent) (mb : Nat) (js : List Nat),
  Pick L ((if s.mm then [smap mb (ruM (fmtRu bX β js))] else []) ++ [rd b A c ws at_ 0 0, fm, pack bx]) ∧
  (∀ ns, (pack bx).inv ns → ∀ j, j < s.k → Wc ns ⟨β j, 0, none⟩ (fptr bF (j + 1))) ∧
  (∀ j, j < s.k → lk env (21 + 3 * j) = some (clo (fmtFn j) [ptr bX, ptr (β j)])) ∧
  (s.mm = true → lk env 18 = some (.map (some mb))) ∧ (s.mv = true → lk env 34 = some (.map (some mb))) ∧ (∀ j ∈ js, j < 5) ∧ (∀ j, j < 5 → (j ∈ js ↔ s.bit j = true)) ∧ (s.mm = false → js = [])))
theorem yT {P : Program} {n : Nat} {Q : Post} {o : Oper} {env : Env} {L L' : List Ent} {kept : Bool} {K : Env → List Ent → Prop} (hp : Pick L L') (h : StepS P n Q o env m L' kept K) : StepS P n Q o env m L kept K := fun h' hs => h h' (hp m h' hs)
theorem wj {env : Env} {d t : Nat} {v : Value} (h : d ≠ t) : lk ((d, v) :: env) t = lk env t := by
 show (match Nat.beq d t with | true => some v | false => lk env t) = _;rw [jS h]
theorem lk_eq {env : Env} {d : Nat} {v : Value} : lk ((d, v) :: env) d = some v := by
 show (match Nat.beq d d with | true => some v | false => lk env d) = _;rw [show Nat.beq d d = true by simp]
theorem wD {b bF bX d : Nat} {env : Env} {v : Value} (h : Sub (fBase b bF bX) env) (hd : d = 18 ∨ d = 21 ∨ d = 24 ∨ d = 27 ∨ d = 30 ∨ d = 33 ∨ d = 34 ∨ d = 35) : Sub (fBase b bF bX) ((d, v) :: env) := by
 obtain ⟨h1, h2, h3, h4, h5, h6, h7, h8, h9, h10, h11, h12, -⟩ := h;rcases hd with rfl | rfl | rfl | rfl | rfl | rfl | rfl | rfl <;> exact ⟨h1, h2, h3, h4, h5, h6, h7, h8, h9, h10, h11, h12, trivial⟩
theorem evs1 {env : Env} {x : Operand} {v : Value} (h : ev env x = some v) : evs env [x] = some [v] := by simp [evs, h]
theorem evs2 {env : Env} {x y : Operand} {v w : Value} (h : ev env x = some v) (h2 : ev env y = some w) : evs env [x, y] = some [v, w] := by simp [evs, h, h2]
theorem j9 {s : FSt} (h : s.ok = true) {i : Nat} (hb : s.bit i = true) : i < s.k ∧ s.mm = true := by
 have hl : ∀ a b : Nat, Nat.blt a b = true ↔ a < b := fun a b => by rw [Nat.blt_eq]
 unfold FSt.ok at h;simp only [Bool.and_eq_true, Bool.or_eq_true, Bool.not_eq_true', hl] at h;obtain ⟨⟨⟨⟨⟨⟨⟨-, h0⟩, h1⟩, h2⟩, h3⟩, h4⟩, -⟩, -⟩ := h
 match i with
 | 0 => have hb : s.b0 = true := hb; rw [hb] at h0; simpa [and_comm] using h0
 | 1 => have hb : s.b1 = true := hb; rw [hb] at h1; simpa [and_comm] using h1
 | 2 => have hb : s.b2 = true := hb; rw [hb] at h2; simpa [and_comm] using h2
 | 3 => have hb : s.b3 = true := hb; rw [hb] at h3; simpa [and_comm] using h3
 | 4 => have hb : s.b4 = true := hb; rw [hb] at h4; simpa [and_comm] using h4
 | _ + 5 => cases hb
theorem ok_k {s : FSt} (h : s.ok = true) : s.k ≤ 5 ∧ (s.mv = true → s.all = true) ∧ (s.fin = true → s.mv = true) := by
 unfold FSt.ok at h;simp only [Bool.and_eq_true, Bool.or_eq_true, Bool.not_eq_true'] at h;obtain ⟨⟨⟨⟨⟨⟨⟨h5, -⟩, -⟩, -⟩, -⟩, -⟩, hv⟩, hf⟩ := h;refine ⟨Nat.le_of_ble_eq_true h5, fun h => ?_, fun h => ?_⟩
 ·rw [h] at hv; simpa using hv
 ·rw [h] at hf; simpa using hf
theorem step_of {s : FSt} (hok : s.ok = true) : (Region.ready .any l21.toArray s.lst = [] ↔ s.fin = true) ∧ ∀ i ∈ Region.ready .any l21.toArray s.lst, s.nx i = true ∧ (s.nxt i).ok = true ∧ (s.nxt i).lst = s.lst.setIfInBounds i true ∧ (s.nxt i).mu + 1 = s.mu := by
 have h := chk_all s;unfold FSt.chk at h;rw [hok, Bool.not_true, Bool.false_or, Bool.and_eq_true, List.all_eq_true] at h;obtain ⟨h1, h2⟩ := h
 constructor
 ·rw [beq_iff_eq] at h2;rw [h2, List.isEmpty_iff]
 ·intro i hi;have h3 := h1 i hi;simp only [Bool.and_eq_true, beq_iff_eq] at h3;obtain ⟨g1, g2, g3, g4⟩ := h3;exact ⟨g1, g2, Array.ext' g3, by simpa using g4⟩
theorem mu0 {s : FSt} (hok : s.ok = true) (h : s.mu = 0) : s.fin = true := by
 unfold FSt.mu at h;cases hf : s.fin with
 | true => rfl
 | false => rw [hf] at h; simp [nB] at h
theorem Pick.packS {o : Ent} {bx : List Ent} : Pick [o, pack bx] [pack (bx ++ [o])] := fun m h hs => Pick.packSnoc m h ((Pick.cons .h1 .p0) m h hs)
end
section
open Wd Tp Kd
variable {m : Mp} {b c at_ d p : Nat} {A : Option Addr} {ws ts : List Wrd}
theorem qP {bX k j : Nat} {β : Nat → Nat} {js : List Nat} (h : j ∉ js) : fmtRu bX (fun i => if i = j then k else β i) js = fmtRu bX β js := by
 unfold fmtRu;refine List.map_congr_left fun i hi => ?_;have : i ≠ j := fun e => h (e ▸ hi)
 simp [this]
theorem jx {b4 k j : Nat} {β : Nat → Nat} {bx : List Ent} {t : TypeId} (h : ∀ ns, (pack bx).inv ns → ∀ i, i < j → Wc ns ⟨β i, 0, none⟩ (fptr b4 (i + 1))) : ∀ ns, (pack (bx ++ [cel k [fptr b4 (j + 1)] t])).inv ns → ∀ i, i < j + 1 → Wc ns ⟨(fun i => if i = j then k else β i) i, 0, none⟩ (fptr b4 (i + 1)) := fun ns hi i hij => by
 obtain ⟨h1, h2⟩ := hi;dsimp only;by_cases he : i = j
 ·subst he;rw [if_pos rfl];exact Wc.cel (e := t) (h1 _ (List.mem_append_right _ (.head _))) rfl
 ·rw [if_neg he];exact h ns ⟨fun e he => h1 e (List.mem_append_left _ he), (List.pairwise_append.1 h2).1⟩ i (by omega)
theorem kJ {bX k j : Nat} {β : Nat → Nat} {env : Env} {v : Value} (h : ∀ i, i < j → lk env (21 + 3 * i) = some (clo (fmtFn i) [ptr bX, ptr (β i)])) (hv : v = clo (fmtFn j) [ptr bX, ptr k]) : ∀ i, i < j + 1 → lk ((21 + 3 * j, v) :: env) (21 + 3 * i) = some (clo (fmtFn i) [ptr bX, ptr ((fun i => if i = j then k else β i) i)]) := fun i hij => by
 dsimp only;by_cases he : i = j
 ·subst he;rw [if_pos rfl, lk_eq, hv]
 ·rw [if_neg he, wj (by omega)];exact h i (by omega)
theorem qi {s s' : FSt} {js : List Nat} {k : Nat} (h : ∀ j, j < 5 → (j ∈ js ↔ s.bit j = true)) (he : ∀ j, j < 5 → (s'.bit j = true ↔ s.bit j = true ∨ j = k)) : ∀ j, j < 5 → (j ∈ js ++ [k] ↔ s'.bit j = true) := fun j hj => by rw [he j hj, ← h j hj, List.mem_append, List.mem_singleton]
theorem fmtRegion {Q : Post} {bF bX n0 : Nat} {x0 : FmtT} {fm : Ent} (hbox : Wc m ⟨bX, 0, none⟩ (ptr b)) (hT : Tabs m) (hw : WsR m A ws) (hp : Pos ws at_ ts) (hn : ts.length < n0) (hfm : FmI bF [] x0 0 fm)
  (hQp : ∀ env L e a, ((must sLb ts).bind fun _ ts => pRules fmtKeys (fmtRead n0) (fun _ => 0) n0 [] x0 ts) = .bad e a → QS Q (.panic (pan (fltV e a))) env m L)
  (hQn : ∀ env L, Sub (fBase b bF bX) env → FFin b A c ws bF ((must sLb ts).bind fun _ ts => pRules fmtKeys (fmtRead n0) (fun _ => 0) n0 [] x0 ts) L → QS Q .normal env m L)
  {env : Env} (hs : Sub (fBase b bF bX) env) : VAS Tryz.prog 37 l21 13 (FSt.lst ⟨false, 0, false, false, false, false, false, false, false⟩) env m [rd b A c ws at_ 0 0, fm] Q := by
 have hsm := hp.small;have hlen := hp.len;generalize hF : ((must sLb ts).bind fun _ ts => pRules fmtKeys (fmtRead n0) (fun _ => 0) n0 [] x0 ts) = F at hQp hQn
 refine W0 FSt.lst FSt.mu (FIv b A c ws at_ bF bX fm F) ?_ 13 ⟨false, 0, false, false, false, false, false, false, false⟩ env _ rfl ⟨rfl, hs, .inr ⟨rfl, fun _ => 0, [], 0, [], .cons .here (.cons .here (Pick.nilE (.nil _))), (fun _ _ j hj => by cases hj), (fun j hj => by cases hj), (fun h => by cases h), (fun h => by cases h), (fun j hj => by cases hj), ?_, fun _ => rfl⟩⟩
 rotate_left
 ·
  have h0 : ∀ j : Fin 5, FSt.bit ⟨false, 0, false, false, false, false, false, false, false⟩ j.1 = false := by decide
  intro j hj;have := h0 ⟨j, hj⟩;dsimp only at this;rw [this]
  simp
 intro s env L hi;obtain ⟨hok, hsub, hi⟩ := hi;obtain ⟨g1, g2⟩ := step_of hok;refine ⟨fun hr => ?_, fun h0 => g1.2 (mu0 hok h0), fun i hin => ?_⟩
 ·have hfin := g1.1 hr;rcases hi with ⟨_, hi⟩ | ⟨hff, _⟩
  ·exact hQn env L hsub hi
  ·rw [hfin] at hff; cases hff
 obtain ⟨hnx, hok', hlst, hmu⟩ := g2 i hin
 have hff : s.fin = false := by
  cases hf : s.fin with
  | false => rfl
  | true => rw [g1.2 hf] at hin; cases hin
 rcases hi with ⟨hf, _⟩ | ⟨_, β, bx, mb, js, hpk, hwc, hlk, h18, h34, hjs, hbit, hmm⟩
 ·rw [hff] at hf; cases hf
 have hkv := ok_k hok;clear g1 g2 hin;have hsub' := hsub;obtain ⟨e4, e17, e19, e22, e25, e28, e31, e20, e23, e26, e29, e32, -⟩ := hsub'
 have hnb : ∀ j, s.k ≤ j → j < 5 → j ∉ js := fun j hj h5 hm => by
  have := (j9 hok ((hbit j h5).1 hm)).1;omega
 rcases Un hnx with ⟨rfl, hm0⟩ | ⟨hi, hk5⟩ | ⟨rfl, hm1, hk, hb⟩ | ⟨rfl, hm1, hk, hb⟩ | ⟨rfl, hm1, hk, hb⟩ | ⟨rfl, hm1, hk, hb⟩ | ⟨rfl, hm1, hk, hb⟩ | ⟨rfl, hall, hmv⟩ | ⟨rfl, hmv, _⟩
 ·-- the map
  refine ⟨_, true, s.nxt 1, rfl, rfl, hlst, hmu, yT hpk ?_⟩;rw [hm0, if_neg (by decide), List.nil_append];have hj0 := hmm hm0;subst hj0;refine vR rfl fun b' => ⟨hok', wD hsub (.inl rfl), .inr ⟨hff, β, bx, b', [], Pick.refl _, hwc, fun j hj => (wj (by omega)).trans (hlk j hj), fun _ => rfl, fun h => ?_, hjs, hbit, fun _ => rfl⟩⟩;have h2 := hkv.2.1 h;unfold FSt.all at h2
  simp only [Bool.and_eq_true] at h2;have h3 := (j9 hok (i := 0) h2.1.1.1.1).2;rw [hm0] at h3;cases h3
 ·have hkk : s.k = 0 ∨ s.k = 1 ∨ s.k = 2 ∨ s.k = 3 ∨ s.k = 4 := by omega
  rcases hkk with hk | hk | hk | hk | hk
  ·-- a closure
   obtain rfl : i = 4 := by omega
   refine ⟨_, false, s.nxt 4, rfl, rfl, hlst, hmu, yT hpk ?_⟩;have hnj := hnb 0 (by omega) (by decide);refine uK (p := []) (q := [ptr bX]) (vs := [fptr bF 1]) cl66 e19 (evs1 e20) .nil (fun m' _ _ => mk66) rfl ?_;rintro _ _ ⟨k', rfl, rfl⟩
   refine ⟨hok', wD hsub (by decide), .inr ⟨hff, fun i => if i = 0 then k' else β i, bx ++ [cel k' [fptr bF 1] 109], mb, js, ?_, ?_, ?_, fun h => (wj (by decide)).trans (h18 h), fun h => (wj (by decide)).trans (h34 h), hjs, hbit, hmm⟩⟩
   ·rw [qP hnj];show Pick (cel k' [fptr bF 1] 109 :: ((if s.mm = true then [smap mb (ruM (fmtRu bX β js))] else []) ++ [rd b A c ws at_ 0 0, fm, pack bx])) ((if s.mm = true then [smap mb (ruM (fmtRu bX β js))] else []) ++ [rd b A c ws at_ 0 0, fm, pack (bx ++ [cel k' [fptr bF 1] 109])]);cases s.mm with
    | true => exact .cons .h1 (.cons .h1 (.cons .h1 Pick.packS))
    | false => exact .cons .h1 (.cons .h1 Pick.packS)
   ·show ∀ ns, _ → ∀ i, i < (s.nxt 4).k → _;rw [show (s.nxt 4).k = 0 + 1 by show s.k + 1 = _; omega];exact jx (fun ns h i hi => hwc ns h i (by omega))
   ·show ∀ i, i < (s.nxt 4).k → _;rw [show (s.nxt 4).k = 0 + 1 by show s.k + 1 = _; omega];exact kJ (j := 0) (fun i hi => hlk i (by omega)) rfl
  ·-- a closure
   obtain rfl : i = 8 := by omega
   refine ⟨_, false, s.nxt 8, rfl, rfl, hlst, hmu, yT hpk ?_⟩;have hnj := hnb 1 (by omega) (by decide);refine uK (p := []) (q := [ptr bX]) (vs := [fptr bF 2]) cl66 e22 (evs1 e23) .nil (fun m' _ _ => mk66) rfl ?_;rintro _ _ ⟨k', rfl, rfl⟩
   refine ⟨hok', wD hsub (by decide), .inr ⟨hff, fun i => if i = 1 then k' else β i, bx ++ [cel k' [fptr bF 2] 109], mb, js, ?_, ?_, ?_, fun h => (wj (by decide)).trans (h18 h), fun h => (wj (by decide)).trans (h34 h), hjs, hbit, hmm⟩⟩
   ·rw [qP hnj];show Pick (cel k' [fptr bF 2] 109 :: ((if s.mm = true then [smap mb (ruM (fmtRu bX β js))] else []) ++ [rd b A c ws at_ 0 0, fm, pack bx])) ((if s.mm = true then [smap mb (ruM (fmtRu bX β js))] else []) ++ [rd b A c ws at_ 0 0, fm, pack (bx ++ [cel k' [fptr bF 2] 109])]);cases s.mm with
    | true => exact .cons .h1 (.cons .h1 (.cons .h1 Pick.packS))
    | false => exact .cons .h1 (.cons .h1 Pick.packS)
   ·show ∀ ns, _ → ∀ i, i < (s.nxt 8).k → _;rw [show (s.nxt 8).k = 1 + 1 by show s.k + 1 = _; omega];exact jx (fun ns h i hi => hwc ns h i (by omega))
   ·show ∀ i, i < (s.nxt 8).k → _;rw [show (s.nxt 8).k = 1 + 1 by show s.k + 1 = _; omega];exact kJ (j := 1) (fun i hi => hlk i (by omega)) rfl
  ·-- a closure
   obtain rfl : i = 12 := by omega
   refine ⟨_, false, s.nxt 12, rfl, rfl, hlst, hmu, yT hpk ?_⟩;have hnj := hnb 2 (by omega) (by decide);refine uK (p := []) (q := [ptr bX]) (vs := [fptr bF 3]) cl66 e25 (evs1 e26) .nil (fun m' _ _ => mk66) rfl ?_;rintro _ _ ⟨k', rfl, rfl⟩
   refine ⟨hok', wD hsub (by decide), .inr ⟨hff, fun i => if i = 2 then k' else β i, bx ++ [cel k' [fptr bF 3] 109], mb, js, ?_, ?_, ?_, fun h => (wj (by decide)).trans (h18 h), fun h => (wj (by decide)).trans (h34 h), hjs, hbit, hmm⟩⟩
   ·rw [qP hnj];show Pick (cel k' [fptr bF 3] 109 :: ((if s.mm = true then [smap mb (ruM (fmtRu bX β js))] else []) ++ [rd b A c ws at_ 0 0, fm, pack bx])) ((if s.mm = true then [smap mb (ruM (fmtRu bX β js))] else []) ++ [rd b A c ws at_ 0 0, fm, pack (bx ++ [cel k' [fptr bF 3] 109])]);cases s.mm with
    | true => exact .cons .h1 (.cons .h1 (.cons .h1 Pick.packS))
    | false => exact .cons .h1 (.cons .h1 Pick.packS)
   ·show ∀ ns, _ → ∀ i, i < (s.nxt 12).k → _;rw [show (s.nxt 12).k = 2 + 1 by show s.k + 1 = _; omega];exact jx (fun ns h i hi => hwc ns h i (by omega))
   ·show ∀ i, i < (s.nxt 12).k → _;rw [show (s.nxt 12).k = 2 + 1 by show s.k + 1 = _; omega];exact kJ (j := 2) (fun i hi => hlk i (by omega)) rfl
  ·-- a closure
   obtain rfl : i = 16 := by omega
   refine ⟨_, false, s.nxt 16, rfl, rfl, hlst, hmu, yT hpk ?_⟩;have hnj := hnb 3 (by omega) (by decide);refine uK (p := []) (q := [ptr bX]) (vs := [fptr bF 4]) cl68 e28 (evs1 e29) .nil (fun m' _ _ => mk68) rfl ?_;rintro _ _ ⟨k', rfl, rfl⟩
   refine ⟨hok', wD hsub (by decide), .inr ⟨hff, fun i => if i = 3 then k' else β i, bx ++ [cel k' [fptr bF 4] 111], mb, js, ?_, ?_, ?_, fun h => (wj (by decide)).trans (h18 h), fun h => (wj (by decide)).trans (h34 h), hjs, hbit, hmm⟩⟩
   ·rw [qP hnj];show Pick (cel k' [fptr bF 4] 111 :: ((if s.mm = true then [smap mb (ruM (fmtRu bX β js))] else []) ++ [rd b A c ws at_ 0 0, fm, pack bx])) ((if s.mm = true then [smap mb (ruM (fmtRu bX β js))] else []) ++ [rd b A c ws at_ 0 0, fm, pack (bx ++ [cel k' [fptr bF 4] 111])]);cases s.mm with
    | true => exact .cons .h1 (.cons .h1 (.cons .h1 Pick.packS))
    | false => exact .cons .h1 (.cons .h1 Pick.packS)
   ·show ∀ ns, _ → ∀ i, i < (s.nxt 16).k → _;rw [show (s.nxt 16).k = 3 + 1 by show s.k + 1 = _; omega];exact jx (fun ns h i hi => hwc ns h i (by omega))
   ·show ∀ i, i < (s.nxt 16).k → _;rw [show (s.nxt 16).k = 3 + 1 by show s.k + 1 = _; omega];exact kJ (j := 3) (fun i hi => hlk i (by omega)) rfl
  ·-- a closure
   obtain rfl : i = 20 := by omega
   refine ⟨_, false, s.nxt 20, rfl, rfl, hlst, hmu, yT hpk ?_⟩;have hnj := hnb 4 (by omega) (by decide);refine uK (p := []) (q := [ptr bX]) (vs := [fptr bF 5]) cl68 e31 (evs1 e32) .nil (fun m' _ _ => mk68) rfl ?_;rintro _ _ ⟨k', rfl, rfl⟩
   refine ⟨hok', wD hsub (by decide), .inr ⟨hff, fun i => if i = 4 then k' else β i, bx ++ [cel k' [fptr bF 5] 111], mb, js, ?_, ?_, ?_, fun h => (wj (by decide)).trans (h18 h), fun h => (wj (by decide)).trans (h34 h), hjs, hbit, hmm⟩⟩
   ·rw [qP hnj];show Pick (cel k' [fptr bF 5] 111 :: ((if s.mm = true then [smap mb (ruM (fmtRu bX β js))] else []) ++ [rd b A c ws at_ 0 0, fm, pack bx])) ((if s.mm = true then [smap mb (ruM (fmtRu bX β js))] else []) ++ [rd b A c ws at_ 0 0, fm, pack (bx ++ [cel k' [fptr bF 5] 111])]);cases s.mm with
    | true => exact .cons .h1 (.cons .h1 (.cons .h1 Pick.packS))
    | false => exact .cons .h1 (.cons .h1 Pick.packS)
   ·show ∀ ns, _ → ∀ i, i < (s.nxt 20).k → _;rw [show (s.nxt 20).k = 4 + 1 by show s.k + 1 = _; omega];exact jx (fun ns h i hi => hwc ns h i (by omega))
   ·show ∀ i, i < (s.nxt 20).k → _;rw [show (s.nxt 20).k = 4 + 1 by show s.k + 1 = _; omega];exact kJ (j := 4) (fun i hi => hlk i (by omega)) rfl
 ·-- a rule is laid
  refine ⟨_, false, s.nxt 5, rfl, rfl, hlst, hmu, yT hpk ?_⟩;rw [hm1, if_pos rfl];have hnj : 0 ∉ js := fun h => by have h2 : s.b0 = true := (hbit 0 (by decide)).1 h; rw [hb] at h2; cases h2
  refine yf (k := fmtKey 0) ms108 (h18 hm1) rfl (hlk 0 hk) .here ?_;rw [qS (by decide) hjs hnj];refine ⟨hok', hsub, .inr ⟨hff, β, bx, mb, js ++ [0], ?_, hwc, hlk, h18, h34, fun i hi => ?_, qi (s := s) hbit ?_, fun h => ?_⟩⟩
  ·show Pick _ ((if s.mm = true then [smap mb (ruM (fmtRu bX β (js ++ [0])))] else []) ++ [rd b A c ws at_ 0 0, fm, pack bx]);rw [hm1, if_pos rfl];exact Pick.refl _
  ·rcases List.mem_append.1 hi with h | h
   ·exact hjs i h
   ·rw [List.mem_singleton.1 h]; decide
  ·intro i hi5;have hi : i = 0 ∨ i = 1 ∨ i = 2 ∨ i = 3 ∨ i = 4 := by omega
   rcases hi with rfl | rfl | rfl | rfl | rfl <;> simp [FSt.bit, FSt.nxt]
  ·have h : s.mm = false := h;rw [hm1] at h;cases h
 ·-- a rule is laid
  refine ⟨_, false, s.nxt 9, rfl, rfl, hlst, hmu, yT hpk ?_⟩;rw [hm1, if_pos rfl];have hnj : 1 ∉ js := fun h => by have h2 : s.b1 = true := (hbit 1 (by decide)).1 h; rw [hb] at h2; cases h2
  refine yf (k := fmtKey 1) ms108 (h18 hm1) rfl (hlk 1 hk) .here ?_;rw [qS (by decide) hjs hnj];refine ⟨hok', hsub, .inr ⟨hff, β, bx, mb, js ++ [1], ?_, hwc, hlk, h18, h34, fun i hi => ?_, qi (s := s) hbit ?_, fun h => ?_⟩⟩
  ·show Pick _ ((if s.mm = true then [smap mb (ruM (fmtRu bX β (js ++ [1])))] else []) ++ [rd b A c ws at_ 0 0, fm, pack bx]);rw [hm1, if_pos rfl];exact Pick.refl _
  ·rcases List.mem_append.1 hi with h | h
   ·exact hjs i h
   ·rw [List.mem_singleton.1 h]; decide
  ·intro i hi5;have hi : i = 0 ∨ i = 1 ∨ i = 2 ∨ i = 3 ∨ i = 4 := by omega
   rcases hi with rfl | rfl | rfl | rfl | rfl <;> simp [FSt.bit, FSt.nxt]
  ·have h : s.mm = false := h;rw [hm1] at h;cases h
 ·-- a rule is laid
  refine ⟨_, false, s.nxt 13, rfl, rfl, hlst, hmu, yT hpk ?_⟩;rw [hm1, if_pos rfl];have hnj : 2 ∉ js := fun h => by have h2 : s.b2 = true := (hbit 2 (by decide)).1 h; rw [hb] at h2; cases h2
  refine yf (k := fmtKey 2) ms108 (h18 hm1) rfl (hlk 2 hk) .here ?_;rw [qS (by decide) hjs hnj];refine ⟨hok', hsub, .inr ⟨hff, β, bx, mb, js ++ [2], ?_, hwc, hlk, h18, h34, fun i hi => ?_, qi (s := s) hbit ?_, fun h => ?_⟩⟩
  ·show Pick _ ((if s.mm = true then [smap mb (ruM (fmtRu bX β (js ++ [2])))] else []) ++ [rd b A c ws at_ 0 0, fm, pack bx]);rw [hm1, if_pos rfl];exact Pick.refl _
  ·rcases List.mem_append.1 hi with h | h
   ·exact hjs i h
   ·rw [List.mem_singleton.1 h]; decide
  ·intro i hi5;have hi : i = 0 ∨ i = 1 ∨ i = 2 ∨ i = 3 ∨ i = 4 := by omega
   rcases hi with rfl | rfl | rfl | rfl | rfl <;> simp [FSt.bit, FSt.nxt]
  ·have h : s.mm = false := h;rw [hm1] at h;cases h
 ·-- a rule is laid
  refine ⟨_, false, s.nxt 17, rfl, rfl, hlst, hmu, yT hpk ?_⟩;rw [hm1, if_pos rfl];have hnj : 3 ∉ js := fun h => by have h2 : s.b3 = true := (hbit 3 (by decide)).1 h; rw [hb] at h2; cases h2
  refine yf (k := fmtKey 3) ms108 (h18 hm1) rfl (hlk 3 hk) .here ?_;rw [qS (by decide) hjs hnj];refine ⟨hok', hsub, .inr ⟨hff, β, bx, mb, js ++ [3], ?_, hwc, hlk, h18, h34, fun i hi => ?_, qi (s := s) hbit ?_, fun h => ?_⟩⟩
  ·show Pick _ ((if s.mm = true then [smap mb (ruM (fmtRu bX β (js ++ [3])))] else []) ++ [rd b A c ws at_ 0 0, fm, pack bx]);rw [hm1, if_pos rfl];exact Pick.refl _
  ·rcases List.mem_append.1 hi with h | h
   ·exact hjs i h
   ·rw [List.mem_singleton.1 h]; decide
  ·intro i hi5;have hi : i = 0 ∨ i = 1 ∨ i = 2 ∨ i = 3 ∨ i = 4 := by omega
   rcases hi with rfl | rfl | rfl | rfl | rfl <;> simp [FSt.bit, FSt.nxt]
  ·have h : s.mm = false := h;rw [hm1] at h;cases h
 ·-- a rule is laid
  refine ⟨_, false, s.nxt 21, rfl, rfl, hlst, hmu, yT hpk ?_⟩;rw [hm1, if_pos rfl];have hnj : 4 ∉ js := fun h => by have h2 : s.b4 = true := (hbit 4 (by decide)).1 h; rw [hb] at h2; cases h2
  refine yf (k := fmtKey 4) ms108 (h18 hm1) rfl (hlk 4 hk) .here ?_;rw [qS (by decide) hjs hnj];refine ⟨hok', hsub, .inr ⟨hff, β, bx, mb, js ++ [4], ?_, hwc, hlk, h18, h34, fun i hi => ?_, qi (s := s) hbit ?_, fun h => ?_⟩⟩
  ·show Pick _ ((if s.mm = true then [smap mb (ruM (fmtRu bX β (js ++ [4])))] else []) ++ [rd b A c ws at_ 0 0, fm, pack bx]);rw [hm1, if_pos rfl];exact Pick.refl _
  ·rcases List.mem_append.1 hi with h | h
   ·exact hjs i h
   ·rw [List.mem_singleton.1 h]; decide
  ·intro i hi5;have hi : i = 0 ∨ i = 1 ∨ i = 2 ∨ i = 3 ∨ i = 4 := by omega
   rcases hi with rfl | rfl | rfl | rfl | rfl <;> simp [FSt.bit, FSt.nxt]
  ·have h : s.mm = false := h;rw [hm1] at h;cases h
 ·-- the map is handed on
  refine ⟨_, true, s.nxt 22, rfl, rfl, hlst, hmu, yT hpk ?_⟩
  have hmm1 : s.mm = true := by
   unfold FSt.all at hall;simp only [Bool.and_eq_true] at hall;exact (j9 hok (i := 0) hall.1.1.1.1).2
  refine yX (fun h _ => (qK (show ev env (.tmp 18) = _ from h18 hmm1)).read) rfl rfl ⟨hok', wD hsub (by decide), .inr ⟨hff, β, bx, mb, js, Pick.refl _, hwc, fun j hj => (wj (by have : s.k ≤ 5 := hkv.1; have : j < s.k := hj; omega)).trans (hlk j hj), fun h => (wj (by decide)).trans (h18 h), fun _ => lk_eq, hjs, hbit, hmm⟩⟩
 ·-- the rules are read
  have hall := hkv.2.1 hmv
  have hall5 : ∀ j, j ∈ js ↔ j < 5 := fun j => by
   refine ⟨hjs j, fun h => (hbit j h).2 ?_⟩;unfold FSt.all at hall;simp only [Bool.and_eq_true] at hall;obtain ⟨⟨⟨⟨h0, h1⟩, h2⟩, h3⟩, h4⟩ := hall
   match j, h with
   | 0, _ => exact h0
   | 1, _ => exact h1
   | 2, _ => exact h2
   | 3, _ => exact h3
   | 4, _ => exact h4
  have hmm1 : s.mm = true := (j9 hok ((hbit 0 (by decide)).1 ((hall5 0).2 (by decide)))).2
  have hk5 : s.k = 5 := by
   have := (j9 hok ((hbit 4 (by decide)).1 ((hall5 4).2 (by decide)))).1;have := hkv.1;omega
  refine ⟨_, false, s.nxt 23, rfl, rfl, hlst, hmu, yT hpk ?_⟩;rw [hmm1, if_pos rfl];have hKE : ∀ ts', pRules ((fmtRu bX β js).map (·.1)) (fmtRead n0) (fun _ => 0) n0 [] x0 ts' = pRules fmtKeys (fmtRead n0) (fun _ => 0) n0 [] x0 ts' := fun ts' => j4 (Y9 hall5) n0 [] x0 ts'
  have hFE : ((must sLb ts).bind fun _ ts => pRules ((fmtRu bX β js).map (·.1)) (fmtRead n0) (fun _ => 0) n0 [] x0 ts) = F := by
   rw [← hF]
   congr 1
   funext _ ts'
   exact hKE ts'
  refine zR cl59 (evs2 e17 (h34 hmv)) (.cons .h1 .k1) (fun m' hm he => rules59 (n := n0) (parts := fun _ => 0) (read := fmtRead n0) (I := FmI bF) (keys := fmtRu bX β js) (MapAt.of (he _ (.head _))) fmtCl (fmtRs hjs (hbox.mono hm) (fun j hj => hwc m' (he _ (.tail _ (.head _))) j (by have := hjs j hj; omega)) (hT.mono hm) (hw.mono hm)) FmI.pw hfm (hw.mono hm) hp (by omega) hn) rfl ?_ ?_
  ·rintro _ _ ⟨e', a', h1, rfl⟩;exact hQp _ _ _ _ (hFE.symm.trans h1)
  ·rintro _ _ ⟨x', ts', at', p', e', seen, h1, hp', h200, hx', rfl, rfl⟩;exact ⟨hok', wD hsub (by decide), .inl ⟨rfl, x', ts', at', p', e', seen, hFE.symm.trans h1, hp', h200, hx', .cons .here .p0⟩⟩
end
section
open Wd Tp Kd
variable {m : Mp} {b c at_ d p : Nat} {A : Option Addr} {ws ts : List Wrd}
theorem VAS_lst {P : Program} {n : Nat} {l : List Oper} {k : Nat} {lst lst' : Array Bool} {env : Env} {L : List Ent} {Q : Post} (h : lst = lst') (hv : VAS P n l k lst' env m L Q) : VAS P n l k lst env m L Q := h ▸ hv
theorem format21 {n : Nat} {at0 : Int} (hT : Tabs m) (hw : WsR m A ws) (hp : Pos ws at_ ts) (hn : ts.length < n) : CSP Tryz.prog 21 [ptr b, .int .i64 at0] m [rd b A c ws at_ 0 p]
  (fun v L' => ∃ x ts' at' p' q e, pFmt n at0 ts = .ok x ts' ∧ Pos ws at' ts' ∧ p' ≤ 200 ∧ v = .agg (FmtC.v q x).toArray ∧ L' = [rd b A c ws at' 0 p', e] ∧ FmtOk x ∧ ∀ ns, e.inv ns → RdN ns q.A q.ca x.banned ∧ RdN ns q.B q.cb x.single)
  (fun v _ => ∃ e a, pFmt n at0 ts = .bad e a ∧ v = fltV e a) := by
 generalize hF : pFmt n at0 ts = F;unfold pFmt at hF;have hsm := hp.small;have hlen := hp.len;refine za [.cell 4 63] Tryz.func21 rfl rfl rfl ?_;refine tr 2 ?_;refine Bx 0 rfl fun b1 => ?_;refine Al 5 zl63 fun b2 => ?_;refine Lb 0 sg54 .h1 ?_;refine Cp cl55 rfl .k2 (fun m' hm he => name55 (hT.mono hm) (hw.mono hm) hp) ?_ ?_
 ·rintro _ _ ⟨e', a', h1, rfl⟩;rw [h1] at hF;exact pn ⟨e', a', hF.symm, rfl⟩
 rintro _ _ ⟨s, ts1, at1, _, h1, hp1, ⟨rfl, rfl⟩, rfl⟩;rw [h1] at hF;dsimp only [R.bind] at hF;have hl1 : 1 + ts1.length ≤ ts.length := (yr (ts := ts)).2 _ _ h1;have hs5 := vD hp h1;clear h1;refine vr 1 ?_;refine Sr 1 co3 .h1 .h6 ?_;refine Sr 16 co9 .h1 .here ?_;refine Lb 2 sg54 .h2 ?_;refine Sr 3 co3 .here .h3 ?_;refine zG .h2 (fun ns hi _ hd => ?_)
 have hbx : Wc (uni m ns) ⟨b1, 0, none⟩ (ptr b) := (Wc.cel (e := 54) hi rfl).mono (zV hd);have hl2 : Le m (uni m ns) := zM _ _;clear hi hd;refine xJ [rd b A c ws at1 0 0, pack [cel b2 (FmtC.v ⟨none, 0, none, 0⟩ ⟨s, 0, 0, 0, [], [], at0⟩) 63, pack []]] (.cons .here (Pick.pack2 (.cons .here (Pick.nilE (.nil _))))) ?_;refine Q2 mixed ?_
 refine Qt (i := 0) rfl (by kernel_rfl) (fun _ _ _ _ hq => hq) (fun h hs => yG sg54 rfl hbx h hs) rfl rfl rfl ?_;refine xQ (i := 2) rfl (by kernel_rfl) (fun _ _ _ _ hq => hq) (qK rfl) rfl rfl rfl ?_;refine xQ (i := 3) rfl (by kernel_rfl) (fun _ _ _ _ hq => hq) (xi fo63_1 rfl) rfl rfl rfl ?_
 refine xQ (i := 6) rfl (by kernel_rfl) (fun _ _ _ _ hq => hq) (qK rfl) rfl rfl rfl ?_;refine xQ (i := 7) rfl (by kernel_rfl) (fun _ _ _ _ hq => hq) (xi fo63_2 rfl) rfl rfl rfl ?_;refine xQ (i := 10) rfl (by kernel_rfl) (fun _ _ _ _ hq => hq) (qK rfl) rfl rfl rfl ?_
 refine xQ (i := 11) rfl (by kernel_rfl) (fun _ _ _ _ hq => hq) (xi fo63_3 rfl) rfl rfl rfl ?_;refine xQ (i := 14) rfl (by kernel_rfl) (fun _ _ _ _ hq => hq) (qK rfl) rfl rfl rfl ?_;refine xQ (i := 15) rfl (by kernel_rfl) (fun _ _ _ _ hq => hq) (xi fo63_4 rfl) rfl rfl rfl ?_
 refine xQ (i := 18) rfl (by kernel_rfl) (fun _ _ _ _ hq => hq) (qK rfl) rfl rfl rfl ?_;refine xQ (i := 19) rfl (by kernel_rfl) (fun _ _ _ _ hq => hq) (xi fo63_5 rfl) rfl rfl rfl ?_;refine VAS_lst (lst' := FSt.lst ⟨false, 0, false, false, false, false, false, false, false⟩) (by kernel_rfl) ?_
 refine fmtRegion (x0 := ⟨s, 0, 0, 0, [], [], at0⟩) (n0 := n) hbx (hT.mono hl2) (hw.mono hl2) hp1 (by omega) ⟨⟨none, 0, none, 0⟩, pack [], rfl, fun ns _ => ⟨RdN.z _, RdN.z _⟩, rfl, ⟨hs5, Nat.zero_le _, fun _ h => (by cases h), Nat.zero_le _, fun _ h => (by cases h)⟩⟩ ?_ ?_ ⟨rfl, rfl, rfl, rfl, rfl, rfl, rfl, rfl, rfl, rfl, rfl, rfl, trivial⟩
 ·intro env L e' a' h1;exact pW hl2 ⟨e', a', hF.symm.trans h1, rfl⟩
 ·rintro env L hsub ⟨x, ts9, at9, p9, e9, seen, h1, hp9, h200, ⟨q, o, rfl, hes, rfl, hok⟩, hpk⟩;refine qt 1 ?_;refine TS_keep [(4, ptr b2)] ⟨hsub.1, trivial⟩ ?_;refine xJ _ hpk ?_;refine xJ _ Pick.unpack2 ?_;refine tr 2 ?_;refine Lc 0 ag63 .h1 ?_;refine Sg 3 ag63 .h1 ?_
  exact zX hl2 [_] ⟨⟨b2, _, _, _, rfl, .h1, .inr ⟨rfl, rfl⟩⟩, trivial⟩ _ (.cons .here .p1) ⟨x, ts9, at9, _, q, o, hF.symm.trans h1, hp9, h200, rfl, rfl, hok, hes⟩
end
namespace Wd
open Go Go.Eng
def elan : List UInt8 := [195, 137, 108, 97, 110, 39]
def w1 : List Wrd := [⟨1, [99, 97, 114, 100], 0, 0⟩, ⟨1, elan, 0, 5⟩, ⟨2, [], 3, 12⟩, ⟨0, [], 0, 17⟩]
end Wd
namespace Wd
open Go Go.Eng
inductive Walk (s : List UInt8) : Nat → List Wrd → Prop
 | stop {p : Nat} (h : ¬ p < s.length) : Walk s p [⟨0, [], 0, s.length⟩]
 | step {p q : Nat} {us ws : List Wrd} (hp : p < s.length) (h : stepR s p = .next q us) (t : Walk s q ws) : Walk s p (us ++ ws)
theorem QJ {s : List UInt8} : ∀ {p : Nat} {acc ws : List Wrd}, goR s p acc = .ok ws → ∃ r, ws = acc ++ r ∧ Walk s p r := by
 intro p acc
 fun_induction goR s p acc with
 | case1 => intro ws h; cases h
 | case2 p acc hp q us h hq ih =>
   intro ws hw;obtain ⟨r, h1, h2⟩ := ih hw;exact ⟨us ++ r, by rw [h1, List.append_assoc], .step hp h h2⟩
 | case3 p acc hp q us h hq => exact absurd (xC hp h).1 hq
 | case4 => intro ws h; cases h; exact ⟨_, rfl, .stop ‹_›⟩
inductive OneW (s : List UInt8) (p q : Nat) : List Wrd → Prop
 | none : OneW s p q []
 | name (h : letterP ((rn s p).getD (0, 0)).1 = true) (hq : (nameGo s p 0).1 = q) : OneW s p q [⟨1, seg s p q, 0, p⟩]
 | num (n : Nat) (h : digitP (by_ s p) = true) (hd : digGo s p 0 = (q, n)) (hz : ¬ (by_ s p = 48 ∧ p + 1 < q)) (hn : n ≤ 999) : OneW s p q [⟨2, [], n, p⟩]
 | mark (m : List UInt8) (h : markP (s.drop p) = some m) (hq : q = p + m.length) : OneW s p q [⟨3, m, 0, p⟩]
theorem ky {s : List UInt8} {p q : Nat} {us : List Wrd} (h : stepR s p = .next q us) : OneW s p q us := by
 unfold stepR at h
 split at h
 ·cases h
 ·rename_i x k hr
  split at h
  ·cases h; exact .none
  ·split at h
   ·split at h
    ·cases h
    ·cases h; exact .none
   ·split at h
    ·rename_i hl
     unfold stepN at h
     split at h
     ·cases h
     ·cases h; exact .name (by rw [hr]; exact hl) rfl
    ·split at h
     ·rename_i hd
      have hx := qf hd;have hpos := yh hr;have hxe : x = by_ s p := by omega
      unfold stepD at h
      split at h
      ·cases h
      ·rename_i hz
       split at h
       ·cases h
       ·cases h; exact .num _ (hxe ▸ hd) rfl hz (by omega)
     ·unfold stepM at h
      split at h
      ·cases h
      ·rename_i m hm
       cases h; exact .mark m hm rfl
theorem Walk.len {s : List UInt8} {p : Nat} {ws : List Wrd} (h : Walk s p ws) : ws.length ≤ s.length - p + 1 := by
 induction h with
 | stop => simp
 | step hp h t ih =>
   have h1 := (xC hp h).1;cases ky h <;> simp <;> omega
theorem jL {s : List UInt8} {ws : List Wrd} (h : cutP s = .ok ws) : s.length ≤ 65536 ∧ Walk s 0 ws := by
 unfold cutP at h
 split at h
 ·cases h
 ·obtain ⟨r, h1, h2⟩ := QJ h;exact ⟨by omega, by rw [h1]; exact h2⟩
theorem QX {s : List UInt8} {ws : List Wrd} (h : cutP s = .ok ws) : ws.length ≤ 65537 := by
 obtain ⟨h1, h2⟩ := jL h;have := h2.len;omega
end Wd
section
open Wd Tp Kd
theorem VP : ∀ t ∈ marks, t.length ≤ 65536 := by decide
theorem VN {s : List UInt8} {p q : Nat} (h : letterP ((rn s p).getD (0, 0)).1 = true) : seg s p q ≠ sOpen := fun he => by
 have h1 : by_ s p = 40 := by
  have h2 : (seg s p q).head? = some 40 := by rw [he]; rfl
  unfold seg at h2;rw [List.head?_take] at h2
  split at h2
  ·cases h2
  ·rw [List.head?_drop] at h2;unfold by_;rw [List.getD_eq_getElem?_getD, h2]
   rfl
 rw [y6 (by omega), h1] at h;exact absurd h (by decide)
theorem kv {s : List UInt8} (hl : s.length ≤ 65536) : ∀ {p : Nat} {ws : List Wrd}, Walk s p ws → GoodT ws
 | _, _, .stop _ => .last rfl
 | _, _, .step hp h t => by
   have ih := kv hl t;cases ky h with
   | none => exact ih
   | name h1 h2 => exact .cons (show (1 : Int) ≠ 0 by decide) ⟨(by intro h; cases h), fun _ => VN h1⟩ (by show (seg s _ _).length ≤ _; unfold seg; rw [List.length_take, List.length_drop]; omega) ih
   | num n h1 h2 h3 h4 => exact .cons (show (2 : Int) ≠ 0 by decide) ⟨(by intro h; cases h), (by intro h; cases h)⟩ (Nat.zero_le _) ih
   | mark mk h1 h2 => exact .cons (show (3 : Int) ≠ 0 by decide) ⟨fun _ => List.mem_of_find?_eq_some h1, (by intro h; cases h)⟩ (VP _ (List.mem_of_find?_eq_some h1)) ih
theorem cut_pos {s : List UInt8} {ws : List Wrd} (h : cutP s = .ok ws) : Pos ws 0 ws := ⟨rfl, kv (jL h).1 (jL h).2, QX h⟩
theorem UX {s : List UInt8} {p a : Nat} {e : Int} (h : stepR s p = .err e a) : e ≠ 0 := by
 unfold stepR at h
 split at h
 ·cases h; decide
 ·split at h
  ·cases h
  ·split at h
   ·split at h
    ·cases h; decide
    ·cases h
   ·split at h
    ·unfold stepN at h
     split at h
     ·cases h; decide
     ·cases h
    ·split at h
     ·unfold stepD at h
      split at h
      ·cases h; decide
      ·split at h
       ·cases h; decide
       ·cases h
     ·unfold stepM at h
      split at h
      ·cases h; decide
      ·cases h
theorem go_err {s : List UInt8} {a : Nat} {e : Int} : ∀ {p : Nat} {acc : List Wrd}, goR s p acc = .error (e, a) → e ≠ 0 := by
 intro p acc
 fun_induction goR s p acc with
 | case1 p acc hp e' a' h => intro hw; cases hw; exact UX h
 | case2 p acc hp q us h hq ih => exact ih
 | case3 p acc hp q us h hq => exact absurd (xC hp h).1 hq
 | case4 => intro h; cases h
theorem cut_err {s : List UInt8} {a : Nat} {e : Int} (h : cutP s = .error (e, a)) : e ≠ 0 := by
 unfold cutP at h
 split at h
 ·cases h; decide
 ·exact go_err h
def readP (s : List UInt8) : R BkT := match cutP s with
 | .error (e, a) => .bad e (a : Int)
 | .ok ws => pBook cardWt ws.length (ws.length + 1) [] [] ws
theorem VA {m : Mp} {L : List Ent} {b2 b3 : Nat} {x : Fx} {h : Heap} {d : Nat} (hs : HS m L h) :
  CallsD Tryz.prog 17 [ptr b2, ptr b3].toArray .returning (W x h d) fun e u2 w' => e = .returned (.tuple #[]) ∧ u2 = .returning ∧ ∃ h' d' L', w' = W x h' d' ∧ (L' = L) ∧ HS m L' h' := by
 refine VB (post := fun _ L' => L' = L) Tryz.func17 rfl rfl rfl rfl .ret ?_ hs;refine vr 5 ?_;refine pe 7 (Xc (by kernel_rfl) rfl) ?_;exact wr [] trivial L (Pick.refl _) rfl
theorem D17_pan {m : Mp} {b2 b3 : Nat} {v1 v2 v3 v4 v : Value} {x : Fx} {h : Heap} {d : Nat} {e a : Int} (hv : v = fltV e a) (hs : HS m [cel b3 [v3, v4] 29, cel b2 [v1, v2] 26] h) :
  CallsD Tryz.prog 17 [ptr b2, ptr b3].toArray (.panicking (pan v)) (W x h d) fun e' u2 w' => e' = .returned (.tuple #[]) ∧ u2 = .panicking [{ v := v, recovered := true }] ∧ ∃ h' d' L', w' = W x h' d' ∧ (L' = [cel b3 [.int .i64 e, .int .i64 a] 29, cel b2 [.slice none 0 0, .slice none 0 0] 26]) ∧ HS m L' h' := by
 subst hv;refine VB (post := fun _ L' => L' = [cel b3 [.int .i64 e, .int .i64 a] 29, cel b2 [.slice none 0 0, .slice none 0 0] 26]) Tryz.func17 rfl rfl rfl rfl (.pan _ _) ?_ hs;unfold fltV;refine vr 5 ?_;refine pe 5 (W7 (by kernel_rfl) rfl) ?_;refine pe 7 (jh ni29 us29 rfl) ?_;refine Al 0 zl29 fun b1 => ?_;refine Sg 2 ag29 .here ?_
 refine z6 (sT [0] (.fork (sT [201, 302, 303] .done) (sT [302, 101, 303] .done))) mixed (by kernel_rfl) (fun _ _ _ _ hq => hq) ?_;refine Vt 0 rfl (zT zl26 pl26 rfl rfl) ?_;refine wW ?_ ?_;refine xp rfl (ye ag29 rfl .here rfl) rfl rfl rfl ?_;refine zW rfl rfl (zS ag26 rfl rfl rfl .h2 rfl rfl ?_) rfl
 refine zW rfl rfl (zS ag29 rfl rfl rfl .h1 rfl rfl ?_) rfl;refine Vm 1 ?_
 ·exact wr [] trivial _ (.cons .h1 .p1) rfl
 ·refine zW rfl rfl (zS ag26 rfl rfl rfl .h2 rfl rfl ?_) rfl;refine Vu 0 rfl (ye ag29 rfl .here rfl) ?_;refine zW rfl rfl (zS ag29 rfl rfl rfl .h1 rfl rfl ?_) rfl;refine Vm 1 ?_;exact wr [] trivial _ (.cons .h1 .p1) rfl
end
section
open Wd Tp Kd
def CdsC (m : Mp) (xs : List Value) (l : List CardT) : Prop := xs.length = l.length * 12 ∧ ∀ (i : Nat) (hi : i < l.length), CardQ m ((xs.drop (i * 12)).take 12) l[i]
theorem CdsC.mono {m m' : Mp} {xs : List Value} {l : List CardT} (h : CdsC m xs l) (hl : Le m m') : CdsC m' xs l := ⟨h.1, fun i hi => (h.2 i hi).mono hl⟩
theorem CdsC.snoc {m : Mp} {xs ys : List Value} {l : List CardT} {x : CardT} (h : CdsC m xs l) (hx : CardQ m ys x) (hy : ys.length = 12) : CdsC m (xs ++ ys) (l ++ [x]) := by
 obtain ⟨h1, h2⟩ := h;refine ⟨by rw [List.length_append, List.length_append, h1, hy]; show l.length * 12 + 12 = (l.length + 1) * 12; omega, fun i hi => ?_⟩;have hi2 : i < l.length + 1 := by simpa using hi
 by_cases hlt : i < l.length
 ·rw [List.getElem_append_left hlt, List.drop_append_of_le_length (by omega), List.take_append_of_le_length (by rw [List.length_drop]; omega)];exact h2 i hlt
 ·have : i = l.length := by omega
  subst this;rw [← h1, List.drop_left, ← hy, List.take_length];simp only [List.getElem_concat_length];exact hx
def CardsQ (m : Mp) (A : Option Addr) (l : List CardT) : Prop := ∃ xs, Rd m A xs ∧ CdsC m xs l
theorem CardsQ.mono {m m' : Mp} {A : Option Addr} {l : List CardT} (h : CardsQ m A l) (hl : Le m m') : CardsQ m' A l := by
 obtain ⟨xs, h1, h2⟩ := h;exact ⟨xs, h1.mono hl, h2.mono hl⟩
def FmsC (m : Mp) (xs : List Value) (l : List FmtT) : Prop := xs.length = l.length * 7 ∧ ∀ (i : Nat) (hi : i < l.length), FmtQ m ((xs.drop (i * 7)).take 7) l[i]
theorem FmsC.mono {m m' : Mp} {xs : List Value} {l : List FmtT} (h : FmsC m xs l) (hl : Le m m') : FmsC m' xs l := ⟨h.1, fun i hi => (h.2 i hi).mono hl⟩
theorem FmsC.snoc {m : Mp} {xs ys : List Value} {l : List FmtT} {x : FmtT} (h : FmsC m xs l) (hx : FmtQ m ys x) (hy : ys.length = 7) : FmsC m (xs ++ ys) (l ++ [x]) := by
 obtain ⟨h1, h2⟩ := h;refine ⟨by rw [List.length_append, List.length_append, h1, hy]; show l.length * 7 + 7 = (l.length + 1) * 7; omega, fun i hi => ?_⟩;have hi2 : i < l.length + 1 := by simpa using hi
 by_cases hlt : i < l.length
 ·rw [List.getElem_append_left hlt, List.drop_append_of_le_length (by omega), List.take_append_of_le_length (by rw [List.length_drop]; omega)];exact h2 i hlt
 ·have : i = l.length := by omega
  subst this;rw [← h1, List.drop_left, ← hy, List.take_length];simp only [List.getElem_concat_length];exact hx
def FmtsQ (m : Mp) (A : Option Addr) (l : List FmtT) : Prop := ∃ xs, Rd m A xs ∧ FmsC m xs l
theorem FmtsQ.mono {m m' : Mp} {A : Option Addr} {l : List FmtT} (h : FmtsQ m A l) (hl : Le m m') : FmtsQ m' A l := by
 obtain ⟨xs, h1, h2⟩ := h;exact ⟨xs, h1.mono hl, h2.mono hl⟩
abbrev bkV (K : Option Addr) (k kc : Nat) (F : Option Addr) (f fc : Nat) : Value := .agg [.slice K k kc, .slice F f fc].toArray
def ReadPost (r : R BkT) (v : Value) (L' : List Ent) : Prop :=
 (∃ bk ts K kc F fc e, r = .ok bk ts ∧ v = .tuple [bkV K bk.cards.length kc F bk.fmts.length fc, faultV 0 0].toArray ∧ L' = [e] ∧ bk.cards.length ≤ 240 ∧ bk.fmts.length ≤ 240 ∧ ∀ ns, e.inv ns → CardsQ ns K bk.cards ∧ FmtsQ ns F bk.fmts) ∨
 (∃ e a, r = .bad e a ∧ v = .tuple [bkV none 0 0 none 0 0, faultV e a].toArray ∧ L' = [])
structure BkS where
 n : Nat
 at_ : Nat
 p : Nat
 ts : List Wrd
 cs : List CardT
 fs : List FmtT
 K : Option Addr
 kc : Nat
 xs : List Value
 F : Option Addr
 fc : Nat
 ys : List Value
 e : Ent
abbrev rB (b2 b3 : Nat) : Env := [(2, ptr b2), (3, ptr b3)]
def rGood (b2 b3 : Nat) (s : List UInt8) (env : Env) (L : List Ent) : Prop := Sub (rB b2 b3) env ∧ ∃ bk ts K kc F fc e, readP s = .ok bk ts ∧ L = [cel b3 [.int .i64 0, .int .i64 0] 29, cel b2 [.slice K bk.cards.length kc, .slice F bk.fmts.length fc] 26, e] ∧ bk.cards.length ≤ 240 ∧ bk.fmts.length ≤ 240 ∧ ∀ ns, e.inv ns → CardsQ ns K bk.cards ∧ FmtsQ ns F bk.fmts
def rBad (b2 b3 : Nat) (s : List UInt8) (env : Env) (v : Value) (L : List Ent) : Prop := Sub (rB b2 b3) env ∧ ∃ e a v1 v2 v3 v4, readP s = .bad e a ∧ v = fltV e a ∧ L = [cel b3 [v3, v4] 29, cel b2 [v1, v2] 26]
theorem qo {m : Mp} (hT : Tabs m) {s : List UInt8} (hs : s.length ≤ 9223372036854775807) : CS Tryz.prog 7 [.string (bs s)] m [] (ReadPost (readP s)) := by
 intro h hs0 x0 d0;refine calls_of_wp_defers Tryz.func7 rfl ?_;refine at_W (x := ⟨x0.tape, x0.os, x0.out, []⟩) (h := h) (d := d0) rfl (fun a hag => ?_) (agD0 (by show 1 ≤ 102; decide))
 refine qL (m := m) (L := []) (K := fun env' L' => ∃ b2 b3, L' = [cel b3 [.int .i64 0, .int .i64 0] 29, cel b2 [.slice none 0 0, .slice none 0 0] 26] ∧ Sub [(0, .string (bs s)), (2, ptr b2), (3, ptr b3)] env') ?_ hs0 hag ?_
 ·refine tr 1 ?_;refine Al 0 zl26 fun b1 => ?_;refine Al 1 zl29 fun b2 => ?_;exact YO _ (Pick.refl _) ⟨b1, b2, rfl, rfl, rfl, rfl, trivial⟩
 rintro env1 _ h1 d1' a1' ⟨b2, b3, rfl, hsub⟩ hs1 hag1;have hag1 := hag1.sub hsub;cases hcut : cutP s with
 | error er =>
   obtain ⟨e, a⟩ := er;have he0 := cut_err hcut;have hrp : readP s = .bad e (a : Int) := by rw [readP, hcut]
   refine UH (x := ⟨x0.tape, x0.os, x0.out, []⟩) (Qr := endQ m (fun env L' => Sub (rB b2 b3) env ∧ L' = [cel b3 [.int .i64 e, .int .i64 (a : Nat)] 29, cel b2 [.slice none 0 0, .slice none 0 0] 26]) (fun _ _ _ => False)) ?_ hs1 hag1 ?_
   ·refine tr 3 ?_;refine zE ((yK cl16 rfl (fun m' hm he => JC (hT.mono hm) hs) rfl ?_)) rfl;rintro _ _ hc;rw [hcut] at hc;obtain ⟨rfl, rfl⟩ := hc;unfold faultV;refine vr 4 ?_;refine Sg 6 ag29 .here ?_;refine Lb 0 sg27 .here ?_;refine cta 4 ?_;refine z6 (sT [0] (.fork (sT [201, 302, 303] .done) (sT [302, 101, 303] .done))) mixed (by kernel_rfl) (fun _ _ _ _ hq => hq) ?_
    refine Vt 0 rfl (zT zl26 pl26 rfl rfl) ?_;refine wW ?_ ?_;refine xp rfl (ye ag29 rfl .here rfl) rfl rfl rfl ?_;refine zW rfl rfl (zS ag26 rfl rfl rfl .h1 rfl rfl ?_) rfl;refine zW rfl rfl (zS ag29 rfl rfl rfl .here rfl rfl ?_) rfl;refine Vm 3 ?_
    ·exact YP (Le.refl _) [_, _] (Pick.refl _) ⟨⟨rfl, rfl, trivial⟩, rfl⟩
    ·refine zW rfl rfl (zS ag26 rfl rfl rfl .h1 rfl rfl ?_) rfl;refine Vu 0 rfl (ye ag29 rfl .here rfl) ?_;refine zW rfl rfl (zS ag29 rfl rfl rfl .here rfl rfl ?_) rfl;refine Vm 3 ?_;exact YP (Le.refl _) [_, _] (Pick.refl _) ⟨⟨rfl, rfl, trivial⟩, rfl⟩
   ·rintro e1 env' h' d' a' hq hag';have hdf : a'.defers = [] := hag'.defers
    have good : ∀ L', (Sub (rB b2 b3) env' ∧ L' = [cel b3 [.int .i64 e, .int .i64 (a : Nat)] 29, cel b2 [.slice none 0 0, .slice none 0 0] 26]) → HS m L' h' → Leaves Tryz.prog Tryz.f7 a'.tmps (fun e w' => ∃ v h' d', e = Ending.returned v ∧ w' = W x0 h' d' ∧ postS m (ReadPost (readP s)) v h') [] .returning (W ⟨x0.tape, x0.os, x0.out, []⟩ h' d') := by
     rintro L' ⟨hsub, rfl⟩ hh;exact ⟨_, RvsOk.results (rs := [.cell 2 26, .cell 3 29]) rfl hag'.toAg (RvsS.ok hh (vs := [_, _]) ⟨⟨_, _, _, _, hsub.1, .h1, .inr ⟨ag26, rfl⟩⟩, ⟨_, _, _, _, hsub.2.1, .here, .inr ⟨ag29, rfl⟩⟩, trivial⟩), _, h', d', rfl, rfl, _, .inr ⟨e, a, hrp, rfl, rfl⟩, hh.tail.tail⟩
    cases e1 with
    | normal =>
      obtain ⟨L', hp, hh⟩ := hq;show Leaves _ _ _ _ a'.defers _ _;rw [hdf];exact good _ hp hh
    | ret =>
      obtain ⟨L', hp, hh⟩ := hq;show Leaves _ _ _ _ a'.defers _ _;rw [hdf];exact good _ hp hh
    | panic c => obtain ⟨v, L', _, hf, _⟩ := hq; exact hf.elim
    | exit i => exact hq.elim
    | goto i => exact hq.elim
    | outgrown => exact hq.elim
 | ok ws =>
   have hrp : readP s = pBook cardWt ws.length (ws.length + 1) [] [] ws := by rw [readP, hcut]
   have hpos := cut_pos hcut;refine qL (m := m) (K := fun env' L' => ∃ A c, L' = [cel b3 [.int .i64 0, .int .i64 0] 29, cel b2 [.slice none 0 0, .slice none 0 0] 26, own 58 4 A ws.length c (wsV ws)] ∧ Sub [(2, ptr b2), (3, ptr b3), (4, .slice A ws.length c)] env') ?_ hs1 hag1 ?_
   ·refine tr 2 ?_;refine zE ((yK cl16 rfl (fun m' hm he => JC (hT.mono hm) hs) rfl ?_)) rfl;rintro _ _ hc;rw [hcut] at hc;obtain ⟨A, c, rfl, rfl⟩ := hc;unfold faultV;refine vr 4 ?_;refine Sg 1 ag29 .h1 ?_;exact YO _ (.cons .h1 (.cons .h1 .p0)) ⟨A, c, rfl, rfl, rfl, rfl, trivial⟩
   rintro env2 _ h2 d2' a2' ⟨A, c, rfl, hsub2⟩ hs2 hag2;have hag2 := hag2.sub hsub2;refine qL (m := m) (K := fun env' L' => L' = [cel b3 [.int .i64 0, .int .i64 0] 29, cel b2 [.slice none 0 0, .slice none 0 0] 26, own 58 4 A ws.length c (wsV ws)] ∧ Sub [(2, ptr b2), (3, ptr b3), (4, .slice A ws.length c)] env') ?_ hs2 hag2 ?_
   ·refine tr 3 ?_;refine Lb 0 sg27 .here ?_;refine cfo 4 ?_;exact YO _ (Pick.refl _) ⟨rfl, rfl, rfl, rfl, trivial⟩
   rintro env3 _ h3 d3' a3' ⟨rfl, hsub3⟩ hs3 hag3;have hag3 := hag3.sub hsub3;refine wp_seq ?_;refine YX rfl rfl hag3 fun a5' hag5 => ?_;refine UH (x := ⟨x0.tape, x0.os, x0.out, [dfr (.func 17) [ptr b2, ptr b3]]⟩) (Qr := endQ m (rGood b2 b3 s) (rBad b2 b3 s)) ?_ hs3 hag5 ?_
   ·refine zG .h2 (fun ns hi _ hd => ?_);have hw : WsR (uni m ns) A ws := (Eng.Own.rd hi).mono (zV hd);have hcap : ws.length ≤ c := Eng.Own.le hi;have hl2 : Le m (uni m ns) := zM _ _;have hT := hT.mono hl2;clear hi hd
    have hQk : ∀ {d : Nat} {c : _} {env : Env} {h : Heap}, Nat.blt 3 d = true → endQ m (rGood b2 b3 s) (rBad b2 b3 s) (.panic c) env h → endQ m (rGood b2 b3 s) (rBad b2 b3 s) (.panic c) (dropE d env) h := fun {d c env h} hd ⟨v, L', e, ⟨hsub, r⟩, hh⟩ => by
     rw [Nat.blt_eq] at hd;exact ⟨v, L', e, ⟨⟨(qW (by omega)).trans hsub.1, (qW (by omega)).trans hsub.2.1, trivial⟩, r⟩, hh⟩
    refine tr 3 ?_;refine pe 0 (zT zl56 pl56 rfl rfl) ?_;refine Bx 5 rfl fun b1 => ?_;refine xK 40 12 ?_;refine xK 63 7 ?_
    refine zj (α := BkS) (fun y => [(2, ptr b2), (3, ptr b3), (5, ptr b1)]) (fun y => [rd b1 A c ws y.at_ 0 y.p, cel b2 [.slice y.K y.cs.length y.kc, .slice y.F y.fs.length y.fc] 26, cel b3 [.int .i64 0, .int .i64 0] 29, own 40 12 y.K y.cs.length y.kc y.xs, own 63 7 y.F y.fs.length y.fc y.ys, y.e])
     (fun y => pBook cardWt ws.length y.n y.cs y.fs y.ts = readP s ∧ Pos ws y.at_ y.ts ∧ y.ts.length < y.n ∧ y.cs.length ≤ 240 ∧ y.fs.length ≤ 240 ∧ ∀ ns, y.e.inv ns → CdsC ns y.xs y.cs ∧ FmsC ns y.ys y.fs) (fun y => y.n)
     ⟨ws.length + 1, 0, 0, ws, [], [], none, 0, [], none, 0, [], pack []⟩ ⟨rfl, rfl, rfl, trivial⟩ (.cons .h2 (.cons .h3 (.cons .h2 (.cons .h1 (.cons .here (Pick.nilE (.nil _))))))) ⟨hrp.symm, hpos, Nat.lt_succ_self _, Nat.zero_le _, Nat.zero_le _, fun ns _ => ⟨⟨rfl, fun i h => by cases h⟩, ⟨rfl, fun i h => by cases h⟩⟩⟩ ?_
    rintro ⟨j, at_, p, ts, cs, fs, K, kc, xs, F, fc, ys, e⟩ ⟨hF, hp, hj, hcs, hfs, he⟩;dsimp only at hF hp hj hcs hfs he;dsimp only;obtain ⟨j, rfl⟩ : ∃ j', j = j' + 1 := ⟨j - 1, by omega⟩;unfold pBook at hF;have hat := hp.word hw;have hA := hp.isSome hw;have hlt := hp.lt;have hsm := hp.small;have hlen := hp.len;by_cases h0 : (hd ts).kind = 0
    ·rw [if_pos h0] at hF;refine tr 2 ?_;refine vQ (.step 0 .pure (.step 1 .pure (.step 2 .pure (.step 4 .pure (.step 5 .pure (.step 6 .pure (.step 3 .read (.step 7 .read (.step 8 .pure (.step 9 .pure (.step 10 .read (.step 11 .pure (.done))))))))))))) mixed (by kernel_rfl) 3 (by kernel_rfl) (fun _ _ _ _ hd hq => hQk hd hq) ?_;refine vt 6 ?_;refine Vl 0 rfl sg51 .here ?_
     refine Vl 0 rfl sg3 .here ?_;refine Vt 1 rfl (zI ez51 rfl rfl hA (by omega)) ?_;refine Vu 0 rfl (zF sg42 rfl (hat.at_ rfl)) ?_;refine Vt 0 rfl (df (kl rfl rfl) (by omega)) ?_;refine Vm 4 ?_;refine zC ?_;refine zB ?_;refine qt 3 ?_;refine Lc 0 ag26 .h1 ?_;refine pe 0 (zT zl29 pl29 rfl rfl) ?_;refine Sg 0 ag26 .h1 ?_;refine Sg 3 ag29 .h2 ?_
     exact YP hl2 [_, _, _] (.cons .h2 (.cons .h1 (Pick.pack3 (.cons .h1 (.cons .h1 .p1))))) ⟨⟨rfl, rfl, trivial⟩, ⟨cs, fs⟩, ts, K, kc, F, fc, pack [own 40 12 K cs.length kc xs, own 63 7 F fs.length fc ys, e], hF.symm, rfl, hcs, hfs, fun ns h => ⟨⟨xs, Eng.Own.rd (h.1 _ (.head _)), (he ns (h.1 _ (.tail _ (.tail _ (.head _))))).1⟩, ⟨ys, Eng.Own.rd (h.1 _ (.tail _ (.head _))), (he ns (h.1 _ (.tail _ (.tail _ (.head _))))).2⟩⟩⟩
    rw [if_neg h0] at hF;refine tr 2 ?_;refine vQ (.step 0 .pure (.step 1 .pure (.step 2 .pure (.step 4 .pure (.step 5 .pure (.step 6 .pure (.step 3 .read (.step 7 .read (.step 8 .pure (.step 9 .pure (.step 10 .read (.step 11 .pure (.done))))))))))))) mixed (by kernel_rfl) 3 (by kernel_rfl) (fun _ _ _ _ hd hq => hQk hd hq) ?_;refine vt 6 ?_;refine Vl 0 rfl sg51 .here ?_
    refine Vl 0 rfl sg3 .here ?_;refine Vt 1 rfl (zI ez51 rfl rfl hA (by omega)) ?_;refine Vu 0 rfl (zF sg42 rfl (hat.at_ rfl)) ?_;refine Vt 0 rfl (dt (kl rfl rfl) (by assumption)) ?_;refine Vm 6 ?_
    refine vQ (.step 0 .pure (.step 1 .pure (.step 2 .pure (.step 4 .pure (.step 5 .pure (.step 6 .pure (.step 3 .read (.step 7 .read (.step 8 .pure (.step 9 .pure (.step 10 .read (.step 11 .pure (.done))))))))))))) mixed (by kernel_rfl) 3 (by kernel_rfl) (fun _ _ _ _ hd hq => hQk hd hq) ?_;refine vt 6 ?_;refine Vl 0 rfl sg51 .here ?_;refine Vl 0 rfl sg3 .here ?_
    refine Vt 1 rfl (zI ez51 rfl rfl hA (by omega)) ?_;refine Vu 1 rfl (zF sg3 rfl (hat.at_ rfl)) ?_;refine Vm 5 ?_;refine C1 cl18 rfl .here (fun m' hm he => is18 (s := sCard) (hw.mono hm) hp (asc _ rfl) (by decide)) ?_;rintro _ _ ⟨rfl, rfl⟩;cases hkc : isW sCard ts with
    | true =>
      by_cases hf0 : fs.length = 0
      ·rw [if_pos ⟨hkc, hf0⟩] at hF;have hnx := hp.isW hkc
       have htl : ts.tail.length + 1 = ts.length := by
        have := hnx.len;omega
       by_cases h240 : cs.length = 240
       ·rw [if_pos h240] at hF;refine vr 2 ?_;refine Lb 1 sg24 .h1 ?_;refine cto 9 ?_;refine Lb 1 sg23 .h1 ?_;refine cto 5 ?_;refine Cp cl19 rfl .k0 (fun m' hm he => bad19 3 (hw.mono hm) hp) ?_ ?_
        ·rintro _ _ rfl;refine zU ?_;refine zH ?_;refine zU ?_;exact xS hl2 [_, _] (Pick.app (.cons .h1 .p0)) ⟨⟨rfl, rfl, trivial⟩, 3, _, _, _, _, _, hF.symm, rfl, rfl⟩
        ·rintro _ _ h;exact h.elim
       rw [if_neg h240] at hF;skip;refine vr 2 ?_;refine Lb 1 sg24 .h1 ?_;refine cto 9 ?_;refine Lb 1 sg23 .h1 ?_;refine cfo 10 ?_;refine Lb 0 sg3 .here ?_;refine Pa 2 ?_;refine Sr 2 co3 .here .h1 ?_
       refine vQ (.step 0 .pure (.step 2 .pure (.step 3 .pure (.fork (.step 1 .kept (.step 4 .wild (.step 5 .kept (.step 6 .wild (.step 7 .pure (.step 8 .wild (.done))))))) (.step 4 .wild (.step 1 .read (.step 5 .kept (.step 6 .wild (.step 7 .pure (.step 8 .wild (.done))))))))))) mixed (by kernel_rfl) 3 (by kernel_rfl) (fun _ _ _ _ hd hq => hQk hd hq) ?_;refine vt 3 ?_;refine wW ?_ ?_
       refine xp rfl (zZ sg23 rfl .h1 rfl) rfl rfl rfl ?_
       ·refine zW rfl rfl (zR cl20 rfl .k0 (fun m' hm he => card20 (n := ws.length) (hT.mono hm) (hw.mono hm) hcap hnx (by omega)) rfl ?_ ?_) rfl
        ·rintro _ _ ⟨e', a', h1, rfl⟩;rw [h1] at hF;refine zU ?_;refine zH ?_;refine zU ?_;exact xS hl2 [_, _] (Pick.app (.cons .h1 .p0)) ⟨⟨rfl, rfl, trivial⟩, e', a', _, _, _, _, hF.symm, rfl, rfl⟩
        rintro _ _ ⟨x, ts2, at2, p2, q, ek, h1, hp2, h200, rfl, rfl, hnm, hwt, hk⟩;rw [h1] at hF;dsimp only [R.bind] at hF;have hlx := (ZR (parts := cardWt) (n := ws.length) (at_ := (hd ts).at_) (ts := ts.tail) (by omega)).2 _ _ h1;clear h1;have e1 : cs.length + 1 = (cs ++ [x]).length := by simp
        refine z1 rfl (zQ sl23 rfl rfl rfl rfl (fun b4 => ?_)) rfl;refine zW rfl rfl (yg sl23 rfl rfl rfl rfl .here (fun _ _ => .h5) rfl rfl (by first | omega | (simp only [maxLen]; omega)) (by omega) rfl (fun A1 c1 => ?_)) rfl;refine vt 1 ?_;refine zW rfl rfl (yB co23 rfl rfl rfl .h3 .here ?_) rfl;refine Vm 2 ?_;rw [e1]
        exact QR (⟨j, at2, p2, ts2, cs ++ [x], fs, A1, c1, xs ++ q.v x, F, fc, ys, pack [ek, e]⟩ : BkS) (.cons .h1 (.cons .h2 (.cons .h2 (.cons .h2 (.cons .h2 (Pick.pack2 (.cons .h1 .p1)))))))
         ⟨hF, hp2, by show ts2.length < j; omega, by show (cs ++ [x]).length ≤ 240; rw [← e1]; omega, hfs, fun ns h => ⟨(he ns (h.1 _ (.tail _ (.head _)))).1.snoc ⟨q, rfl, hnm, hk ns (h.1 _ (.head _))⟩ rfl, (he ns (h.1 _ (.tail _ (.head _)))).2⟩⟩ (Nat.lt_succ_self _)
       ·skip;refine zW rfl rfl (zR cl20 rfl .k0 (fun m' hm he => card20 (n := ws.length) (hT.mono hm) (hw.mono hm) hcap hnx (by omega)) rfl ?_ ?_) rfl
        ·rintro _ _ ⟨e', a', h1, rfl⟩;rw [h1] at hF;refine zU ?_;refine zH ?_;refine zU ?_;exact xS hl2 [_, _] (Pick.app (.cons .h1 .p0)) ⟨⟨rfl, rfl, trivial⟩, e', a', _, _, _, _, hF.symm, rfl, rfl⟩
        rintro _ _ ⟨x, ts2, at2, p2, q, ek, h1, hp2, h200, rfl, rfl, hnm, hwt, hk⟩;rw [h1] at hF;dsimp only [R.bind] at hF;have hlx := (ZR (parts := cardWt) (n := ws.length) (at_ := (hd ts).at_) (ts := ts.tail) (by omega)).2 _ _ h1;clear h1;have e1 : cs.length + 1 = (cs ++ [x]).length := by simp
        refine Vl 0 rfl sg23 .h2 ?_;refine z1 rfl (zQ sl23 rfl rfl rfl rfl (fun b4 => ?_)) rfl;refine zW rfl rfl (yg sl23 rfl rfl rfl rfl .here (fun _ _ => .h5) rfl rfl (by first | omega | (simp only [maxLen]; omega)) (by omega) rfl (fun A1 c1 => ?_)) rfl;refine vt 1 ?_;refine zW rfl rfl (yB co23 rfl rfl rfl .h3 .here ?_) rfl;refine Vm 2 ?_;rw [e1]
        exact QR (⟨j, at2, p2, ts2, cs ++ [x], fs, A1, c1, xs ++ q.v x, F, fc, ys, pack [ek, e]⟩ : BkS) (.cons .h1 (.cons .h2 (.cons .h2 (.cons .h2 (.cons .h2 (Pick.pack2 (.cons .h1 .p1)))))))
         ⟨hF, hp2, by show ts2.length < j; omega, by show (cs ++ [x]).length ≤ 240; rw [← e1]; omega, hfs, fun ns h => ⟨(he ns (h.1 _ (.tail _ (.head _)))).1.snoc ⟨q, rfl, hnm, hk ns (h.1 _ (.head _))⟩ rfl, (he ns (h.1 _ (.tail _ (.head _)))).2⟩⟩ (Nat.lt_succ_self _)
      rw [if_neg (fun h => hf0 h.2)] at hF;refine vr 2 ?_;refine Lb 1 sg24 .h1 ?_;refine cfo 8 ?_;refine C1 cl18 rfl .here (fun m' hm he => is18 (s := sFormat) (hw.mono hm) hp (asc _ rfl) (by decide)) ?_;rintro _ _ ⟨rfl, rfl⟩;cases hkf : isW sFormat ts with
      | true =>
        rw [if_pos hkf] at hF;have hnx := hp.isW hkf
        have htl : ts.tail.length + 1 = ts.length := by
         have := hnx.len;omega
        by_cases h240 : fs.length = 240
        ·rw [if_pos h240] at hF;refine vr 8 ?_;refine Lb 1 sg24 .h1 ?_;refine cto 5 ?_;refine Cp cl19 rfl .k0 (fun m' hm he => bad19 3 (hw.mono hm) hp) ?_ ?_
         ·rintro _ _ rfl;refine zU ?_;refine zH ?_;refine zU ?_;exact xS hl2 [_, _] (Pick.app (.cons .h1 .p0)) ⟨⟨rfl, rfl, trivial⟩, 3, _, _, _, _, _, hF.symm, rfl, rfl⟩
         ·rintro _ _ h;exact h.elim
        rw [if_neg h240] at hF;skip;refine vr 8 ?_;refine Lb 1 sg24 .h1 ?_;refine cfo 10 ?_;refine Lb 0 sg3 .here ?_;refine Pa 2 ?_;refine Sr 2 co3 .here .h1 ?_
        refine vQ (.step 0 .pure (.step 2 .pure (.step 3 .pure (.fork (.step 1 .kept (.step 4 .wild (.step 5 .kept (.step 6 .wild (.step 7 .pure (.step 8 .wild (.done))))))) (.step 4 .wild (.step 1 .read (.step 5 .kept (.step 6 .wild (.step 7 .pure (.step 8 .wild (.done))))))))))) mixed (by kernel_rfl) 3 (by kernel_rfl) (fun _ _ _ _ hd hq => hQk hd hq) ?_;refine vt 3 ?_;refine wW ?_ ?_
        refine xp rfl (zZ sg24 rfl .h1 rfl) rfl rfl rfl ?_
        ·refine zW rfl rfl (zR cl21 rfl .k0 (fun m' hm he => format21 (n := ws.length) (hT.mono hm) (hw.mono hm) hnx (by omega)) rfl ?_ ?_) rfl
         ·rintro _ _ ⟨e', a', h1, rfl⟩;rw [h1] at hF;refine zU ?_;refine zH ?_;refine zU ?_;exact xS hl2 [_, _] (Pick.app (.cons .h1 .p0)) ⟨⟨rfl, rfl, trivial⟩, e', a', _, _, _, _, hF.symm, rfl, rfl⟩
         rintro _ _ ⟨x, ts2, at2, p2, q, ek, h1, hp2, h200, rfl, rfl, hok, hk⟩;rw [h1] at hF;dsimp only [R.bind] at hF;have hlx := (qb (n := ws.length) (at_ := (hd ts).at_) (ts := ts.tail) (by omega)).2 _ _ h1;clear h1;have e1 : fs.length + 1 = (fs ++ [x]).length := by simp
         refine z1 rfl (zQ sl24 rfl rfl rfl rfl (fun b4 => ?_)) rfl;refine zW rfl rfl (yg sl24 rfl rfl rfl rfl .here (fun _ _ => .h6) rfl rfl (by first | omega | (simp only [maxLen]; omega)) (by omega) rfl (fun A1 c1 => ?_)) rfl;refine vt 1 ?_;refine zW rfl rfl (yB co24 rfl rfl rfl .h3 .h1 ?_) rfl;refine Vm 2 ?_;rw [e1]
         exact QR (⟨j, at2, p2, ts2, cs, fs ++ [x], K, kc, xs, A1, c1, ys ++ q.v x, pack [ek, e]⟩ : BkS) (.cons .h1 (.cons .h2 (.cons .h2 (.cons .h2 (.cons .h2 (Pick.pack2 (.cons .h1 .p1)))))))
          ⟨hF, hp2, by show ts2.length < j; omega, hcs, by show (fs ++ [x]).length ≤ 240; rw [← e1]; omega, fun ns h => ⟨(he ns (h.1 _ (.tail _ (.head _)))).1, (he ns (h.1 _ (.tail _ (.head _)))).2.snoc ⟨q, rfl, hok, hk ns (h.1 _ (.head _))⟩ rfl⟩⟩ (Nat.lt_succ_self _)
        ·skip;refine zW rfl rfl (zR cl21 rfl .k0 (fun m' hm he => format21 (n := ws.length) (hT.mono hm) (hw.mono hm) hnx (by omega)) rfl ?_ ?_) rfl
         ·rintro _ _ ⟨e', a', h1, rfl⟩;rw [h1] at hF;refine zU ?_;refine zH ?_;refine zU ?_;exact xS hl2 [_, _] (Pick.app (.cons .h1 .p0)) ⟨⟨rfl, rfl, trivial⟩, e', a', _, _, _, _, hF.symm, rfl, rfl⟩
         rintro _ _ ⟨x, ts2, at2, p2, q, ek, h1, hp2, h200, rfl, rfl, hok, hk⟩;rw [h1] at hF;dsimp only [R.bind] at hF;have hlx := (qb (n := ws.length) (at_ := (hd ts).at_) (ts := ts.tail) (by omega)).2 _ _ h1;clear h1;have e1 : fs.length + 1 = (fs ++ [x]).length := by simp
         refine Vl 0 rfl sg24 .h2 ?_;refine z1 rfl (zQ sl24 rfl rfl rfl rfl (fun b4 => ?_)) rfl;refine zW rfl rfl (yg sl24 rfl rfl rfl rfl .here (fun _ _ => .h6) rfl rfl (by first | omega | (simp only [maxLen]; omega)) (by omega) rfl (fun A1 c1 => ?_)) rfl;refine vt 1 ?_;refine zW rfl rfl (yB co24 rfl rfl rfl .h3 .h1 ?_) rfl;refine Vm 2 ?_;rw [e1]
         exact QR (⟨j, at2, p2, ts2, cs, fs ++ [x], K, kc, xs, A1, c1, ys ++ q.v x, pack [ek, e]⟩ : BkS) (.cons .h1 (.cons .h2 (.cons .h2 (.cons .h2 (.cons .h2 (Pick.pack2 (.cons .h1 .p1)))))))
          ⟨hF, hp2, by show ts2.length < j; omega, hcs, by show (fs ++ [x]).length ≤ 240; rw [← e1]; omega, fun ns h => ⟨(he ns (h.1 _ (.tail _ (.head _)))).1, (he ns (h.1 _ (.tail _ (.head _)))).2.snoc ⟨q, rfl, hok, hk ns (h.1 _ (.head _))⟩ rfl⟩⟩ (Nat.lt_succ_self _)
      | false =>
        rw [if_neg (by rw [hkf]; decide)] at hF;refine vr 6 ?_;refine Cp cl19 rfl .k0 (fun m' hm he => bad19 120 (hw.mono hm) hp) ?_ ?_
        ·rintro _ _ rfl;refine zU ?_;refine zH ?_;refine zU ?_;exact xS hl2 [_, _] (Pick.app (.cons .h1 .p0)) ⟨⟨rfl, rfl, trivial⟩, 120, _, _, _, _, _, hF.symm, rfl, rfl⟩
        ·rintro _ _ h;exact h.elim
    | false =>
      rw [if_neg (fun h => by rw [hkc] at h; cases h.1)] at hF;refine vr 13 ?_;refine C1 cl18 rfl .here (fun m' hm he => is18 (s := sFormat) (hw.mono hm) hp (asc _ rfl) (by decide)) ?_;rintro _ _ ⟨rfl, rfl⟩;cases hkf : isW sFormat ts with
      | true =>
        rw [if_pos hkf] at hF;have hnx := hp.isW hkf
        have htl : ts.tail.length + 1 = ts.length := by
         have := hnx.len;omega
        by_cases h240 : fs.length = 240
        ·rw [if_pos h240] at hF;refine vr 8 ?_;refine Lb 1 sg24 .h1 ?_;refine cto 5 ?_;refine Cp cl19 rfl .k0 (fun m' hm he => bad19 3 (hw.mono hm) hp) ?_ ?_
         ·rintro _ _ rfl;refine zU ?_;refine zH ?_;refine zU ?_;exact xS hl2 [_, _] (Pick.app (.cons .h1 .p0)) ⟨⟨rfl, rfl, trivial⟩, 3, _, _, _, _, _, hF.symm, rfl, rfl⟩
         ·rintro _ _ h;exact h.elim
        rw [if_neg h240] at hF;skip;refine vr 8 ?_;refine Lb 1 sg24 .h1 ?_;refine cfo 10 ?_;refine Lb 0 sg3 .here ?_;refine Pa 2 ?_;refine Sr 2 co3 .here .h1 ?_
        refine vQ (.step 0 .pure (.step 2 .pure (.step 3 .pure (.fork (.step 1 .kept (.step 4 .wild (.step 5 .kept (.step 6 .wild (.step 7 .pure (.step 8 .wild (.done))))))) (.step 4 .wild (.step 1 .read (.step 5 .kept (.step 6 .wild (.step 7 .pure (.step 8 .wild (.done))))))))))) mixed (by kernel_rfl) 3 (by kernel_rfl) (fun _ _ _ _ hd hq => hQk hd hq) ?_;refine vt 3 ?_;refine wW ?_ ?_
        refine xp rfl (zZ sg24 rfl .h1 rfl) rfl rfl rfl ?_
        ·refine zW rfl rfl (zR cl21 rfl .k0 (fun m' hm he => format21 (n := ws.length) (hT.mono hm) (hw.mono hm) hnx (by omega)) rfl ?_ ?_) rfl
         ·rintro _ _ ⟨e', a', h1, rfl⟩;rw [h1] at hF;refine zU ?_;refine zH ?_;refine zU ?_;exact xS hl2 [_, _] (Pick.app (.cons .h1 .p0)) ⟨⟨rfl, rfl, trivial⟩, e', a', _, _, _, _, hF.symm, rfl, rfl⟩
         rintro _ _ ⟨x, ts2, at2, p2, q, ek, h1, hp2, h200, rfl, rfl, hok, hk⟩;rw [h1] at hF;dsimp only [R.bind] at hF;have hlx := (qb (n := ws.length) (at_ := (hd ts).at_) (ts := ts.tail) (by omega)).2 _ _ h1;clear h1;have e1 : fs.length + 1 = (fs ++ [x]).length := by simp
         refine z1 rfl (zQ sl24 rfl rfl rfl rfl (fun b4 => ?_)) rfl;refine zW rfl rfl (yg sl24 rfl rfl rfl rfl .here (fun _ _ => .h6) rfl rfl (by first | omega | (simp only [maxLen]; omega)) (by omega) rfl (fun A1 c1 => ?_)) rfl;refine vt 1 ?_;refine zW rfl rfl (yB co24 rfl rfl rfl .h3 .h1 ?_) rfl;refine Vm 2 ?_;rw [e1]
         exact QR (⟨j, at2, p2, ts2, cs, fs ++ [x], K, kc, xs, A1, c1, ys ++ q.v x, pack [ek, e]⟩ : BkS) (.cons .h1 (.cons .h2 (.cons .h2 (.cons .h2 (.cons .h2 (Pick.pack2 (.cons .h1 .p1)))))))
          ⟨hF, hp2, by show ts2.length < j; omega, hcs, by show (fs ++ [x]).length ≤ 240; rw [← e1]; omega, fun ns h => ⟨(he ns (h.1 _ (.tail _ (.head _)))).1, (he ns (h.1 _ (.tail _ (.head _)))).2.snoc ⟨q, rfl, hok, hk ns (h.1 _ (.head _))⟩ rfl⟩⟩ (Nat.lt_succ_self _)
        ·skip;refine zW rfl rfl (zR cl21 rfl .k0 (fun m' hm he => format21 (n := ws.length) (hT.mono hm) (hw.mono hm) hnx (by omega)) rfl ?_ ?_) rfl
         ·rintro _ _ ⟨e', a', h1, rfl⟩;rw [h1] at hF;refine zU ?_;refine zH ?_;refine zU ?_;exact xS hl2 [_, _] (Pick.app (.cons .h1 .p0)) ⟨⟨rfl, rfl, trivial⟩, e', a', _, _, _, _, hF.symm, rfl, rfl⟩
         rintro _ _ ⟨x, ts2, at2, p2, q, ek, h1, hp2, h200, rfl, rfl, hok, hk⟩;rw [h1] at hF;dsimp only [R.bind] at hF;have hlx := (qb (n := ws.length) (at_ := (hd ts).at_) (ts := ts.tail) (by omega)).2 _ _ h1;clear h1;have e1 : fs.length + 1 = (fs ++ [x]).length := by simp
         refine Vl 0 rfl sg24 .h2 ?_;refine z1 rfl (zQ sl24 rfl rfl rfl rfl (fun b4 => ?_)) rfl;refine zW rfl rfl (yg sl24 rfl rfl rfl rfl .here (fun _ _ => .h6) rfl rfl (by first | omega | (simp only [maxLen]; omega)) (by omega) rfl (fun A1 c1 => ?_)) rfl;refine vt 1 ?_;refine zW rfl rfl (yB co24 rfl rfl rfl .h3 .h1 ?_) rfl;refine Vm 2 ?_;rw [e1]
         exact QR (⟨j, at2, p2, ts2, cs, fs ++ [x], K, kc, xs, A1, c1, ys ++ q.v x, pack [ek, e]⟩ : BkS) (.cons .h1 (.cons .h2 (.cons .h2 (.cons .h2 (.cons .h2 (Pick.pack2 (.cons .h1 .p1)))))))
          ⟨hF, hp2, by show ts2.length < j; omega, hcs, by show (fs ++ [x]).length ≤ 240; rw [← e1]; omega, fun ns h => ⟨(he ns (h.1 _ (.tail _ (.head _)))).1, (he ns (h.1 _ (.tail _ (.head _)))).2.snoc ⟨q, rfl, hok, hk ns (h.1 _ (.head _))⟩ rfl⟩⟩ (Nat.lt_succ_self _)
      | false =>
        rw [if_neg (by rw [hkf]; decide)] at hF;refine vr 6 ?_;refine Cp cl19 rfl .k0 (fun m' hm he => bad19 120 (hw.mono hm) hp) ?_ ?_
        ·rintro _ _ rfl;refine zU ?_;refine zH ?_;refine zU ?_;exact xS hl2 [_, _] (Pick.app (.cons .h1 .p0)) ⟨⟨rfl, rfl, trivial⟩, 120, _, _, _, _, _, hF.symm, rfl, rfl⟩
        ·rintro _ _ h;exact h.elim
   ·rintro e1 env' h' d' a' hq hag';have hdf : a'.defers = [dfr (.func 17) [ptr b2, ptr b3]] := hag'.defers
    have good : ∀ L', rGood b2 b3 s env' L' → ∀ h2 d2, HS m L' h2 → ∃ vs, RvsOk Tryz.prog env' h2 [.cell 2 26, .cell 3 29] vs ∧ ∃ v h' d', Ending.returned (tup vs) = .returned v ∧ W x0 h2 d2 = W x0 h' d' ∧ postS m (ReadPost (readP s)) v h' := by
     rintro L' ⟨hsub, bk, ts, K, kc, F, fc, e, hx, rfl, hcs, hfs, he⟩ h2 d2 hh;exact ⟨[_, _], RvsS.ok hh ⟨⟨_, _, _, _, hsub.1, .h1, .inr ⟨ag26, rfl⟩⟩, ⟨_, _, _, _, hsub.2.1, .here, .inr ⟨ag29, rfl⟩⟩, trivial⟩, _, h2, d2, rfl, rfl, _, .inl ⟨bk, ts, K, kc, F, fc, e, hx, rfl, rfl, hcs, hfs, he⟩, hh.tail.tail⟩
    have bad : ∀ e a : Int, Sub (rB b2 b3) env' → readP s = .bad e a → ∀ h2 d2, HS m [cel b3 [.int .i64 e, .int .i64 a] 29, cel b2 [.slice none 0 0, .slice none 0 0] 26] h2 → ∃ vs, RvsOk Tryz.prog env' h2 [.cell 2 26, .cell 3 29] vs ∧ ∃ v h' d', Ending.returned (tup vs) = .returned v ∧ W x0 h2 d2 = W x0 h' d' ∧ postS m (ReadPost (readP s)) v h' := by
     rintro e a hsub hx h2 d2 hh;exact ⟨[_, _], RvsS.ok hh ⟨⟨_, _, _, _, hsub.1, .h1, .inr ⟨ag26, rfl⟩⟩, ⟨_, _, _, _, hsub.2.1, .here, .inr ⟨ag29, rfl⟩⟩, trivial⟩, _, h2, d2, rfl, rfl, _, .inr ⟨e, a, hx, rfl, rfl⟩, hh.tail.tail⟩
    cases e1 with
    | normal =>
      obtain ⟨L', hp, hh⟩ := hq;show Leaves _ _ _ _ a'.defers _ _;rw [hdf];exact xl (post := fun _ L2 => L2 = L') (rs := [.cell 2 26, .cell 3 29]) rfl (by kernel_rfl) (by simp) rfl (VA hh) hag'.toAg (fun h2 d2 L2 e hs2 => by subst e; exact good _ hp h2 d2 hs2)
    | ret =>
      obtain ⟨L', hp, hh⟩ := hq;show Leaves _ _ _ _ a'.defers _ _;rw [hdf];exact xl (post := fun _ L2 => L2 = L') (rs := [.cell 2 26, .cell 3 29]) rfl (by kernel_rfl) (by simp) rfl (VA hh) hag'.toAg (fun h2 d2 L2 e hs2 => by subst e; exact good _ hp h2 d2 hs2)
    | panic c =>
      obtain ⟨v', L', rfl, ⟨hsub, e, a, v1, v2, v3, v4, hx, hv, rfl⟩, hh⟩ := hq;show Leaves _ _ _ _ a'.defers _ _;rw [hdf]
      exact xl (post := fun _ L2 => L2 = [cel b3 [.int .i64 e, .int .i64 a] 29, cel b2 [.slice none 0 0, .slice none 0 0] 26]) (rs := [.cell 2 26, .cell 3 29]) rfl (by kernel_rfl) (by simp) rfl (D17_pan hv hh) hag'.toAg (fun h2 d2 L2 e' hs2 => by subst e'; exact bad e a hsub hx h2 d2 hs2)
    | exit i => exact hq.elim
    | goto i => exact hq.elim
    | outgrown => exact hq.elim
end
section
open Wd Tp Kd
variable {m : Mp}
theorem vT {m : Mp} {A : Option Addr} {c : Nat} {xs : List (List UInt8)} (hx : RdN m A c xs) (hb : ∀ s ∈ xs, nameP s = true) (hn : xs.length ≤ 1000000000) : CS Tryz.prog 89 [.slice A xs.length c, .string (bs [44, 32])] m [] (Gives (.string (bs (Lib.join xs [44, 32])))) := by
 have h1 := vF (k := 40) (sep := [44, 32]) (l := xs) (fun s hs => zx (hb s hs));have h2 : xs.length * (40 + [44, (32 : UInt8)].length) = xs.length * 42 := rfl;exact Join_ok hx.1 hx.2 (by omega) (by omega)
theorem qq {n : Int} (h : smallB n = true) : 0 ≤ n ∧ n ≤ 999 := of_decide_eq_true h
theorem qA {w : List UInt8} (n : Int) (hw : w.length ≤ 10) : (ruleT w n).length ≤ 20 := by
 have := zf n;unfold ruleT
 split <;> simp only [List.length_append, List.length_cons, List.length_nil] <;> omega
theorem vz {w : List UInt8} {l : List (List UInt8)} (hw : w.length ≤ 10) (hb : ∀ s ∈ l, nameP s = true) (hn : l.length ≤ 1000000000) : (namesT w l).length ≤ 43000000000 := by
 have h1 := vF (k := 40) (sep := [44, 32]) (l := l) (fun s hs => zx (hb s hs));have h2 : l.length * (40 + [44, (32 : UInt8)].length) = l.length * 42 := rfl;unfold namesT
 split <;> simp only [List.length_append, List.length_cons, List.length_nil] <;> omega
inductive FrI (H : List UInt8) (f : FmtT) : Nat → List UInt8 → Prop
 | z {l : List UInt8} (hl : l = H) : FrI H f 0 l
 | a {l : List UInt8} (hl : l = H ++ ruleT sLeast f.least) : FrI H f 1 l
 | b {l : List UInt8} (hl : l = H ++ ruleT sLeast f.least ++ ruleT sMost f.most) : FrI H f 2 l
 | e {l : List UInt8} (hl : l = H ++ ruleT sLeast f.least ++ ruleT sMost f.most ++ ruleT sCopies f.copies) : FrI H f 3 l
theorem FrI.len {H : List UInt8} {f : FmtT} {i : Nat} {l : List UInt8} (h : FrI H f i l) : l.length ≤ H.length + 60 := by
 have h1 := qA (w := sLeast) f.least (by decide);have h2 := qA (w := sMost) f.most (by decide);have h3 := qA (w := sCopies) f.copies (by decide);cases h with
 | z hl => rw [hl]; omega
 | a hl => rw [hl]; simp only [List.length_append]; omega
 | b hl => rw [hl]; simp only [List.length_append]; omega
 | e hl => rw [hl]; simp only [List.length_append]; omega
inductive FnI (G : List UInt8) (f : FmtT) : Nat → List UInt8 → Prop
 | z {l : List UInt8} (hl : l = G) : FnI G f 0 l
 | a {l : List UInt8} (hb : ∀ s ∈ f.banned, nameP s = true) (hl : l = G ++ namesT sBanned f.banned) : FnI G f 1 l
 | b {l : List UInt8} (hb : ∀ s ∈ f.banned, nameP s = true) (hs : ∀ s ∈ f.single, nameP s = true) (hl : l = G ++ namesT sBanned f.banned ++ namesT sSingle f.single) : FnI G f 2 l
theorem FnI.len {G : List UInt8} {f : FmtT} {i : Nat} {l : List UInt8} (hs : FmtSm f) (h : FnI G f i l) : l.length ≤ G.length + 86000000000 := by
 cases h with
 | z hl => rw [hl]; omega
 | a hb hl => have := vz (w := sBanned) (by decide) hb hs.lb; rw [hl]; simp only [List.length_append]; omega
 | b hb hb2 hl => have := vz (w := sBanned) (by decide) hb hs.lb; have := vz (w := sSingle) (by decide) hb2 hs.ls; rw [hl]; simp only [List.length_append]; omega
theorem kI {w : List UInt8} {l : List (List UInt8)} (h : ¬ 0 < l.length) : namesT w l = [] := by unfold namesT; rw [if_pos (by omega)]
theorem xa {w : List UInt8} {l : List (List UInt8)} (h : 0 < l.length) : namesT w l = sSp ++ w ++ sSp ++ Lib.join l [44, 32] ++ [59, 10] := by unfold namesT; rw [if_neg (by omega)]
theorem qr {w : List UInt8} {n : Int} (h : n = 0) : ruleT w n = [] := by unfold ruleT; rw [if_pos h]
theorem yv {w : List UInt8} {n : Int} (h : ¬ n = 0) : ruleT w n = sSp ++ w ++ sSp ++ decP n ++ [59, 10] := by unfold ruleT; rw [if_neg h]
def numsF (f : FmtT) : List Int := [f.least, f.most, f.copies]
theorem k7 {f : FmtT} : (∀ x ∈ numsF f, smallB x = true) ↔ smallB f.least = true ∧ smallB f.most = true ∧ smallB f.copies = true := by
 unfold numsF
 simp
structure LpS where
 i : Nat
 l : List UInt8
theorem format37 (hT : TabI m) (hU : Tabs m) {f : FmtT} {q : FmtC} (hB : RdN m q.A q.ca f.banned) (hS : RdN m q.B q.cb f.single) (hs : FmtSm f) : TxC 37 [.agg (q.v f).toArray] m (fmtP f) := by
 have hnl := hs.name;skip;refine za [.tmp 2] Tryz.func37 rfl rfl rfl ?_;refine tr 2 ?_;refine Bx 4 rfl fun b1 => ?_;refine zG .here (fun ns hi _ hd1 => ?_);have hR : Rd (uni m ns) (some ⟨b1, 0, none⟩) (q.v f) := (Rd.blk hi).mono (zV hd1);have hlm : Le m (uni m ns) := zM _ _;clear hi hd1;generalize uni m ns = m8 at hR hlm;have hT := hT.mono hlm;have hU := hU.mono hlm
 have hB := hB.mono hlm;have hS := hS.mono hlm;have hc0 : mc m8 ⟨b1, 0, none⟩ = some (.string (bs f.name)) := hR.at_ (i := 0) rfl;have hc1 : mc m8 ⟨b1, 1, none⟩ = some (.int .i64 f.least) := hR.at_ (i := 1) rfl;have hc2 : mc m8 ⟨b1, 2, none⟩ = some (.int .i64 f.most) := hR.at_ (i := 2) rfl;have hc3 : mc m8 ⟨b1, 3, none⟩ = some (.int .i64 f.copies) := hR.at_ (i := 3) rfl
 have hc4 : mc m8 ⟨b1, 4, none⟩ = some (.slice q.A f.banned.length q.ca) := hR.at_ (i := 4) rfl;have hc5 : mc m8 ⟨b1, 5, none⟩ = some (.slice q.B f.single.length q.cb) := hR.at_ (i := 5) rfl;cases hnp : nameP f.name with
 | false =>
   refine tr 2 ?_;refine Lo 0 sg9 rfl hc0 ?_;refine Cr cl41 rfl (fun m' hm he => (xj (hU.mono hm) hnl)) ?_;rintro _ rfl;rw [hnp];skip;refine Mf fun _ => ?_;exact pW hlm ⟨jt (fun h => by rw [hnp] at h; exact absurd h.1 (by decide)), rfl⟩
 | true =>
 have hn40 := zx hnp;refine tr 2 ?_;refine Lo 0 sg9 rfl hc0 ?_;refine Cr cl41 rfl (fun m' hm he => (xj (hU.mono hm) hnl)) ?_;rintro _ rfl;rw [hnp];skip;refine Mt 5 ?_;refine Lo 1 sg3 rfl hc1 ?_;refine Lo 1 sg3 rfl hc2 ?_;refine Lo 0 sg3 rfl hc3 ?_;refine Bs 0 sl121 fun b2 => ?_
 refine Cp cl42 rfl .nil (fun m' hm he => numbers42 (l := numsF f) (Rd.blk (he _ (.head _))) (by show 3 ≤ 100; decide)) ?_ ?_
 ·rintro _ _ ⟨h1, rfl⟩;exact pW hlm ⟨jt (fun h => h1 (k7.2 ⟨h.2.1, h.2.2.1, h.2.2.2.1⟩)), rfl⟩
 rintro _ _ ⟨h1, rfl, rfl⟩;have hnm := k7.1 h1;have s1 := qq hnm.1;have s2 := qq hnm.2.1;have s3 := qq hnm.2.2;refine vr 5 ?_;refine Lo 0 sg9 rfl hc0 ?_;refine Ps 0 ?_;refine Ps 7 ?_;refine Lo 1 sg3 rfl hc1 ?_;refine Lo 1 sg3 rfl hc2 ?_;refine Lo 0 sg3 rfl hc3 ?_;refine Bs 5 sl121 fun b3 => ?_;refine zG .here (fun ns hi _ hd => ?_)
 have hR3 : Rd (uni m8 ns) (some ⟨b3, 0, none⟩) [.int .i64 f.least, .int .i64 f.most, .int .i64 f.copies] := (Rd.blk hi).mono (zV hd);have hl3 : Le m8 (uni m8 ns) := zM _ _;clear hi hd;have hlm := hlm.trans hl3;generalize uni m8 ns = m9 at hR3 hl3 hlm;have hT := hT.mono hl3;have hU := hU.mono hl3;have hB := hB.mono hl3;have hS := hS.mono hl3;have hc0 := zq hl3 hc0
 have hc1 := zq hl3 hc1;have hc2 := zq hl3 hc2;have hc3 := zq hl3 hc3;have hc4 := zq hl3 hc4;have hc5 := zq hl3 hc5;have hq0 : mc m9 ⟨b3, 0, none⟩ = some (.int .i64 f.least) := hR3.at_ (i := 0) rfl;have hq1 : mc m9 ⟨b3, 1, none⟩ = some (.int .i64 f.most) := hR3.at_ (i := 1) rfl;have hq2 : mc m9 ⟨b3, 2, none⟩ = some (.int .i64 f.copies) := hR3.at_ (i := 2) rfl
 refine zj (α := LpS) (fun y => [(1, ptr b1), (3, .string (bs y.l)), (32, .slice (some ⟨b3, 0, none⟩) 3 3), (33, .int .i64 (3 : Nat)), (34, .int .i64 (y.i : Nat))]) (fun _ => []) (fun y => FrI (sFormat ++ sSp ++ f.name ++ [32, 123, 10]) f y.i y.l) (fun y => 3 - y.i) ⟨0, _⟩ ⟨rfl, rfl, rfl, rfl, rfl, trivial⟩ (Pick.nil _) (.z (by simp)) ?_
 have hHl : (sFormat ++ sSp ++ f.name ++ [32, 123, 10]).length ≤ 60 := by simp only [List.length_append, List.length_cons, List.length_nil]; omega
 rintro ⟨i, l⟩ hI;dsimp only at hI;dsimp only;have hlen := hI.len;cases hI with
 | z hl =>
   by_cases h0 : f.least = 0
   ·refine tr 2 ?_;refine cto 11 ?_;refine pe 0 (zD ez121 rfl rfl (hR3.isSome (by simp <;> omega)) (by omega)) ?_;refine Lo 7 sg3 rfl hq0 ?_;refine cfo 7 ?_;refine Pa 2 ?_;exact QR (⟨1, l⟩ : LpS) (Pick.nil _) (.a (by rw [hl, qr h0] <;> simp)) (by dsimp only; omega)
   skip;refine tr 2 ?_;refine cto 11 ?_;refine pe 0 (zD ez121 rfl rfl (hR3.isSome (by simp <;> omega)) (by omega)) ?_;refine Lo 7 sg3 rfl hq0 ?_;refine cta 3 ?_;refine Db (sq [0, 2, 7] (.fork (sq [101, 3] (.fork (sq [104, 5, 6, 108, 9, 10, 11, 12] .done) (sq [108, 104, 5, 6, 9, 10, 11, 12] .done))) (sq [108, 101, 3, 104, 5, 6, 9, 10, 11, 12] .done))) ?_;refine vB 3 ?_
   refine zk ?_ ?_;refine zA rfl (zQ sl61 rfl rfl rfl rfl (fun b4 => ?_)) rfl;refine Vb 0 rfl (zD ez61 rfl rfl (hR3.isSome (by simp <;> omega)) (by omega)) ?_;refine zk ?_ ?_
   ·refine Ve 0 rfl ((zZ (b := b4) (i := 0) (l := [.string (bs [108, 101, 97, 115, 116]), .string (bs [109, 111, 115, 116]), .string (bs [99, 111, 112, 105, 101, 115])]) sg9 rfl .here rfl)) ?_;refine Vs 0 rfl ?_;refine Vs 0 rfl ?_;refine zA rfl (zl cl43 rfl (fun m' hm he => (z8 (hT.mono hm) (by omega) (by omega))) rfl ?_) rfl;rintro _ rfl;rw [zn s1.1 s1.2]
    have hd := zf f.least
    iterate 3 (refine Vs 0 rfl ?_)
    refine vB 1 ?_;refine Vn 3 ?_;refine Pa 2 ?_;exact z7 (⟨1, _⟩ : LpS) ⟨rfl, rfl, rfl, rfl, rfl, trivial⟩ (Pick.nil _) (.a (by rw [hl, yv h0] <;> simp)) (by dsimp only; omega)
   ·skip;refine zA rfl (zl cl43 rfl (fun m' hm he => (z8 (hT.mono hm) (by omega) (by omega))) rfl ?_) rfl;rintro _ rfl;rw [zn s1.1 s1.2];have hd := zf f.least;skip;refine Ve 0 rfl ((zZ (b := b4) (i := 0) (l := [.string (bs [108, 101, 97, 115, 116]), .string (bs [109, 111, 115, 116]), .string (bs [99, 111, 112, 105, 101, 115])]) sg9 rfl .here rfl)) ?_
    iterate 5 (refine Vs 0 rfl ?_)
    refine vB 1 ?_;refine Vn 3 ?_;refine Pa 2 ?_;exact z7 (⟨1, _⟩ : LpS) ⟨rfl, rfl, rfl, rfl, rfl, trivial⟩ (Pick.nil _) (.a (by rw [hl, yv h0] <;> simp)) (by dsimp only; omega)
   ·refine zA rfl (zl cl43 rfl (fun m' hm he => (z8 (hT.mono hm) (by omega) (by omega))) rfl ?_) rfl;rintro _ rfl;rw [zn s1.1 s1.2];have hd := zf f.least;refine zA rfl (zQ sl61 rfl rfl rfl rfl (fun b4 => ?_)) rfl;refine Vb 0 rfl (zD ez61 rfl rfl (hR3.isSome (by simp <;> omega)) (by omega)) ?_
    refine Ve 0 rfl ((zZ (b := b4) (i := 0) (l := [.string (bs [108, 101, 97, 115, 116]), .string (bs [109, 111, 115, 116]), .string (bs [99, 111, 112, 105, 101, 115])]) sg9 rfl .here rfl)) ?_
    iterate 5 (refine Vs 0 rfl ?_)
    refine vB 1 ?_;refine Vn 3 ?_;refine Pa 2 ?_;exact z7 (⟨1, _⟩ : LpS) ⟨rfl, rfl, rfl, rfl, rfl, trivial⟩ (Pick.nil _) (.a (by rw [hl, yv h0] <;> simp)) (by dsimp only; omega)
 | a hl =>
   by_cases h0 : f.most = 0
   ·refine tr 2 ?_;refine cto 11 ?_;refine pe 0 (zD ez121 rfl rfl (hR3.isSome (by simp <;> omega)) (by omega)) ?_;refine Lo 7 sg3 rfl hq1 ?_;refine cfo 7 ?_;refine Pa 2 ?_;exact QR (⟨2, l⟩ : LpS) (Pick.nil _) (.b (by rw [hl, qr h0] <;> simp)) (by dsimp only; omega)
   skip;refine tr 2 ?_;refine cto 11 ?_;refine pe 0 (zD ez121 rfl rfl (hR3.isSome (by simp <;> omega)) (by omega)) ?_;refine Lo 7 sg3 rfl hq1 ?_;refine cta 3 ?_;refine Db (sq [0, 2, 7] (.fork (sq [101, 3] (.fork (sq [104, 5, 6, 108, 9, 10, 11, 12] .done) (sq [108, 104, 5, 6, 9, 10, 11, 12] .done))) (sq [108, 101, 3, 104, 5, 6, 9, 10, 11, 12] .done))) ?_;refine vB 3 ?_
   refine zk ?_ ?_;refine zA rfl (zQ sl61 rfl rfl rfl rfl (fun b4 => ?_)) rfl;refine Vb 0 rfl (zD ez61 rfl rfl (hR3.isSome (by simp <;> omega)) (by omega)) ?_;refine zk ?_ ?_
   ·refine Ve 0 rfl ((zZ (b := b4) (i := 1) (l := [.string (bs [108, 101, 97, 115, 116]), .string (bs [109, 111, 115, 116]), .string (bs [99, 111, 112, 105, 101, 115])]) sg9 rfl .here rfl)) ?_;refine Vs 0 rfl ?_;refine Vs 0 rfl ?_;refine zA rfl (zl cl43 rfl (fun m' hm he => (z8 (hT.mono hm) (by omega) (by omega))) rfl ?_) rfl;rintro _ rfl;rw [zn s2.1 s2.2]
    have hd := zf f.most
    iterate 3 (refine Vs 0 rfl ?_)
    refine vB 1 ?_;refine Vn 3 ?_;refine Pa 2 ?_;exact z7 (⟨2, _⟩ : LpS) ⟨rfl, rfl, rfl, rfl, rfl, trivial⟩ (Pick.nil _) (.b (by rw [hl, yv h0] <;> simp)) (by dsimp only; omega)
   ·skip;refine zA rfl (zl cl43 rfl (fun m' hm he => (z8 (hT.mono hm) (by omega) (by omega))) rfl ?_) rfl;rintro _ rfl;rw [zn s2.1 s2.2];have hd := zf f.most;skip;refine Ve 0 rfl ((zZ (b := b4) (i := 1) (l := [.string (bs [108, 101, 97, 115, 116]), .string (bs [109, 111, 115, 116]), .string (bs [99, 111, 112, 105, 101, 115])]) sg9 rfl .here rfl)) ?_
    iterate 5 (refine Vs 0 rfl ?_)
    refine vB 1 ?_;refine Vn 3 ?_;refine Pa 2 ?_;exact z7 (⟨2, _⟩ : LpS) ⟨rfl, rfl, rfl, rfl, rfl, trivial⟩ (Pick.nil _) (.b (by rw [hl, yv h0] <;> simp)) (by dsimp only; omega)
   ·refine zA rfl (zl cl43 rfl (fun m' hm he => (z8 (hT.mono hm) (by omega) (by omega))) rfl ?_) rfl;rintro _ rfl;rw [zn s2.1 s2.2];have hd := zf f.most;refine zA rfl (zQ sl61 rfl rfl rfl rfl (fun b4 => ?_)) rfl;refine Vb 0 rfl (zD ez61 rfl rfl (hR3.isSome (by simp <;> omega)) (by omega)) ?_
    refine Ve 0 rfl ((zZ (b := b4) (i := 1) (l := [.string (bs [108, 101, 97, 115, 116]), .string (bs [109, 111, 115, 116]), .string (bs [99, 111, 112, 105, 101, 115])]) sg9 rfl .here rfl)) ?_
    iterate 5 (refine Vs 0 rfl ?_)
    refine vB 1 ?_;refine Vn 3 ?_;refine Pa 2 ?_;exact z7 (⟨2, _⟩ : LpS) ⟨rfl, rfl, rfl, rfl, rfl, trivial⟩ (Pick.nil _) (.b (by rw [hl, yv h0] <;> simp)) (by dsimp only; omega)
 | b hl =>
   by_cases h0 : f.copies = 0
   ·refine tr 2 ?_;refine cto 11 ?_;refine pe 0 (zD ez121 rfl rfl (hR3.isSome (by simp <;> omega)) (by omega)) ?_;refine Lo 7 sg3 rfl hq2 ?_;refine cfo 7 ?_;refine Pa 2 ?_;exact QR (⟨3, l⟩ : LpS) (Pick.nil _) (.e (by rw [hl, qr h0] <;> simp)) (by dsimp only; omega)
   skip;refine tr 2 ?_;refine cto 11 ?_;refine pe 0 (zD ez121 rfl rfl (hR3.isSome (by simp <;> omega)) (by omega)) ?_;refine Lo 7 sg3 rfl hq2 ?_;refine cta 3 ?_;refine Db (sq [0, 2, 7] (.fork (sq [101, 3] (.fork (sq [104, 5, 6, 108, 9, 10, 11, 12] .done) (sq [108, 104, 5, 6, 9, 10, 11, 12] .done))) (sq [108, 101, 3, 104, 5, 6, 9, 10, 11, 12] .done))) ?_;refine vB 3 ?_
   refine zk ?_ ?_;refine zA rfl (zQ sl61 rfl rfl rfl rfl (fun b4 => ?_)) rfl;refine Vb 0 rfl (zD ez61 rfl rfl (hR3.isSome (by simp <;> omega)) (by omega)) ?_;refine zk ?_ ?_
   ·refine Ve 0 rfl ((zZ (b := b4) (i := 2) (l := [.string (bs [108, 101, 97, 115, 116]), .string (bs [109, 111, 115, 116]), .string (bs [99, 111, 112, 105, 101, 115])]) sg9 rfl .here rfl)) ?_;refine Vs 0 rfl ?_;refine Vs 0 rfl ?_;refine zA rfl (zl cl43 rfl (fun m' hm he => (z8 (hT.mono hm) (by omega) (by omega))) rfl ?_) rfl;rintro _ rfl;rw [zn s3.1 s3.2]
    have hd := zf f.copies
    iterate 3 (refine Vs 0 rfl ?_)
    refine vB 1 ?_;refine Vn 3 ?_;refine Pa 2 ?_;exact z7 (⟨3, _⟩ : LpS) ⟨rfl, rfl, rfl, rfl, rfl, trivial⟩ (Pick.nil _) (.e (by rw [hl, yv h0] <;> simp)) (by dsimp only; omega)
   ·skip;refine zA rfl (zl cl43 rfl (fun m' hm he => (z8 (hT.mono hm) (by omega) (by omega))) rfl ?_) rfl;rintro _ rfl;rw [zn s3.1 s3.2];have hd := zf f.copies;skip;refine Ve 0 rfl ((zZ (b := b4) (i := 2) (l := [.string (bs [108, 101, 97, 115, 116]), .string (bs [109, 111, 115, 116]), .string (bs [99, 111, 112, 105, 101, 115])]) sg9 rfl .here rfl)) ?_
    iterate 5 (refine Vs 0 rfl ?_)
    refine vB 1 ?_;refine Vn 3 ?_;refine Pa 2 ?_;exact z7 (⟨3, _⟩ : LpS) ⟨rfl, rfl, rfl, rfl, rfl, trivial⟩ (Pick.nil _) (.e (by rw [hl, yv h0] <;> simp)) (by dsimp only; omega)
   ·refine zA rfl (zl cl43 rfl (fun m' hm he => (z8 (hT.mono hm) (by omega) (by omega))) rfl ?_) rfl;rintro _ rfl;rw [zn s3.1 s3.2];have hd := zf f.copies;refine zA rfl (zQ sl61 rfl rfl rfl rfl (fun b4 => ?_)) rfl;refine Vb 0 rfl (zD ez61 rfl rfl (hR3.isSome (by simp <;> omega)) (by omega)) ?_
    refine Ve 0 rfl ((zZ (b := b4) (i := 2) (l := [.string (bs [108, 101, 97, 115, 116]), .string (bs [109, 111, 115, 116]), .string (bs [99, 111, 112, 105, 101, 115])]) sg9 rfl .here rfl)) ?_
    iterate 5 (refine Vs 0 rfl ?_)
    refine vB 1 ?_;refine Vn 3 ?_;refine Pa 2 ?_;exact z7 (⟨3, _⟩ : LpS) ⟨rfl, rfl, rfl, rfl, rfl, trivial⟩ (Pick.nil _) (.e (by rw [hl, yv h0] <;> simp)) (by dsimp only; omega)
 | e hl =>
   skip;refine tr 2 ?_;refine cfo 6 ?_;refine zC ?_;refine zB ?_;refine qt 5 ?_;refine Lo 1 sg61 rfl hc4 ?_;refine Lo 0 sg61 rfl hc5 ?_;refine Bs 5 sl122 fun b4 => ?_;refine zG .here (fun ns hi _ hd => ?_);have hR4 : Rd (uni m9 ns) (some ⟨b4, 0, none⟩) [.slice q.A f.banned.length q.ca, .slice q.B f.single.length q.cb] := (Rd.blk hi).mono (zV hd)
   have hl4 : Le m9 (uni m9 ns) := zM _ _;clear hi hd;have hlm := hlm.trans hl4;generalize uni m9 ns = m10 at hR4 hl4 hlm;have hT := hT.mono hl4;have hU := hU.mono hl4;have hB := hB.mono hl4;have hS := hS.mono hl4;have hq0 : mc m10 ⟨b4, 0, none⟩ = some (.slice q.A f.banned.length q.ca) := hR4.at_ (i := 0) rfl
   have hq1 : mc m10 ⟨b4, 1, none⟩ = some (.slice q.B f.single.length q.cb) := hR4.at_ (i := 1) rfl;have hlb : f.banned.length ≤ 1000000000 := hs.lb;have hls : f.single.length ≤ 1000000000 := hs.ls
   refine zj (α := LpS) (fun y => [(1, ptr b1), (3, .string (bs y.l)), (58, .slice (some ⟨b4, 0, none⟩) 2 2), (59, .int .i64 (2 : Nat)), (60, .int .i64 (y.i : Nat))]) (fun _ => []) (fun y => FnI l f y.i y.l) (fun y => 2 - y.i) ⟨0, l⟩ ⟨rfl, rfl, rfl, rfl, rfl, trivial⟩ (Pick.nil _) (.z rfl) ?_;rintro ⟨i, l2⟩ hI;dsimp only at hI;dsimp only;have hlen2 := hI.len hs;cases hI with
   | z hl2 =>
     refine tr 2 ?_;refine cto 11 ?_;refine pe 0 (zD ez122 rfl rfl (hR4.isSome (by simp <;> omega)) (by omega)) ?_;refine Lo 13 sg61 rfl hq0 ?_
     refine zj (α := Nat) (fun j => [(1, ptr b1), (3, .string (bs l2)), (6, .int .i64 (0 : Nat)), (7, .slice q.A f.banned.length q.ca), (58, .slice (some ⟨b4, 0, none⟩) 2 2), (59, .int .i64 (2 : Nat)), (60, .int .i64 (0 : Nat)), (65, .slice q.A f.banned.length q.ca), (66, .int .i64 (f.banned.length : Nat)), (67, .int .i64 (j : Nat))]) (fun _ => []) (fun j => j ≤ f.banned.length ∧ ∀ s ∈ f.banned.take j, nameP s = true) (fun j => f.banned.length - j) 0 ⟨rfl, rfl, rfl, rfl, rfl, rfl, rfl, rfl, rfl, rfl, trivial⟩ (Pick.nil _) ⟨Nat.zero_le _, fun s h => by simp at h⟩ ?_
     rintro j ⟨hj, hok⟩;by_cases hlt : j < f.banned.length
     ·have hA : q.A.isSome = true := hB.1.isSome (by rw [List.length_map]; omega);have hcx := hB.1.at_ (show (f.banned.map strV)[j]? = some (strV f.banned[j]) by simp [hlt]);have hmem : f.banned[j] ∈ f.banned := List.getElem_mem hlt;have htl := hs.b _ hmem
      have hnx : nameP f.banned[j] = true → ∀ s ∈ f.banned.take (j + 1), nameP s = true := fun h s hx => by
       rw [List.take_add_one, List.getElem?_eq_getElem hlt] at hx;rcases List.mem_append.1 hx with hx | hx
       ·exact hok s hx
       ·simp at hx; rw [hx]; exact h
      generalize f.banned[j] = t at hcx hmem htl hnx;refine tr 2 ?_;refine cto 10 ?_;refine pe 0 (zD ez61 rfl rfl hA (by omega)) ?_;refine Lo 5 sg9 rfl hcx ?_;refine Cr cl41 rfl (fun m' hm he => (xj (hU.mono hm) htl)) ?_;rintro _ rfl;cases hnt : nameP t with
      | false =>
        skip;refine Cn cl33 rfl must33 ?_ ?_
        ·rintro _ _ ⟨h1, rfl⟩;refine zU ?_;refine zH ?_;refine zU ?_;refine zH ?_;exact pW hlm ⟨jt (fun h => by have h1 := List.all_eq_true.1 h.2.2.2.2.1 _ hmem; rw [hnt] at h1; exact absurd h1 (by decide)), rfl⟩
        rintro _ _ ⟨h1, rfl, rfl⟩;cases h1
      | true =>
        skip;refine Mt 4 ?_;refine Pa 2 ?_;exact QR (j + 1) (Pick.nil _) ⟨hlt, hnx hnt⟩ (by omega)
     have hj2 : j = f.banned.length := by omega
     subst hj2;rw [List.take_length] at hok;have hall := hok;have hjl := vF (k := 40) (sep := [44, 32]) (l := f.banned) (fun s hs => zx (hall s hs));have hjl : (Lib.join f.banned [44, 32]).length ≤ f.banned.length * 42 := hjl;by_cases hl0 : 0 < f.banned.length
     rotate_left
     ·refine tr 2 ?_;refine cfo 6 ?_;refine zC ?_;refine zB ?_;refine qt 5 ?_;refine cfo 7 ?_;refine Pa 2 ?_;exact QR (⟨1, l2⟩ : LpS) (Pick.nil _) (.a hall (by rw [hl2, kI hl0] <;> simp)) (by dsimp only; omega)
     skip;refine tr 2 ?_;refine cfo 6 ?_;refine zC ?_;refine zB ?_;refine qt 5 ?_;refine cto 3 ?_;refine Db (sq [0, 2, 7] (.fork (sq [101, 3] (.fork (sq [104, 5, 6, 108, 9, 10, 11, 12] .done) (sq [108, 104, 5, 6, 9, 10, 11, 12] .done))) (sq [108, 101, 3, 104, 5, 6, 9, 10, 11, 12] .done))) ?_;refine vB 3 ?_;refine zk ?_ ?_
     refine zA rfl (zQ sl61 rfl rfl rfl rfl (fun b5 => ?_)) rfl;refine Vb 0 rfl (zD ez61 rfl rfl (hR4.isSome (by simp <;> omega)) (by omega)) ?_;refine zk ?_ ?_
     ·refine Ve 0 rfl ((zZ (b := b5) (i := 0) (l := [.string (bs [98, 97, 110, 110, 101, 100]), .string (bs [115, 105, 110, 103, 108, 101])]) sg9 rfl .here rfl)) ?_;refine Vs 0 rfl ?_;refine Vs 0 rfl ?_;refine zA rfl (zl cl89 rfl (fun m' hm he => (vT (hB.mono hm) hall hlb)) rfl ?_) rfl;rintro _ rfl
      iterate 3 (refine Vs 0 rfl ?_)
      refine vB 1 ?_;refine Vn 3 ?_;refine Pa 2 ?_;exact z7 (⟨1, _⟩ : LpS) ⟨rfl, rfl, rfl, rfl, rfl, trivial⟩ (Pick.nil _) (.a hall (by rw [hl2, xa hl0] <;> simp)) (by dsimp only; omega)
     ·skip;refine zA rfl (zl cl89 rfl (fun m' hm he => (vT (hB.mono hm) hall hlb)) rfl ?_) rfl;rintro _ rfl;skip;refine Ve 0 rfl ((zZ (b := b5) (i := 0) (l := [.string (bs [98, 97, 110, 110, 101, 100]), .string (bs [115, 105, 110, 103, 108, 101])]) sg9 rfl .here rfl)) ?_
      iterate 5 (refine Vs 0 rfl ?_)
      refine vB 1 ?_;refine Vn 3 ?_;refine Pa 2 ?_;exact z7 (⟨1, _⟩ : LpS) ⟨rfl, rfl, rfl, rfl, rfl, trivial⟩ (Pick.nil _) (.a hall (by rw [hl2, xa hl0] <;> simp)) (by dsimp only; omega)
     ·refine zA rfl (zl cl89 rfl (fun m' hm he => (vT (hB.mono hm) hall hlb)) rfl ?_) rfl;rintro _ rfl;refine zA rfl (zQ sl61 rfl rfl rfl rfl (fun b5 => ?_)) rfl;refine Vb 0 rfl (zD ez61 rfl rfl (hR4.isSome (by simp <;> omega)) (by omega)) ?_
      refine Ve 0 rfl ((zZ (b := b5) (i := 0) (l := [.string (bs [98, 97, 110, 110, 101, 100]), .string (bs [115, 105, 110, 103, 108, 101])]) sg9 rfl .here rfl)) ?_
      iterate 5 (refine Vs 0 rfl ?_)
      refine vB 1 ?_;refine Vn 3 ?_;refine Pa 2 ?_;exact z7 (⟨1, _⟩ : LpS) ⟨rfl, rfl, rfl, rfl, rfl, trivial⟩ (Pick.nil _) (.a hall (by rw [hl2, xa hl0] <;> simp)) (by dsimp only; omega)
   | a hbn hl2 =>
     refine tr 2 ?_;refine cto 11 ?_;refine pe 0 (zD ez122 rfl rfl (hR4.isSome (by simp <;> omega)) (by omega)) ?_;refine Lo 13 sg61 rfl hq1 ?_
     refine zj (α := Nat) (fun j => [(1, ptr b1), (3, .string (bs l2)), (6, .int .i64 (1 : Nat)), (7, .slice q.B f.single.length q.cb), (58, .slice (some ⟨b4, 0, none⟩) 2 2), (59, .int .i64 (2 : Nat)), (60, .int .i64 (1 : Nat)), (65, .slice q.B f.single.length q.cb), (66, .int .i64 (f.single.length : Nat)), (67, .int .i64 (j : Nat))]) (fun _ => []) (fun j => j ≤ f.single.length ∧ ∀ s ∈ f.single.take j, nameP s = true) (fun j => f.single.length - j) 0 ⟨rfl, rfl, rfl, rfl, rfl, rfl, rfl, rfl, rfl, rfl, trivial⟩ (Pick.nil _) ⟨Nat.zero_le _, fun s h => by simp at h⟩ ?_
     rintro j ⟨hj, hok⟩;by_cases hlt : j < f.single.length
     ·have hA : q.B.isSome = true := hS.1.isSome (by rw [List.length_map]; omega);have hcx := hS.1.at_ (show (f.single.map strV)[j]? = some (strV f.single[j]) by simp [hlt]);have hmem : f.single[j] ∈ f.single := List.getElem_mem hlt;have htl := hs.s _ hmem
      have hnx : nameP f.single[j] = true → ∀ s ∈ f.single.take (j + 1), nameP s = true := fun h s hx => by
       rw [List.take_add_one, List.getElem?_eq_getElem hlt] at hx;rcases List.mem_append.1 hx with hx | hx
       ·exact hok s hx
       ·simp at hx; rw [hx]; exact h
      generalize f.single[j] = t at hcx hmem htl hnx;refine tr 2 ?_;refine cto 10 ?_;refine pe 0 (zD ez61 rfl rfl hA (by omega)) ?_;refine Lo 5 sg9 rfl hcx ?_;refine Cr cl41 rfl (fun m' hm he => (xj (hU.mono hm) htl)) ?_;rintro _ rfl;cases hnt : nameP t with
      | false =>
        skip;refine Cn cl33 rfl must33 ?_ ?_
        ·rintro _ _ ⟨h1, rfl⟩;refine zU ?_;refine zH ?_;refine zU ?_;refine zH ?_;exact pW hlm ⟨jt (fun h => by have h1 := List.all_eq_true.1 h.2.2.2.2.2 _ hmem; rw [hnt] at h1; exact absurd h1 (by decide)), rfl⟩
        rintro _ _ ⟨h1, rfl, rfl⟩;cases h1
      | true =>
        skip;refine Mt 4 ?_;refine Pa 2 ?_;exact QR (j + 1) (Pick.nil _) ⟨hlt, hnx hnt⟩ (by omega)
     have hj2 : j = f.single.length := by omega
     subst hj2;rw [List.take_length] at hok;have hall := hok;have hjl := vF (k := 40) (sep := [44, 32]) (l := f.single) (fun s hs => zx (hall s hs));have hjl : (Lib.join f.single [44, 32]).length ≤ f.single.length * 42 := hjl;by_cases hl0 : 0 < f.single.length
     rotate_left
     ·refine tr 2 ?_;refine cfo 6 ?_;refine zC ?_;refine zB ?_;refine qt 5 ?_;refine cfo 7 ?_;refine Pa 2 ?_;exact QR (⟨2, l2⟩ : LpS) (Pick.nil _) (.b hbn hall (by rw [hl2, kI hl0] <;> simp)) (by dsimp only; omega)
     skip;refine tr 2 ?_;refine cfo 6 ?_;refine zC ?_;refine zB ?_;refine qt 5 ?_;refine cto 3 ?_;refine Db (sq [0, 2, 7] (.fork (sq [101, 3] (.fork (sq [104, 5, 6, 108, 9, 10, 11, 12] .done) (sq [108, 104, 5, 6, 9, 10, 11, 12] .done))) (sq [108, 101, 3, 104, 5, 6, 9, 10, 11, 12] .done))) ?_;refine vB 3 ?_;refine zk ?_ ?_
     refine zA rfl (zQ sl61 rfl rfl rfl rfl (fun b5 => ?_)) rfl;refine Vb 0 rfl (zD ez61 rfl rfl (hR4.isSome (by simp <;> omega)) (by omega)) ?_;refine zk ?_ ?_
     ·refine Ve 0 rfl ((zZ (b := b5) (i := 1) (l := [.string (bs [98, 97, 110, 110, 101, 100]), .string (bs [115, 105, 110, 103, 108, 101])]) sg9 rfl .here rfl)) ?_;refine Vs 0 rfl ?_;refine Vs 0 rfl ?_;refine zA rfl (zl cl89 rfl (fun m' hm he => (vT (hS.mono hm) hall hls)) rfl ?_) rfl;rintro _ rfl
      iterate 3 (refine Vs 0 rfl ?_)
      refine vB 1 ?_;refine Vn 3 ?_;refine Pa 2 ?_;exact z7 (⟨2, _⟩ : LpS) ⟨rfl, rfl, rfl, rfl, rfl, trivial⟩ (Pick.nil _) (.b hbn hall (by rw [hl2, xa hl0] <;> simp)) (by dsimp only; omega)
     ·skip;refine zA rfl (zl cl89 rfl (fun m' hm he => (vT (hS.mono hm) hall hls)) rfl ?_) rfl;rintro _ rfl;skip;refine Ve 0 rfl ((zZ (b := b5) (i := 1) (l := [.string (bs [98, 97, 110, 110, 101, 100]), .string (bs [115, 105, 110, 103, 108, 101])]) sg9 rfl .here rfl)) ?_
      iterate 5 (refine Vs 0 rfl ?_)
      refine vB 1 ?_;refine Vn 3 ?_;refine Pa 2 ?_;exact z7 (⟨2, _⟩ : LpS) ⟨rfl, rfl, rfl, rfl, rfl, trivial⟩ (Pick.nil _) (.b hbn hall (by rw [hl2, xa hl0] <;> simp)) (by dsimp only; omega)
     ·refine zA rfl (zl cl89 rfl (fun m' hm he => (vT (hS.mono hm) hall hls)) rfl ?_) rfl;rintro _ rfl;refine zA rfl (zQ sl61 rfl rfl rfl rfl (fun b5 => ?_)) rfl;refine Vb 0 rfl (zD ez61 rfl rfl (hR4.isSome (by simp <;> omega)) (by omega)) ?_
      refine Ve 0 rfl ((zZ (b := b5) (i := 1) (l := [.string (bs [98, 97, 110, 110, 101, 100]), .string (bs [115, 105, 110, 103, 108, 101])]) sg9 rfl .here rfl)) ?_
      iterate 5 (refine Vs 0 rfl ?_)
      refine vB 1 ?_;refine Vn 3 ?_;refine Pa 2 ?_;exact z7 (⟨2, _⟩ : LpS) ⟨rfl, rfl, rfl, rfl, rfl, trivial⟩ (Pick.nil _) (.b hbn hall (by rw [hl2, xa hl0] <;> simp)) (by dsimp only; omega)
   | b hbn hsn hl2 =>
     skip;refine tr 2 ?_;refine cfo 6 ?_;refine zC ?_;refine zB ?_;refine qt 4 ?_;refine Ps 4 ?_;exact rt4 hlm ⟨rfl, trivial⟩ ⟨_, by unfold fmtP; rw [if_pos ⟨hnp, hnm.1, hnm.2.1, hnm.2.2, List.all_eq_true.2 hbn, List.all_eq_true.2 hsn⟩], congrArg (fun t => Value.string (bs t)) (by rw [hl2, hl] <;> simp), rfl⟩
end
section
open Wd Tp Kd
variable {m : Mp}
def CardX (m : Mp) (vs : List Value) (c : CardT) : Prop := ∃ q : CardC, vs = q.v c ∧ EffsR m q.A c.played.length c.played ∧ EffsR m q.B c.dead.length c.dead ∧ EffsR m q.D c.dawn.length c.dawn
def FmtX (m : Mp) (vs : List Value) (f : FmtT) : Prop := ∃ q : FmtC, vs = q.v f ∧ RdN m q.A q.ca f.banned ∧ RdN m q.B q.cb f.single
theorem CardX.mono {m m' : Mp} {vs : List Value} {c : CardT} (h : CardX m vs c) (hl : Le m m') : CardX m' vs c := by
 obtain ⟨q, h1, h2, h3, h4⟩ := h;exact ⟨q, h1, h2.mono hl, h3.mono hl, h4.mono hl⟩
theorem FmtX.mono {m m' : Mp} {vs : List Value} {f : FmtT} (h : FmtX m vs f) (hl : Le m m') : FmtX m' vs f := by
 obtain ⟨q, h1, h2, h3⟩ := h;exact ⟨q, h1, h2.mono hl, h3.mono hl⟩
def CardsX (m : Mp) (A : Option Addr) (l : List CardT) : Prop := ∃ vs, Rd m A vs ∧ vs.length = l.length * 12 ∧ ∀ (i : Nat) (hi : i < l.length), CardX m ((vs.drop (i * 12)).take 12) l[i]
def FmtsX (m : Mp) (A : Option Addr) (l : List FmtT) : Prop := ∃ vs, Rd m A vs ∧ vs.length = l.length * 7 ∧ ∀ (i : Nat) (hi : i < l.length), FmtX m ((vs.drop (i * 7)).take 7) l[i]
theorem CardsX.mono {m m' : Mp} {A : Option Addr} {l : List CardT} (h : CardsX m A l) (hl : Le m m') : CardsX m' A l := by
 obtain ⟨vs, h1, h2, h3⟩ := h;exact ⟨vs, h1.mono hl, h2, fun i hi => (h3 i hi).mono hl⟩
theorem FmtsX.mono {m m' : Mp} {A : Option Addr} {l : List FmtT} (h : FmtsX m A l) (hl : Le m m') : FmtsX m' A l := by
 obtain ⟨vs, h1, h2, h3⟩ := h;exact ⟨vs, h1.mono hl, h2, fun i hi => (h3 i hi).mono hl⟩
theorem CardQ.x {m : Mp} {vs : List Value} {c : CardT} (h : CardQ m vs c) : CardX m vs c := by
 obtain ⟨q, h1, -, h2, h3, h4⟩ := h;exact ⟨q, h1, h2, h3, h4⟩
theorem FmtQ.x {m : Mp} {vs : List Value} {f : FmtT} (h : FmtQ m vs f) : FmtX m vs f := by
 obtain ⟨q, h1, -, h2, h3⟩ := h;exact ⟨q, h1, h2, h3⟩
theorem CardsQ.x {m : Mp} {A : Option Addr} {l : List CardT} (h : CardsQ m A l) : CardsX m A l := by
 obtain ⟨vs, h1, h2, h3⟩ := h;exact ⟨vs, h1, h2, fun i hi => CardQ.x (h3 i hi)⟩
theorem FmtsQ.x {m : Mp} {A : Option Addr} {l : List FmtT} (h : FmtsQ m A l) : FmtsX m A l := by
 obtain ⟨vs, h1, h2, h3⟩ := h;exact ⟨vs, h1, h2, fun i hi => FmtQ.x (h3 i hi)⟩
theorem TxC.weak {f : FuncId} {args : List Value} {r : Option (List UInt8)} (h : TxC f args m r) : CSP Tryz.prog f args m [] (fun v L' => ∃ s, v = .string (bs s) ∧ r = some s ∧ L' = []) (fun v _ => r = none ∧ v = wrongV) := by
 have e : (fun (v : Value) (L' : List Ent) => ∃ s, v = .string (bs s) ∧ r = some s ∧ L' = []) = fun v L' => ∃ s, r = some s ∧ v = .string (bs s) ∧ L' = [] := by
  funext v L'
  refine propext ⟨fun ⟨s, h1, h2, h3⟩ => ⟨s, h2, h1, h3⟩, fun ⟨s, h1, h2, h3⟩ => ⟨s, h2, h1, h3⟩⟩
 rw [e];exact h
theorem Card14 (hT : TabI m) (hU : Tabs m) {c : CardT} {vs : List Value} (hx : CardX m vs c) (hs : CardSm c) : CS Tryz.prog 14 [.agg vs.toArray] m [] (Gives (okT (cardP c))) := by
 obtain ⟨q, rfl, hpl, hde, hda⟩ := hx;refine yI [.tmp 2, .tmp 3] Tryz.func14 rfl rfl rfl ?_;refine tr 2 ?_;refine Bx 5 rfl fun b1 => ?_;refine zG .here (fun ns hi _ hd1 => ?_);have hR : Rd (uni m ns) (some ⟨b1, 0, none⟩) (q.v c) := (Rd.blk hi).mono (zV hd1);have hl2 : Le m (uni m ns) := zM _ _;clear hi hd1;refine tr 2 ?_
 refine zE ((yK cl31 rfl (fun m' hm he => safe31 (g := 40) (q := [ptr b1]) (pre := []) (N := cardP c = none) (I := fun s L' => cardP c = some s ∧ L' = []) cl40 (fun m2 h2 => have hl := hl2.trans (hm.trans h2); (card40 (hT.mono hl) (hU.mono hl) (hR.mono (hm.trans h2)) (hpl.mono hl) (hde.mono hl) (hda.mono hl) hs).weak)) rfl ?_)) rfl;rintro _ _ hq
 rcases hq with ⟨s, rfl, hs, rfl⟩ | ⟨hs, rfl, rfl⟩
 ·rw [hs];dsimp only [okT];refine vr 7 ?_;exact uq hl2 [_, _] ⟨rfl, rfl, trivial⟩ [] (Pick.nil _) ⟨rfl, rfl⟩
 ·rw [hs];dsimp only [okT];refine vr 7 ?_;exact uq hl2 [_, _] ⟨rfl, rfl, trivial⟩ [] (Pick.nil _) ⟨rfl, rfl⟩
abbrev lgE (bl : Nat) (q : Bool) : Ent := cel bl [.bool q] 4
theorem put34 {bl bb c : Nat} {p : Value} {A : Option Addr} {l s : List UInt8} {q : Bool} (hp : PB bb p) (hA : Buf A l) (hl : l.length ≤ 65536) (hs : s.length ≤ 100000000000) :
  CS Tryz.prog 34 [.string (bs s), ptr bl, ptr bb] m (lgE bl q :: buL bb p A c l) (fun v L' => v = U0 ∧ (((q = true ∨ 65536 < l.length + s.length) ∧ L' = lgE bl true :: buL bb p A c l) ∨ (q = false ∧ l.length + s.length ≤ 65536 ∧ ∃ A' c', Buf A' (l ++ s) ∧ L' = lgE bl false :: buL bb (ptr bb) A' c' (l ++ s)))) := by
 refine yI [] Tryz.func34 rfl rfl rfl ?_;cases q with
 | true =>
   refine tr 2 ?_;refine Lb 7 sg4 .here ?_;refine Sr 4 co4 .here .here ?_;refine Lb 5 sg4 .here ?_;exact wr [] trivial [_, _, _] (Pick.refl _) ⟨rfl, .inl ⟨.inl rfl, rfl⟩⟩
 | false =>
   by_cases hlong : 65536 < l.length + s.length
   ·refine tr 2 ?_;refine Lb 1 sg4 .here ?_;refine zE ((ze cl35 rfl (.cons .h1 .k1) (fun m' hm he => Len35) rfl ?_)) rfl;rintro _ _ ⟨rfl, rfl⟩;refine vr 1 ?_;refine pe 0 (zg rfl st9) ?_;refine pe 0 (zi rfl rfl (by omega)) ?_;refine cto 1 ?_;refine Sr 4 co4 .h2 .here ?_;refine Lb 5 sg4 .h2 ?_;exact wr [] trivial [_, _, _] (.cons .h2 .pp) ⟨rfl, .inl ⟨.inr hlong, rfl⟩⟩
   ·refine tr 2 ?_;refine Lb 1 sg4 .here ?_;refine zE ((ze cl35 rfl (.cons .h1 .k1) (fun m' hm he => Len35) rfl ?_)) rfl;rintro _ _ ⟨rfl, rfl⟩;refine vr 1 ?_;refine pe 0 (zg rfl st9) ?_;refine pe 0 (zi rfl rfl (by omega)) ?_;refine cfo 1 ?_;refine Sr 4 co4 .h2 .here ?_;refine Lb 6 sg4 .h2 ?_
    refine zE ((ze cl36 rfl (.cons .here .k0) (fun m' hm he => Write36 hp hA (by omega)) rfl ?_)) rfl;rintro _ _ ⟨A2, c2, hB2, rfl, rfl⟩;refine vr 1 ?_;exact wr [] trivial [_, _, _] (.cons .h2 .pp) ⟨rfl, .inr ⟨rfl, by omega, A2, c2, hB2, rfl⟩⟩
end
section
open Wd Tp Kd
variable {m : Mp}
end
section
open Wd Tp Kd
variable {m : Mp}
end
section
open Wd Tp Kd
variable {m : Mp}
def TxI (bl : Nat) (b : BkT) (s : List UInt8) (L' : List Ent) : Prop := ∃ T q, bookP b = some T ∧ L' = [lgE bl q] ∧ ((q = false ∧ s = T ∧ T.length ≤ 65536) ∨ (q = true ∧ 65536 < T.length))
structure TyS where
 i : Nat
 q : Bool
 p : Value
 A : Option Addr
 c : Nat
 l : List UInt8
 T : List UInt8
structure TyI (b : BkT) (bb k : Nat) (y : TyS) : Prop where
 cat : catP ((textsL b).take k) = some y.T
 st : (y.q = false ∧ y.l = y.T) ∨ (y.q = true ∧ 65536 < y.T.length)
 len : y.l.length ≤ 65536
 buf : Buf y.A y.l
 pb : PB bb y.p
abbrev bk2 (K : Option Addr) (n kc : Nat) (F : Option Addr) (f fc : Nat) : List Value := [.slice K n kc, .slice F f fc]
theorem text32 (hT : TabI m) (hU : Tabs m) {B bl kc fc : Nat} {K F : Option Addr} {b : BkT} (hR : Rd m (some ⟨B, 0, none⟩) (bk2 K b.cards.length kc F b.fmts.length fc)) (hC : CardsX m K b.cards) (hF : FmtsX m F b.fmts) (hs : BkSm b) :
  CSP Tryz.prog 32 [ptr B, ptr bl] m [lgE bl false] (fun v L' => ∃ s, v = .string (bs s) ∧ TxI bl b s L') (fun v _ => bookP b = none ∧ v = wrongV) := by
 have hc0 : mc m ⟨B, 0, none⟩ = some (.slice K b.cards.length kc) := hR.at_ (i := 0) rfl;have hc1 : mc m ⟨B, 1, none⟩ = some (.slice F b.fmts.length fc) := hR.at_ (i := 1) rfl;have hlc := hs.lc;have hlf := hs.lf;have htl := uy b;refine za [.tmp 2] Tryz.func32 rfl rfl rfl ?_
 have hno : ¬ (b.cards.length ≤ 240 ∧ b.fmts.length ≤ 240) → bookP b = none := fun h => by unfold bookP; rw [if_neg h]
 by_cases hL1 : b.cards.length ≤ 240
 rotate_left
 ·refine tr 8 ?_;refine Lo 1 sg23 rfl hc0 ?_;refine cfo 6 ?_;refine Mf fun _ => ?_;exact pn ⟨hno (fun h => hL1 h.1), rfl⟩
 by_cases hL2 : b.fmts.length ≤ 240
 rotate_left
 ·refine tr 8 ?_;refine Lo 1 sg23 rfl hc0 ?_;refine cto 2 ?_;refine Lo 1 sg24 rfl hc1 ?_;refine cfo 1 ?_;refine Mf fun _ => ?_;exact pn ⟨hno (fun h => hL2 h.2), rfl⟩
 have hbk : bookP b = catP (textsL b) := by unfold bookP; rw [if_pos ⟨hL1, hL2⟩]; rfl
 refine tr 8 ?_;refine Lo 1 sg23 rfl hc0 ?_;refine cto 2 ?_;refine Lo 1 sg24 rfl hc1 ?_;refine cto 1 ?_;refine Mt 4 ?_;refine Al 10 zl76 fun b1 => ?_;refine xK 5 1 ?_;refine tr 2 ?_;refine Lo 5 sg23 rfl hc0 ?_
 refine zj (α := TyS) (fun y => [(0, ptr B), (1, ptr bl), (3, ptr b1), (4, .func (.func 34) [].toArray [ptr bl, ptr b1].toArray), (24, .slice K b.cards.length kc), (25, .int .i64 (b.cards.length : Nat)), (26, .int .i64 (y.i : Nat))]) (fun y => lgE bl y.q :: buL b1 y.p y.A y.c y.l) (fun y => y.i ≤ b.cards.length ∧ TyI b b1 y.i y) (fun y => b.cards.length - y.i) ⟨0, false, .pointer none, none, 0, [], []⟩ ⟨rfl, rfl, rfl, rfl, rfl, rfl, rfl, trivial⟩ (.cons .h2 (.cons .h1 .p0)) ⟨Nat.zero_le _, ⟨rfl, .inl ⟨rfl, rfl⟩, Nat.zero_le _, Buf.nil, .inl rfl⟩⟩ ?_
 rintro ⟨i, q, p, A, c, l, T⟩ ⟨hi, hI⟩;dsimp only at hi;dsimp only;by_cases hlt : i < b.cards.length
 ·have hti : i < (textsL b).length := by omega
  obtain ⟨hstop, hcat2⟩ := vU hti hI.cat;rw [Yd hlt] at hstop hcat2;obtain ⟨vs, hrd, hvl, hel⟩ := hC;have hA : K.isSome = true := hrd.isSome (by omega);have hat := hrd.elem (i * 12) 12;have hx := hel i hlt;have hsm := hs.c _ (List.getElem_mem hlt);have hl12 : ((vs.drop (i * 12)).take 12).length = 12 := by obtain ⟨q, h, -⟩ := hx; rw [h]; rfl
  have hsz : ∀ s, cardP b.cards[i] = some s → s.length ≤ 21000 := fun s h => WJ h;clear hel;generalize b.cards[i] = x at hstop hcat2 hx hsm hsz;have hxq := hx;obtain ⟨cq, hcv, -⟩ := hxq;rw [hcv] at hat hx;clear hcv hl12;refine tr 2 ?_;refine cto 10 ?_;refine pe 0 (zI ez23 rfl rfl hA (by omega)) ?_;refine La 0 ag40 hat ?_;refine Al 0 zl40 fun b2 => ?_;refine Sg 4 ag40 .here ?_
  refine Lc 0 ag40 .here ?_;refine Cr cl14 rfl (fun m' hm he => (Card14 (hT.mono hm) (hU.mono hm) (hx.mono hm) hsm)) ?_;rintro _ rfl;cases hcp : cardP x with
  | none =>
    dsimp only [okT];refine vr 10 ?_;refine cfo 0 ?_;refine Mf fun _ => ?_;refine zU ?_;refine zH ?_;exact pn ⟨hbk.trans (hstop hcp), rfl⟩
  | some s =>
    dsimp only [okT];have hsl := hsz s hcp;have hcat2 := hcat2 s hcp;refine vr 10 ?_;refine ctr 0 ?_;refine Mt 5 ?_;refine zE ((yl (p := []) (q := [ptr bl, ptr b1]) (vs := [.string (bs s)]) (ppost := fun _ _ => False) cl34 rfl rfl (.cons .h1 (.cons .h1 .k1)) (fun m' hm he => (put34 hI.pb hI.buf hI.len (by omega)).toP) rfl ?_ ?_)) rfl
    ·rintro _ _ h;exact h.elim
    rintro _ _ ⟨rfl, ⟨hlg, rfl⟩ | ⟨hq, hle, A2, c2, hB2, rfl⟩⟩
    ·refine vr 4 ?_;refine Pa 2 ?_;refine QR (⟨i + 1, true, p, A, c, l, T ++ s⟩ : TyS) (.cons .here .pp) ⟨hlt, hcat2, .inr ⟨rfl, ?_⟩, hI.len, hI.buf, hI.pb⟩ (by dsimp only; omega);show 65536 < (T ++ s).length;rw [List.length_append];rcases hI.st with ⟨g1, g2⟩ | ⟨g1, g2⟩
     ·have g1 : q = false := g1;have g2 : l = T := g2;rcases hlg with h | h
      ·rw [g1] at h; cases h
      ·rw [← g2]; exact h
     ·have g2 : 65536 < T.length := g2;omega
    ·have hlT : l = T := by
      rcases hI.st with ⟨g1, g2⟩ | ⟨g1, g2⟩
      ·exact g2
      ·have g1 : q = true := g1;rw [hq] at g1;cases g1
     refine vr 4 ?_;refine Pa 2 ?_;exact QR (⟨i + 1, false, ptr b1, A2, c2, l ++ s, T ++ s⟩ : TyS) (.cons .here .pp) ⟨hlt, hcat2, .inl ⟨rfl, by show l ++ s = T ++ s; rw [hlT]⟩, by show (l ++ s).length ≤ _; rw [List.length_append]; exact hle, hB2, .inr rfl⟩ (by dsimp only; omega)
 have hie : i = b.cards.length := by omega
 subst hie;clear hlt hi;refine tr 2 ?_;refine cfo 6 ?_;refine zC ?_;refine zB ?_;refine qt 5 ?_;refine Lo 5 sg24 rfl hc1 ?_
 refine zj (α := TyS) (fun y => [(0, ptr B), (1, ptr bl), (3, ptr b1), (4, .func (.func 34) [].toArray [ptr bl, ptr b1].toArray), (43, .slice F b.fmts.length fc), (44, .int .i64 (b.fmts.length : Nat)), (45, .int .i64 (y.i : Nat))]) (fun y => lgE bl y.q :: buL b1 y.p y.A y.c y.l) (fun y => y.i ≤ b.fmts.length ∧ TyI b b1 (b.cards.length + y.i) y) (fun y => b.fmts.length - y.i) ⟨0, q, p, A, c, l, T⟩ ⟨rfl, rfl, rfl, rfl, rfl, rfl, rfl, trivial⟩ (Pick.refl _) ⟨Nat.zero_le _, ⟨hI.cat, hI.st, hI.len, hI.buf, hI.pb⟩⟩ ?_
 clear hI;rintro ⟨i, q, p, A, c, l, T⟩ ⟨hi, hI⟩;dsimp only at hi hI;dsimp only;by_cases hlt : i < b.fmts.length
 ·have hti : b.cards.length + i < (textsL b).length := by omega
  obtain ⟨hstop, hcat2⟩ := vU hti hI.cat;rw [Xh hlt] at hstop hcat2;obtain ⟨vs, hrd, hvl, hel⟩ := hF;have hA : F.isSome = true := hrd.isSome (by omega);have hat := hrd.elem (i * 7) 7;have hx := hel i hlt;have hsm := hs.f _ (List.getElem_mem hlt);have hsz : ∀ s, fmtP b.fmts[i] = some s → s.length ≤ 90000000000 := fun s h => Vc hsm h;clear hel
  generalize b.fmts[i] = x at hstop hcat2 hx hsm hsz;obtain ⟨cq, hcv, hxB, hxS⟩ := hx;rw [hcv] at hat;clear hcv;refine tr 2 ?_;refine cto 10 ?_;refine pe 0 (zI ez24 rfl rfl hA (by omega)) ?_;refine La 0 ag63 hat ?_;refine Al 0 zl63 fun b2 => ?_;refine Sg 4 ag63 .here ?_;refine Lc 0 ag63 .here ?_
  refine Cp cl37 rfl .nil (fun m' hm he => format37 (hT.mono hm) (hU.mono hm) (hxB.mono hm) (hxS.mono hm) hsm) ?_ ?_
  ·rintro _ _ ⟨g1, rfl⟩;refine zU ?_;refine zH ?_;exact pn ⟨hbk.trans (hstop g1), rfl⟩
  rintro _ _ ⟨s, g1, rfl, rfl⟩;have hsl := hsz s g1;have hcat2 := hcat2 s g1;skip;refine zE ((yl (p := []) (q := [ptr bl, ptr b1]) (vs := [.string (bs s)]) (ppost := fun _ _ => False) cl34 rfl rfl (.cons .h1 (.cons .h1 .k1)) (fun m' hm he => (put34 hI.pb hI.buf hI.len (by omega)).toP) rfl ?_ ?_)) rfl
  ·rintro _ _ h;exact h.elim
  rintro _ _ ⟨rfl, ⟨hlg, rfl⟩ | ⟨hq, hle, A2, c2, hB2, rfl⟩⟩
  ·refine vr 4 ?_;refine Pa 2 ?_;refine QR (⟨i + 1, true, p, A, c, l, T ++ s⟩ : TyS) (.cons .here .pp) ⟨hlt, hcat2, .inr ⟨rfl, ?_⟩, hI.len, hI.buf, hI.pb⟩ (by dsimp only; omega);show 65536 < (T ++ s).length;rw [List.length_append];rcases hI.st with ⟨g1, g2⟩ | ⟨g1, g2⟩
   ·have g1 : q = false := g1;have g2 : l = T := g2;rcases hlg with h | h
    ·rw [g1] at h; cases h
    ·rw [← g2]; exact h
   ·have g2 : 65536 < T.length := g2;omega
  ·have hlT : l = T := by
    rcases hI.st with ⟨g1, g2⟩ | ⟨g1, g2⟩
    ·exact g2
    ·have g1 : q = true := g1;rw [hq] at g1;cases g1
   refine vr 4 ?_;refine Pa 2 ?_;exact QR (⟨i + 1, false, ptr b1, A2, c2, l ++ s, T ++ s⟩ : TyS) (.cons .here .pp) ⟨hlt, hcat2, .inl ⟨rfl, by show l ++ s = T ++ s; rw [hlT]⟩, by show (l ++ s).length ≤ _; rw [List.length_append]; exact hle, hB2, .inr rfl⟩ (by dsimp only; omega)
 have hie : i = b.fmts.length := by omega
 subst hie;have hcT := hI.cat;rw [← htl, List.take_length] at hcT;refine tr 2 ?_;refine cfo 6 ?_;refine zC ?_;refine zB ?_;refine qt 3 ?_;refine zE ((ze cl38 rfl (.cons .h1 .k1) (fun m' hm he => String38 hI.buf (Nat.le_trans hI.len (by decide))) rfl ?_)) rfl;rintro _ _ ⟨rfl, rfl⟩;refine vr 4 ?_
 refine zb [_] ⟨rfl, trivial⟩ [_] .p0 ⟨l, rfl, T, q, hbk.trans hcT, rfl, ?_⟩;rcases hI.st with ⟨g1, g2⟩ | ⟨g1, g2⟩
 ·have g2 : l = T := g2;exact .inl ⟨g1, g2, by rw [← g2]; exact hI.len⟩
 ·exact .inr ⟨g1, g2⟩
theorem Ye {b : BkT} {T : List UInt8} (h : bookP b = some T) : textP b = if 65536 < T.length then ([], 3) else (T, 0) := by unfold textP; rw [h]
theorem UT {b : BkT} (h : bookP b = none) : textP b = ([], 2) := by unfold textP; rw [h]
abbrev txV (r : List UInt8 × Int) : Value := .tuple [.string (bs r.1), .int .i64 r.2].toArray
theorem Text12 (hT : TabI m) (hU : Tabs m) {kc fc : Nat} {K F : Option Addr} {b : BkT} (hC : CardsX m K b.cards) (hF : FmtsX m F b.fmts) (hs : BkSm b) :
  CS Tryz.prog 12 [.agg (bk2 K b.cards.length kc F b.fmts.length fc).toArray] m [] (Gives (txV (textP b))) := by
 refine yI [.tmp 2, .tmp 3] Tryz.func12 rfl rfl rfl ?_;refine tr 2 ?_;refine Bx 5 rfl fun b1 => ?_;refine zG .here (fun ns hi _ hd1 => ?_);have hR : Rd (uni m ns) (some ⟨b1, 0, none⟩) (bk2 K b.cards.length kc F b.fmts.length fc) := (Rd.blk hi).mono (zV hd1);have hl2 : Le m (uni m ns) := zM _ _;clear hi hd1;refine tr 1 ?_;refine Al 0 zl4 fun b2 => ?_;refine Sr 5 co4 .here .here ?_
 refine C1 cl31 rfl .here (fun m' hm he => safe31 (g := 32) (q := [ptr b1, ptr b2]) (pre := [lgE b2 false]) (N := bookP b = none) (I := fun s L' => TxI b2 b s L') cl32 (fun m2 h2 => have hl := hl2.trans (hm.trans h2); text32 (hT.mono hl) (hU.mono hl) (hR.mono (hm.trans h2)) (hC.mono hl) (hF.mono hl) hs)) ?_;rintro _ _ hq
 rcases hq with ⟨s, rfl, T, q, hbT, rfl, ⟨rfl, rfl, hle⟩ | ⟨rfl, hgt⟩⟩ | ⟨hs, rfl, rfl⟩
 ·rw [Ye hbT, if_neg (by omega)];dsimp only [okT];refine vr 11 ?_;refine ctr 1 ?_;refine Lb 15 sg4 .here ?_;exact uq hl2 [_, _] ⟨rfl, rfl, trivial⟩ [] (Pick.nil _) ⟨rfl, rfl⟩
 ·rw [Ye hbT, if_pos hgt];dsimp only [okT];refine vr 11 ?_;refine ctr 1 ?_;refine Lb 12 sg4 .here ?_;exact uq hl2 [_, _] ⟨rfl, rfl, trivial⟩ [] (Pick.nil _) ⟨rfl, rfl⟩
 ·rw [UT hs];dsimp only [okT];refine vr 11 ?_;refine cfo 17 ?_;exact uq hl2 [_, _] ⟨rfl, rfl, trivial⟩ [] (Pick.nil _) ⟨rfl, rfl⟩
end
section
open Wd Tp Kd
variable {m : Mp}
structure TxS where
 i : Nat
 q : Bool
 l : List UInt8
 T : List UInt8
structure TxJ (b : BkT) (i : Nat) (y : TxS) : Prop where
 cat : catP ((textsL b).take i) = some y.T
 st : (y.q = false ∧ y.l = y.T) ∨ (y.q = true ∧ 65536 < y.T.length)
 len : y.l.length ≤ 65536
theorem TxJ.more {b : BkT} {i : Nat} {y : TxS} {s : List UInt8} (h : TxJ b i y) (hi : i < (textsL b).length) (hs : (textsL b)[i] = some s) (hq : y.q = true ∨ 65536 < y.l.length + s.length) : TxJ b (i + 1) ⟨y.i, true, y.l, y.T ++ s⟩ := by
 refine ⟨(vU hi h.cat).2 s hs, .inr ⟨rfl, ?_⟩, h.len⟩;dsimp only;rw [List.length_append];rcases h.st with ⟨g1, g2⟩ | ⟨g1, g2⟩
 ·rcases hq with hq | hq
  ·rw [g1] at hq; cases hq
  ·rw [g2] at hq; exact hq
 ·omega
theorem TxJ.next {b : BkT} {i : Nat} {y : TxS} {s : List UInt8} (h : TxJ b i y) (hi : i < (textsL b).length) (hs : (textsL b)[i] = some s) (hq : y.q = false) (hl : y.l.length + s.length ≤ 65536) : TxJ b (i + 1) ⟨y.i, false, y.l ++ s, y.T ++ s⟩ := by
 refine ⟨(vU hi h.cat).2 s hs, .inl ⟨rfl, ?_⟩, by rw [List.length_append]; exact hl⟩;rcases h.st with ⟨g1, g2⟩ | ⟨g1, g2⟩
 ·dsimp only; rw [g2]
 ·rw [hq] at g1; cases g1
end
namespace Tp
open Go Go.Eng Wd Kd
def szE : EffT → Nat
 | .mk _ _ n _ c t e => 1 + numW n + condW c + (t.attach.map fun x => szE x.1).sum + (e.attach.map fun x => szE x.1).sum
termination_by x => SizeOf.sizeOf x
decreasing_by
 all_goals
  have := List.sizeOf_lt_of_mem x.2;simp only [EffT.mk.sizeOf_spec];omega
def szL (l : List EffT) : Nat := (l.map szE).sum
theorem UW (op who : Int) (n : NumT) (name : List UInt8) (c : CondT) (t e : List EffT) : szE (.mk op who n name c t e) = 1 + numW n + condW c + szL t + szL e := by
 rw [szE, List.attach_map_val (f := szE), List.attach_map_val (f := szE)]
 rfl
theorem szE_pos (x : EffT) : 1 ≤ szE x := by obtain ⟨op, who, n, name, c, t, e⟩ := x; rw [UW]; omega
def szC (c : CardT) : Nat := szL c.played + szL c.dead + szL c.dawn
def szF (f : FmtT) : Nat := f.banned.length + f.single.length
def grT (b : BkT) : Nat := b.cards.length + b.fmts.length + (b.cards.map szC).sum + (b.fmts.map szF).sum
theorem Zn {α : Type} (f : α → Nat) (l : List α) (i : Nat) : ((l.take i).map f).sum ≤ (l.map f).sum := by
 have e : (l.map f).sum = ((l.take i).map f).sum + ((l.drop i).map f).sum := by
  conv => lhs; rw [← List.take_append_drop i l, List.map_append, List.sum_append]
 omega
theorem Uw {α : Type} (f : α → Nat) {l : List α} {x : α} (h : x ∈ l) : f x ≤ (l.map f).sum := by
 induction l with
 | nil => cases h
 | cons y r ih =>
   simp only [List.map_cons, List.sum_cons];rcases List.mem_cons.1 h with rfl | h
   ·omega
   ·have := ih h; omega
end Tp
end Go.Proofs.YtpgiokjfkcddeaaGreatDoor
