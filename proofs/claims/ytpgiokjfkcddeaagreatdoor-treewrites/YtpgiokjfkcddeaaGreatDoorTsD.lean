/- Parts of the proof: contracts of functions of the program, and plain lemmas. No condition. -/
import Derived.Test.YtpgiokjfkcddeaaGreatDoorTxY
import Derived.Test.YtpgiokjfkcddeaaGreatDoorTbE
import Derived.KernelRfl
import Derived.Test.YtpgiokjfkcddeaaGreatDoorRows
import Derived.Lib.LaidU8T
import Derived.MakeChecks
import Derived.Test.YtpgiokjfkcddeaaGreatDoorCards
import Derived.Test.YtpgiokjfkcddeaaGreatDoorTie
import Derived.Test.YtpgiokjfkcddeaaGreatDoorEng2
import Derived.ProofKit
import Derived.OpenShut
import Derived.LaidMore
import Derived.Lay
import Derived.SevenTiedAt
import Derived.Stop.Joined
import Derived.SizedLaws
set_option maxHeartbeats 64000000
set_option maxRecDepth 100000
namespace Go.Proofs.YtpgiokjfkcddeaaGreatDoor
open Go.Eng
section
open Wd Tp Kd
variable {m : Mp}
def sameC (x y : CardT) : Prop := x.name = y.name ∧ x.unit = y.unit ∧ x.cost = y.cost ∧ x.power = y.power ∧ x.health = y.health ∧ x.shield = y.shield ∧ x.apow = y.apow ∧ x.aheal = y.aheal ∧ x.played = y.played ∧ x.dead = y.dead ∧ x.dawn = y.dawn
def sameF (x y : FmtT) : Prop := x.name = y.name ∧ x.least = y.least ∧ x.most = y.most ∧ x.copies = y.copies ∧ x.banned = y.banned ∧ x.single = y.single
structure sameB (a b : BkT) : Prop where
 lc : a.cards.length = b.cards.length
 lf : a.fmts.length = b.fmts.length
 c : ∀ (i : Nat) (h : i < a.cards.length) (h' : i < b.cards.length), sameC a.cards[i] b.cards[i]
 f : ∀ (i : Nat) (h : i < a.fmts.length) (h' : i < b.fmts.length), sameF a.fmts[i] b.fmts[i]
theorem sameB.rfl (a : BkT) : sameB a a := ⟨_root_.rfl, _root_.rfl, fun _ _ _ => ⟨_root_.rfl, _root_.rfl, _root_.rfl, _root_.rfl, _root_.rfl, _root_.rfl, _root_.rfl, _root_.rfl, _root_.rfl, _root_.rfl, _root_.rfl⟩, fun _ _ _ => ⟨_root_.rfl, _root_.rfl, _root_.rfl, _root_.rfl, _root_.rfl, _root_.rfl⟩⟩
end
section
open Wd Tp Kd
variable {m : Mp}
end
section
open Wd Tp Kd
def wk1 : List UInt8 := [99, 97, 114, 100, 32, 73, 109, 112, 32, 117, 110, 105, 116, 32, 49, 32, 50, 47, 49, 32, 123, 32, 112, 108, 97, 121, 101, 100, 32, 123, 32, 104, 97, 114, 109, 32, 116, 97, 114, 103, 101, 116, 32, 49, 32, 43, 32, 50, 32, 42, 32, 51, 59, 32, 125, 32, 125]
def wk2 : List UInt8 := [99, 97, 114, 100, 32, 105, 102, 32, 99, 104, 97, 114, 109, 32, 49, 32, 123, 32, 125]
def wk3 : List UInt8 := [99, 97, 114, 100, 32, 73, 109, 112, 32, 117, 110, 105, 116, 32, 49, 32, 50, 47, 49, 32, 123, 10, 32, 112, 108, 97, 121, 101, 100, 32, 123, 32, 104, 97, 114, 109, 32, 116, 97, 114, 103, 101, 116, 32, 49, 32, 43, 32, 50, 32, 42, 32, 51, 59, 32, 125, 10, 125, 10]
def wkB : BkT := ⟨[⟨[73, 109, 112], true, 1, 2, 1, 0, 0, 0, [.mk 0 2 (.mk 8 0 0 [.mk 0 1 0 [], .mk 10 0 0 [.mk 0 2 0 [], .mk 0 3 0 []]]) [] cond0 [] []], [], [], 0⟩], []⟩
def okB : R BkT → Option BkT
 | .ok b _ => some b
 | _ => none
def badB : R BkT → Option (Int × Int)
 | .bad e a => some (e, a)
 | _ => none
theorem wake1 : okB (readP wk1) = some wkB := by kernel_rfl
theorem wake2 : badB (readP wk2) = some (120, 5) := by kernel_rfl
theorem wake3 : textP wkB = (wk3, 0) := by kernel_rfl
end
section
open Wd Tp Kd
variable {m : Mp}
theorem Wi : CondSm cond0 := .mk (Nat.zero_le _) (fun k h => by cases h)
theorem wkB_sm : BkSm wkB where
 lc := by decide
 lf := by decide
 c := fun x hx => by
  rw [show wkB.cards = [wkB.cards[0]'(by decide)] from rfl, List.mem_singleton] at hx;subst hx
  exact ⟨by decide, by decide, by decide, by decide, fun x hx => by
   rw [List.mem_singleton.1 hx]
   exact .mk (Nat.zero_le _) Wi (Nat.zero_le _) (Nat.zero_le _) (fun _ h => by cases h) (fun _ h => by cases h), (fun _ h => by cases h), (fun _ h => by cases h)⟩
 f := fun x hx => by cases hx
theorem wakes6 (hT : TabI m) (hU : Tabs m) : CS Tryz.prog 6 [] m [] (Gives (.bool true)) := by
 skip;refine zn [.tmp 0] Tryz.func6 rfl rfl rfl ?_;refine tr 7 ?_;refine zC ((wB cl7 rfl (fun m' hm he => Yw (s := wk1) (hU.mono hm) (by decide)) rfl ?_)) rfl;rintro _ _ hq;rcases hq with ⟨bk, ts, K, kc, F, fc, e, h1, rfl, rfl, h2, h3, h4⟩ | ⟨e, a, h1, rfl, rfl⟩
 rotate_left
 ·have h5 := wake1;rw [h1] at h5;cases h5
 have hbk : bk = wkB := by
  have h5 := wake1;rw [h1] at h5;exact Option.some.inj h5
 subst hbk;clear h1 h2 h3;unfold faultV;refine vr 3 ?_;refine Al 0 zl26 fun b1 => ?_;refine Al 0 zl29 fun b2 => ?_;refine Sg 0 ag26 .h1 ?_;refine Sg 3 ag29 .here ?_;refine zI .h2 (fun ns hi _ hd => ?_);obtain ⟨hCq, hFq⟩ := h4 ns hi;have hCq := hCq.mono (zP hd (m := m));have hFq := hFq.mono (zP hd (m := m));have hl2 : Le m (uni m ns) := zN _ _;clear hi hd h4
 generalize uni m ns = m9 at hCq hFq hl2;have hT := hT.mono hl2;have hU := hU.mono hl2;refine tr 1 ?_;refine zC ((wB cl7 rfl (fun m' hm he => Yw (s := wk2) (hU.mono hm) (by decide)) rfl ?_)) rfl;rintro _ _ hq;rcases hq with ⟨bk, ts, K2, kc2, F2, fc2, e2, h1, rfl, rfl, h2, h3, h4⟩ | ⟨e2, a2, h1, rfl, rfl⟩
 ·have h5 := wake2;rw [h1] at h5;cases h5
 have hee : e2 = 120 ∧ a2 = 5 := by
  have h5 := wake2;rw [h1] at h5;have h6 := Option.some.inj h5;exact ⟨congrArg Prod.fst h6, congrArg Prod.snd h6⟩
 obtain ⟨rfl, rfl⟩ := hee;clear h1;unfold faultV;refine vr 3 ?_;refine Al 0 zl26 fun b3 => ?_;refine Al 0 zl29 fun b4 => ?_;refine Sg 0 ag26 .h1 ?_;refine Sg 4 ag29 .here ?_;refine Lc 0 ag26 .h3 ?_;refine Cr cl12 rfl (fun m' hm he => (Text12 (b := wkB) (hT.mono hm) (hU.mono hm) (hCq.mono hm).x (hFq.mono hm).x wkB_sm)) ?_;rintro _ rfl;rw [wake3];dsimp only [txV];obtain ⟨vs, hrd, hvl, hel⟩ := hCq
 obtain ⟨q, hqv, -, hpl, -, -⟩ := hel 0 (by decide);have hat := hrd.elem (0 * 12) 12;rw [hqv] at hat;have hat : At m9 ((sa K).add (0 * 12)) [.string (bs [73, 109, 112]), .bool true, .int .i64 1, .int .i64 2, .int .i64 1, .int .i64 0, .int .i64 0, .int .i64 0, .slice q.A 1 q.ca, .slice q.B 0 q.cb, .slice q.D 0 q.cd, .int .i64 0] := hat;have hk1 : wkB.cards.length = 1 := rfl
 obtain ⟨-, -, vs2, hrd2, hvl2, hel2⟩ := hpl;have hx := hel2 0 (by decide);have hat2 := hrd2.elem (0 * 14) 14;generalize (vs2.drop (0 * 14)).take 14 = xs at hx hat2;obtain ⟨op, who, nop, nn, nwho, nA, nlen, nc, name, cop, cwho, cname, cA, cla, cca, cB, clb, ccb, TA, la, ca, EB, lb, cb, n, cond, thn, els, rfl, hmk, -, hn, hc, hthn, hels⟩ := EffR.parts hx
 have hmk : EffT.mk 0 2 (.mk 8 0 0 [.mk 0 1 0 [], .mk 10 0 0 [.mk 0 2 0 [], .mk 0 3 0 []]]) [] cond0 [] [] = EffT.mk op who n name cond thn els := hmk;cases hmk;cases hn with
 | @mk _ _ _ _ _ _ _ vs3 ho hl hm' hr hv hk =>
 have f2 : NumR m9 ((vs3.drop (1 * 4)).take 4) (.mk 10 0 0 [.mk 0 2 0 [], .mk 0 3 0 []]) := hk 1 (by decide);have hat3 := hr.elem (1 * 4) 4;obtain ⟨n2, w2, A2, l2, c2, e2⟩ := NumR.formO f2;rw [e2] at hat3;have hX1 : K.isSome = true := hrd.isSome (by rw [hvl]; decide);have hX2 : q.A.isSome = true := hrd2.isSome (by rw [hvl2]; decide);have hX3 : nA.isSome = true := hr.isSome (by rw [hv]; decide)
 have hnl : nlen = 2 := hl.symm;have hN0 : mc m9 (((((sa q.A).add (0 * 14))).add 2).add 0) = some (.int .i8 8) := (At.sub hat2 2 4).at_ (o := 0) rfl;have hN3 : mc m9 (((((sa q.A).add (0 * 14))).add 2).add 3) = some (.slice nA nlen nc) := (At.sub hat2 2 4).at_ (o := 3) rfl;refine vr 10 ?_;refine Lb 0 sg27 .h2 ?_;refine ctr 2 ?_;refine Lb 1 sg23 .h3 ?_;refine ctr 3 ?_;refine Lb 0 sg23 .h3 ?_
 refine pe 1 (zL ez23 rfl rfl hX1 (by omega) (by omega)) ?_;refine Lo 0 sg38 rfl (hat.at_ rfl) ?_;refine pe 2 (zL ez38 rfl rfl hX2 (by omega) (by omega)) ?_;refine Lo 0 sg42 rfl hN0 ?_;refine ctr 3 ?_;refine Lb 0 sg23 .h3 ?_;refine pe 1 (zL ez23 rfl rfl hX1 (by omega) (by omega)) ?_;refine Lo 0 sg38 rfl (hat.at_ rfl) ?_
 refine pe 2 (zL ez38 rfl rfl hX2 (by omega) (by omega)) ?_;refine Lo 0 sg43 rfl hN3 ?_;refine pe 1 (zL ez43 rfl rfl hX3 (by omega) (by omega)) ?_;refine Lo 0 sg42 rfl (hat3.at_ rfl) ?_;refine ctr 2 ?_;refine Lc 0 ag29 .here ?_;refine pe 0 (zV zl29 pl29 rfl rfl) ?_;refine pe 3 ((Ze [.i .i64 120, .i .i64 5] [.i .i64 120, .i .i64 5] fg29 rfl rfl rfl rfl)) ?_
 refine ctr 3 ?_;refine ctr 5 ?_;exact rt2 hl2 ⟨rfl, trivial⟩ ⟨rfl, rfl⟩
end
section
open Wd Tp Kd
variable {m : Mp}
theorem law4 (hT : TabI m) (hU : Tabs m) {kc fc : Nat} {K F : Option Addr} {b : BkT} (hC : CardsX m K b.cards) (hF : FmtsX m F b.fmts) (hs : BkSz b) : CS Tryz.prog 4 [.agg (bk2 K b.cards.length kc F b.fmts.length fc).toArray] m [] (Gives (.bool true)) := by
 refine zn [.tmp 2] Tryz.func4 rfl rfl rfl ?_;refine tr 2 ?_;refine Bx 5 rfl fun b1 => ?_;refine zI .here (fun ns hi _ hd1 => ?_);have hR : Rd (uni m ns) (some ⟨b1, 0, none⟩) (bk2 K b.cards.length kc F b.fmts.length fc) := (Rd.blk hi).mono (zP hd1);have hl2 : Le m (uni m ns) := zN _ _;clear hi hd1;generalize uni m ns = m9 at hR hl2
 have hat : At m9 ⟨b1, 0, none⟩ (bk2 K b.cards.length kc F b.fmts.length fc) := fun i u hi => hR.at_ hi;have hc0 : mc m9 ⟨b1, 0, none⟩ = some (.slice K b.cards.length kc) := hR.at_ (i := 0) rfl;have hT := hT.mono hl2;have hU := hU.mono hl2;have hC := hC.mono hl2;have hF := hF.mono hl2;have hlc := hs.lc;refine tr 1 ?_;refine La 0 ag26 hat ?_
 refine Cr cl11 rfl (fun m' hm he => (Great11 (hC.mono hm) (hF.mono hm) hs)) ?_;rintro _ rfl;by_cases hg : 6000 < grT b
 ·rw [decide_eq_true hg];refine vr 5 ?_;refine Cr cl6 rfl (fun m' hm he => (wakes6 (hT.mono hm) (hU.mono hm))) ?_;rintro _ rfl;refine vr 5 ?_;exact rt2 hl2 ⟨rfl, trivial⟩ ⟨rfl, rfl⟩
 rw [decide_eq_false hg];have hsm := hs.sm (by omega);have hwt := WX (b := b) (by omega);refine vr 7 ?_;refine La 0 ag26 hat ?_;refine Cr cl12 rfl (fun m' hm he => (Text12 (hT.mono hm) (hU.mono hm) (hC.mono hm) (hF.mono hm) hsm)) ?_;rintro _ rfl;refine vr 9 ?_;refine La 0 ag26 hat ?_;refine Cr cl13 rfl (fun m' hm he => (Text13 (hC.mono hm) (hF.mono hm) hsm hwt)) ?_;rintro _ rfl
 generalize textP b = r;obtain ⟨t, e⟩ := r;refine vr 12 ?_;refine yP (YU rfl rfl) rfl rfl rfl (fun hc1 => ?_) (fun hc1 => ?_);refine vr 15 ?_
 ·exact (hc1 rfl).elim
 refine vr 3 ?_;refine cfo 13 ?_;refine zu (α := Nat) (fun i => [(1, .pointer (some ⟨b1, 0, none⟩)), (7, .int .i64 (i : Nat))]) (fun _ => []) (fun i => i ≤ b.cards.length) (fun i => b.cards.length - i) 0 ⟨rfl, rfl, trivial⟩ (Pick.nil _) (Nat.zero_le _) ?_;intro i hi;by_cases hlt : i < b.cards.length
 ·by_cases h20 : i < 20
  ·obtain ⟨vs, hrd, hvl, hel⟩ := hC;have hA : K.isSome = true := hrd.isSome (by omega);have hat := hrd.elem (i * 12) 12;have hx := hel i hlt;obtain ⟨q1, e⟩ := CardR14 hx;have hsm1 := hs.c _ (List.getElem_mem hlt);have hw := hwt _ (List.getElem_mem hlt);rw [e] at hat hx;clear e;refine tr 5 ?_;refine Lo 1 sg23 rfl hc0 ?_;refine cto 2 ?_;refine cto 11 ?_;refine Lo 1 sg23 rfl hc0 ?_
   refine pe 0 (zM ez23 rfl rfl hA (by omega)) ?_;refine La 0 ag40 hat ?_;refine Cr cl14 rfl (fun m' hm he => (Card14 (hT.mono hm) (hU.mono hm) (hx.mono hm) hsm1)) ?_;rintro _ rfl;cases hcp : cardP b.cards[i] with
   | none =>
     rw [show okT none = .tuple #[.string (bs []), .int .i64 2] from rfl];refine vr 10 ?_;refine Lo 1 sg23 rfl hc0 ?_;refine pe 0 (zM ez23 rfl rfl hA (by omega)) ?_;refine La 0 ag40 hat ?_;refine Cr cl15 rfl (fun m' hm he => (Card15 (hx.mono hm) hsm1 hw)) ?_;rintro _ rfl;rw [hcp, show okT none = .tuple #[.string (bs []), .int .i64 2] from rfl];refine vr 11 ?_
     refine cf 3 rfl (by decide) ?_;refine cfo 9 ?_;refine Pa 2 ?_;exact QR (i + 1) (Pick.nil _) hlt (by omega)
   | some s =>
     rw [show okT (some s) = .tuple #[.string (bs s), .int .i64 0] from rfl];refine vr 10 ?_;refine Lo 1 sg23 rfl hc0 ?_;refine pe 0 (zM ez23 rfl rfl hA (by omega)) ?_;refine La 0 ag40 hat ?_;refine Cr cl15 rfl (fun m' hm he => (Card15 (hx.mono hm) hsm1 hw)) ?_;rintro _ rfl;rw [hcp, show okT (some s) = .tuple #[.string (bs s), .int .i64 0] from rfl];refine vr 11 ?_
     refine yP (YU rfl rfl) rfl rfl rfl (fun hc2 => ?_) (fun hc2 => ?_);refine vr 16 ?_;refine zS ?_;refine zT ?_;refine zd ?_
     ·exact (hc2 rfl).elim
     refine vr 3 ?_;refine cfo 9 ?_;refine Pa 2 ?_;exact QR (i + 1) (Pick.nil _) hlt (by omega)
  ·refine tr 5 ?_;refine Lo 1 sg23 rfl hc0 ?_;refine cto 2 ?_;refine cfo 6 ?_;refine zE ?_;refine zD ?_;refine qt 3 ?_;refine Cr cl6 rfl (fun m' hm he => (wakes6 (hT.mono hm) (hU.mono hm))) ?_;rintro _ rfl;refine vr 4 ?_;exact rt2 hl2 ⟨rfl, trivial⟩ ⟨rfl, rfl⟩
 ·refine tr 5 ?_;refine Lo 1 sg23 rfl hc0 ?_;refine cfo 9 ?_;refine zE ?_;refine zD ?_;refine qt 3 ?_;refine Cr cl6 rfl (fun m' hm he => (wakes6 (hT.mono hm) (hU.mono hm))) ?_;rintro _ rfl;refine vr 4 ?_;exact rt2 hl2 ⟨rfl, trivial⟩ ⟨rfl, rfl⟩
end
section
open Go.Lib Go.Shelf
theorem Xm : (Rows.laid_unicode_utf8_acceptRanges : DataW Unit) = acceptData := by kernel_rfl
theorem Wb : Rows.laid_unicode_utf8_first = firstData := by kernel_rfl
theorem X8 : (Rows.laid_strings_asciiSpace : DataW Unit) = tabData .u8 asciiSpaceTab := by kernel_rfl
theorem pow_eq : (Rows.laid_internal_strconv_uint64pow10 : DataW Unit) = tabData .u64 pow10Tab := by kernel_rfl
theorem jP {P : Program} {W w : World} {n : String} {k : IntKind} {zs : List Int} (h : TabIs P W n k zs) (hl : Le (mp W.heap) (mp w.heap)) : TabIs P w n k zs := by
 unfold TabIs World.var? at *;cases hg : P.globalNamed n with
 | none => rw [hg] at h; cases h
 | some g =>
   rw [hg] at h;simp only [Option.bind_some] at h ⊢;cases ho : W.heap[g]? with
   | none => rw [ho] at h; cases h
   | some o => rw [ho] at h; rw [show w.heap[g]? = some o from hl g o ho]; exact h
theorem qF {W w : World} {a : Addr} {v : Value} (h : W.cell? a = some v) (hl : Le (mp W.heap) (mp w.heap)) : w.cell? a = some v := by
 unfold World.cell? at *;cases ho : W.heap[a.block]? with
 | none => simp [ho] at h
 | some o => rw [ho] at h; rw [show w.heap[a.block]? = some o from hl _ o ho]; exact h
theorem jy {W : World} (h : laidMetH Tryz.prog Rows.treeWritesRow.laid W) : TabI (mp W.heap) ∧ Tabs (mp W.heap) := by
 rw [MakeChecks.laidMetH_plain _ _ _ (by kernel_rfl)] at h;have r0 := Lib.laidMet.reads h (.tail _ (.tail _ (.head _)));have r1 := Lib.laidMet.reads h (.tail _ (.tail _ (.tail _ (.head _))));have r3 := Lib.laidMet.reads h (.tail _ (.tail _ (.tail _ (.tail _ (.tail _ (.head _))))));have r4 := Lib.laidMet.reads h (.tail _ (.tail _ (.tail _ (.tail _ (.tail _ (.tail _ (.head _)))))));rw [pow_eq] at r0
 rw [Xm] at r1;rw [X8] at r3;rw [Wb] at r4;have hu := utf8Tabs_of_readsT (P := Tryz.prog) (ρ := Tryz.lays197_ren) ⟨Tryz.lays197.t5, Tryz.lays197.t119, Tryz.lays197.t138, Tryz.lays197.t139⟩ ⟨by kernel_rfl, by kernel_rfl, by kernel_rfl, by kernel_rfl, by kernel_rfl, by kernel_rfl, by kernel_rfl⟩ r4 r1
 have hs : TabIs Tryz.prog W "strings.asciiSpace" .u8 asciiSpaceTab := by
  obtain ⟨g, t, cs, fuel, p, hg, ht, hv, hd⟩ := r3;obtain rfl := Option.some.inj ((show Tryz.prog.globalNamed "strings.asciiSpace" = some 2 by kernel_rfl).symm.trans hg);obtain rfl := Option.some.inj ((show (Tryz.prog.globals[2]?).map (·.type) = some 148 by kernel_rfl).symm.trans ht);unfold TabIs;rw [hv, ← cells_of_tab Tryz.underlying148 Tryz.underlying5 (by kernel_rfl) (by kernel_rfl) hd]
 have hp : TabIs Tryz.prog W "internal/strconv.uint64pow10" .u64 pow10Tab := by
  obtain ⟨g, t, cs, fuel, p, hg, ht, hv, hd⟩ := r0;obtain rfl := Option.some.inj ((show Tryz.prog.globalNamed "internal/strconv.uint64pow10" = some 3 by kernel_rfl).symm.trans hg);obtain rfl := Option.some.inj ((show (Tryz.prog.globals[3]?).map (·.type) = some 176 by kernel_rfl).symm.trans ht);unfold TabIs
  rw [hv, ← cells_of_tab Tryz.underlying176 Tryz.underlying158 (by kernel_rfl) (by kernel_rfl) hd]
 exact ⟨fun w hl => jP hp hl, fun w hl => ⟨jP hs hl, fun c hc => qF (hu.1 c hc) hl, fun i hi => ⟨qF (hu.2 i hi).1 hl, qF (hu.2 i hi).2 hl⟩⟩⟩
open Go.WideShapes Wd Tp Kd
theorem ko {v : Value} {W : World} {t base : Nat} {fs : Array Field} (ht : Tryz.prog.underlying t = some (.struct fs)) (h : Value.okWide Tryz.prog W .any base t v) : ∃ cs : List Value, v = .agg cs.toArray := by
 obtain ⟨cs, rfl, _⟩ := okWide_struct ht h;exact ⟨cs.toList, by simp⟩
theorem jT {H : Type} {enc : TypeId × Value → H} {base b0 fuel : Nat} {spare : Nat → Bool} {held : Bool} (W : World) (hT : TabI (mp W.heap) ∧ Tabs (mp W.heap)) {x0 : DataW H × List MemPlace} (v0 : Value) (o0 : Value.okWide Tryz.prog W .any b0 26 v0) (k0 : DataW.trod enc Tryz.prog W base spare held fuel 26 v0.cells.toList = some x0) (g0 : GoodR Tryz.prog W 26 x0) :
  C Tryz.prog 4 #[v0] W.heap fun v h' => v = .bool true ∧ Le (mp W.heap) (mp h') := by
 obtain ⟨cs, rfl⟩ := ko Tryz.underlying26 o0;obtain ⟨b, K, kc, F, fc, e, hC, hF, hs⟩ := Wo k0 g0;have e : cs = bk2 K b.cards.length kc F b.fmts.length fc := by simpa [Value.cells] using e
 subst e;exact (CS.toLe (law4 hT.1 hT.2 hC hF hs)).mono fun _ _ ⟨⟨_, e, _⟩, hl⟩ => ⟨e, hl⟩
end
section
open Go.ChangeShapes Go.WideShapes Go.ChangeAt Go.RowKit
open Go.ChangeMaps (open_string shut_string)
theorem qe : ownKnob Tryz.prog.godebug = none := by kernel_rfl
theorem uI : laidOutB Tryz.prog = true := by kernel_rfl
theorem uY (os : Os) (started : os.Started) (H : Type) (enc : TypeId × Value → H) :
  ReturnsInHanded {} Tryz.checked os 4 .any (fun w args => (Rows.treeWritesSpec.pre enc Tryz.prog Tryz.f4 [] false w args ∧ laidMetH Tryz.prog Rows.treeWritesRow.laid w) ∧ sizedMet enc Tryz.prog Tryz.f4 (OpenSpec.ofChange Rows.treeWritesSpec) false w args)
   (Rows.treeWritesSpec.post enc Tryz.prog Tryz.f4 false true false false) := by
 refine returnsInHanded_of_change_and (C := Tryz.checked) (X := fun w _ => laidMetH Tryz.prog Rows.treeWritesRow.laid w) (fun _ _ _ hh h => h.of_heap hh) qe started (by kernel_rfl) Tryz.func4
  (ChangeSpec.witness_shaped (enc := enc) (C := Tryz.checked) (os := os) (X := fun w _ => laidMetH Tryz.prog Rows.treeWritesRow.laid w) false (World.laidAll Tryz.prog os Rows.treeWritesRow.laid) #[.agg #[.slice none 0 0, .slice none 0 0]] 8 (World.laidAll_os _ _ _)
   (World.shaped_of_ZipB (by kernel_rfl) (by kernel_rfl)) (by kernel_rfl) (by kernel_rfl) (by kernel_rfl)
   (by rw [MakeChecks.laidMetH_plain _ _ _ (by kernel_rfl)]; exact laidMet_laidAll _ (by kernel_rfl) (by kernel_rfl))) ?_
 intro W base args ds gs before hval0 hW _ hsz0 hL _;have hsz : (DataW.weightsEach Tryz.prog (Tryz.f4.params.toList ++ Rows.treeWritesSpec.plain.varTypes Tryz.prog) (ds ++ gs)).all (· ≤ reachBytes) = true := hsz0;clear hsz0;have hval : ∀ (j : Nat) t v, Tryz.f4.params[j]? = some t → args[j]? = some v → Value.okWide Tryz.prog W .any base t v := hval0;have hW' := hW
 obtain ⟨p, q, hA0, hV, rfl, hfz, hnd⟩ := hW;have hA : DataW.TrodAll enc Tryz.prog W 0 (fun _ => true) true Tryz.f4.params.toList args.toList ds p := hA0;rw [Tryz.params4] at hA hval hsz;obtain ⟨v0, vs0, d0, ds0, p0, q0, hargs, rfl, rfl, h0, r0⟩ := trodAll_cons hA;obtain ⟨rfl, rfl, rfl⟩ := trodAll_nil r0;obtain rfl : args = #[v0] := by cases args; simp_all
 obtain ⟨rfl, rfl⟩ := trodVars_none hV;have k0 := h0;have lt0 : ∀ x ∈ p0, x.block < W.heap.size := by obtain ⟨m, hm⟩ := k0; exact DataW.trod_lt m _ _ _ hm
 obtain ⟨fu0, hf0⟩ := h0;have g0 : GoodR Tryz.prog W 26 (d0, p0) := ⟨fun b o hm => hfz b o (by simp [hm]), fun k hk => of_decide_eq_true (List.all_eq_true.1 hsz k (DataW.weights_mem_each (j := 0) (t := 26) rfl rfl k hk))⟩;clear hA0 hval0;refine (Wq (jT W (jy hL) v0 (hval 0 26 v0 rfl rfl) hf0 g0)).mono fun e W' ⟨he, bel⟩ => ?_;subst he
 exact ⟨_, rfl, _, _, _, [], _, [], hW', trodAll_mk1 (shut_bool Tryz.underlying4 _), (trodAll_cons_mk (Below.trod uI (by kernel_rfl) (of_decide_eq_true (by kernel_rfl)) k0 bel lt0) trodAll_mk0), rfl, bel.frame _, fun h => by cases h⟩
theorem uy : Rows.TreeWritesSaid :=
 OpenClaim.holds_of_wide 4 Tryz.f4 rfl rfl rfl rfl rfl rfl rfl ⟨rfl, rfl, rfl, rfl, rfl⟩ rfl rfl rfl rfl rfl (by kernel_rfl) Tryz.func4 (by kernel_rfl)
  (of_decide_eq_true (by kernel_rfl)) (by unfold Func.isWrapper; first | (rw [if_pos (by decide +kernel)]; kernel_rfl) | (rw [if_neg (by decide +kernel)]; exact ⟨rfl, rfl⟩))
  (fun os started H enc _ => uY os started H enc)
theorem treeWrites_card : Rows.TreeWritesCardSaid :=
 Claim7.holds_tied_plain_at .later [] [.data, .data, .data, .data, .listed, .data, .pinned] true (true, "ac0d35c5b2af05093172e8dd32a67d05449e0bd1ba6305de010b3a77ebe17cd0") true
  uy (fun _ h => by cases h) (by kernel_rfl) (fun _ h => by cases h) treeWrites_row_tie rfl ⟨rfl, rfl⟩ (by kernel_rfl) rfl
  (fun f fn hf hfn => by
   obtain rfl : f = 4 := Option.some.inj ((show Tryz.prog.funcNamed Rows.treeWritesRow.func = some 4 by kernel_rfl).symm.trans hf) |>.symm
   obtain rfl : fn = Tryz.f4 := (Option.some.inj (Tryz.func4.symm.trans hfn)).symm
   exact ⟨by kernel_rfl, fun j t ht => by
    rw [Tryz.params4] at ht
    have h3 : t = 26 := by
     rcases j with _ | j
     ·simp at ht; subst ht; decide
     ·simp at ht
    rcases h3 with rfl
    ·exact (show Tryz.prog.wantsStandIn 26 = false by kernel_rfl)⟩)
  (by kernel_rfl)
#print axioms treeWrites_card
end
end Go.Proofs.YtpgiokjfkcddeaaGreatDoor
