/- Parts of the proof: contracts of functions of the program, and plain lemmas. No condition. -/
import Derived.Test.YtpgiokjfkcddeaaGreatDoorTsA
import Derived.Test.YtpgiokjfkcddeaaGreatDoorRows
import Derived.Lib.LaidU8T
import Derived.MakeChecks
import Derived.Test.YtpgiokjfkcddeaaGreatDoorCards
import Derived.Test.YtpgiokjfkcddeaaGreatDoorTie
import Derived.Test.YtpgiokjfkcddeaaGreatDoorEng2
import Derived.ProofKit
import Derived.OpenShut
import Derived.LaidMore
import Derived.Lay
import Derived.SevenTiedAt
import Derived.Stop.Joined
import Derived.SizedLaws
set_option maxHeartbeats 64000000
set_option maxRecDepth 100000
namespace Go.Proofs.YtpgiokjfkcddeaaGreatDoor
open Go.Eng
section
open Wd Tp Kd
variable {m : Mp} {b c d : Nat} {A : Option Addr} {ws : List Wrd} {s : RSt} {str : List UInt8}
theorem pFmt_eq {n : Nat} {at0 : Int} : pFmt n at0 = fun ts => (pName ts).bind fun nm ts => (Tp.must sLb ts).bind fun _ ts => pRules fmtKeys (fmtRead n) (fun _ => 0) n [] (⟨nm, 0, 0, 0, [], [], at0⟩ : FmtT) ts := rfl
abbrev zfm : List Value := [.string (bs []), .int .i64 0, .int .i64 0, .int .i64 0, .slice none 0 0, .slice none 0 0, .int .i64 0]
abbrev fmV : FmtT → Value → List Ent → Prop := fun x v Es => ∃ (q : FmtC) (e : Ent), v = .agg (FmtC.v q x).toArray ∧ Es = [e] ∧ FmtOk x ∧ ∀ ns, e.inv ns → RdN ns q.A q.ca x.banned ∧ RdN ns q.B q.cb x.single
structure FdS where
 j : Nat
 s : RSt
 seen : List (List UInt8)
 x : FmtT
 q : FmtC
 K : Option Addr
 kc : Nat
 o : Ent
theorem format27 {n : Nat} {at0 : Int} (hw : WsR m A ws) (hs : Okk ws s) (hsm : ws.length ≤ 65537) (hok : s.e = 0 → s.ts.length < n) : DcC 27 [ptr b, .int .i64 at0] m b A c ws 0 0 s (pFmt n at0) fmV := by
 refine zp [.cell 4 63] Tryz.func27 rfl rfl rfl ?_;refine tr 2 ?_;refine Al 6 zl63 fun b1 => ?_;refine C1 cl76 rfl .h1 (fun m' hm he => name76 (hw.mono hm) hs hsm) ?_;rintro _ _ ⟨nm, t1, _, ht1, ⟨rfl, rfl, hnl⟩, rfl⟩;have hLt1 := ht1.le (fun _ => yS);refine pe 0 (zK zl63 pl63 rfl rfl) ?_;refine Al 0 zl63 fun b2 => ?_;refine Sg 5 ag63 .here ?_
 refine C1 cl79 rfl .h1 (fun m' hm he => must79 (str := sLb) (hw.mono hm) ht1.ok hsm) ?_;rintro _ _ ⟨_, t3, _, ht3, ⟨rfl, rfl⟩, rfl⟩;have hLt3 := ht3.le (fun _ => zF);refine vr 9 ?_;refine yU 9 1 ?_
 refine zc (α := FdS) (fun y => [(0, ptr b), (4, ptr b1), (5, ptr b2), (6, .slice y.K y.seen.length y.kc)]) (fun y => [rf b A c ws 0 y.s, own 9 1 y.K y.seen.length y.kc (y.seen.map strV), cel b2 (FmtC.v y.q y.x) 63, y.o, cel b1 zfm 63])
  (fun y => Ust ws fmtKeys (fmtRead n) (fun _ => 0) (pRules fmtKeys (fmtRead n) (fun _ => 0) n [] (⟨nm, 0, 0, 0, [], [], at0⟩ : FmtT)) t3 y.j y.seen y.x y.s ∧ (y.s.e = 0 → y.s.ts.length < y.j ∧ y.s.ts.length < n ∧ y.seen.length + y.s.ts.length ≤ 65537) ∧ FmtOk y.x ∧ ∀ ns, y.o.inv ns → RdN ns y.q.A y.q.ca y.x.banned ∧ RdN ns y.q.B y.q.cb y.x.single) (fun y => y.j)
  ⟨n, t3, [], ⟨nm, 0, 0, 0, [], [], at0⟩, ⟨none, 0, none, 0⟩, none, 0, pack []⟩ ⟨rfl, rfl, rfl, rfl, trivial⟩ (.cons .h1 (.cons .here (.cons .here (Pick.nilE .p0)))) ⟨⟨ht3.ok, fun _ _ h => h⟩, fun h0 => ?_, ⟨hnl, Nat.zero_le _, (fun s h => by cases h), Nat.zero_le _, (fun s h => by cases h)⟩, fun ns _ => ⟨RdN.z _, RdN.z _⟩⟩ ?_
 ·have h9 := hLt3 h0;have h7 := hLt1 h9.1;have h6 := hok h7.1;have h5 := (hs.pos h7.1).len;exact ⟨by show t3.ts.length < n; omega, by show t3.ts.length < n; omega, by show 0 + t3.ts.length ≤ _; omega⟩
 have hfin : ∀ {x' : FmtT} {sf : RSt}, Stp ws (pRules fmtKeys (fmtRead n) (fun _ => 0) n [] (⟨nm, 0, 0, 0, [], [], at0⟩ : FmtT)) t3 x' sf → Stp ws (pFmt n at0) s x' sf := fun h => by
  rw [pFmt_eq];exact ht1.bind (ht3.bind h)
 clear hLt3;rintro ⟨j, s1, seen, x, q, K, kc, o⟩ ⟨hU, hlen, hfo, hes⟩;dsimp only at hU hlen hfo hes;dsimp only;refine tr 4 ?_;refine C1 cl23 rfl .here (fun m' hm he => fine23) ?_;rintro _ _ ⟨rfl, rfl⟩;by_cases hf : s1.e = 0
 rotate_left
 ·rw [decide_eq_false hf];refine vr 10 ?_;refine zD ?_;refine zB ?_;refine qt 4 ?_;refine C1 cl79 rfl .here (fun m' hm he => must79 (str := sRb) (hw.mono hm) (hU.bad (x' := x) hf).ok hsm) ?_;rintro _ _ ⟨_, t5, _, ht5, ⟨rfl, rfl⟩, rfl⟩;obtain rfl := ht5.2.1 hf;refine vr 4 ?_;refine Lc 0 ag63 .h2 ?_;refine Sg 3 ag63 .h4 ?_
  exact zM [_] ⟨⟨b1, _, _, _, rfl, .h4, .inr ⟨rfl, rfl⟩⟩, trivial⟩ _ (.cons .here .p2) ⟨x, t5, [o], hfin (hU.bad (x' := x) hf), ⟨q, o, rfl, rfl, hfo, hes⟩, rfl⟩
 rw [decide_eq_true hf];obtain ⟨hj, hk, hsl⟩ := hlen hf;obtain ⟨j, rfl⟩ : ∃ j', j = j' + 1 := ⟨j - 1, by omega⟩;refine vr 2 ?_;refine C1 cl24 rfl .here (fun m' hm he => is24 (str := sRb) (hw.mono hm) hU.1 hsm) ?_;rintro _ _ ⟨rfl, rfl⟩;rw [decide_eq_true hf, Bool.true_and];cases hkb : isW sRb s1.ts with
 | true =>
   refine vr 7 ?_;refine zD ?_;refine zB ?_;refine qt 4 ?_;refine C1 cl79 rfl .here (fun m' hm he => must79 (str := sRb) (hw.mono hm) hU.1 hsm) ?_;rintro _ _ ⟨_, t5, _, ht5, ⟨rfl, rfl⟩, rfl⟩;have hLt5 := ht5.le (fun _ => zF);refine vr 4 ?_;refine Lc 0 ag63 .h2 ?_;refine Sg 3 ag63 .h4 ?_
   exact zM [_] ⟨⟨b1, _, _, _, rfl, .h4, .inr ⟨rfl, rfl⟩⟩, trivial⟩ _ (.cons .here .p2) ⟨x, t5, [o], hfin (hU.stop hkb (by decide) ht5), ⟨q, o, rfl, rfl, hfo, hes⟩, rfl⟩
 | false =>
   obtain ⟨w, hwd, hat⟩ := hU.1.word hw;have hwd := hwd hf;subst hwd;have hA := hU.1.isSome hw;have hlt := hU.1.lt;skip;cases hki0 : isW sLeast s1.ts with
   | true =>
     obtain ⟨h1, htx⟩ := xE hU.1 hf hki0 (by decide);rw [htx] at hat;refine vr 9 ?_;refine zi (sT [0, 1, 2, 4, 5, 6, 103, 107, 8, 9, 110, 11] .done) mixed (by kernel_rfl) (fun _ _ _ _ hq => hq) ?_;refine vt 6 ?_;refine Vl 0 rfl sg51 .here ?_;refine Vl 0 rfl sg3 .here ?_;refine Vt 1 rfl (zE ez51 rfl rfl hA (by omega)) ?_;refine Vu 1 rfl (zI sg9 rfl (hat.at_ rfl)) ?_
     refine Vm 5 ?_;refine C1 cl24 rfl .here (fun m' hm he => is24 (str := sLeast) (hw.mono hm) hU.1 hsm) ?_;rintro _ _ ⟨rfl, rfl⟩;rw [decide_eq_true hf, Bool.true_and, hki0];refine vr 31 ?_;refine zG (zh cl80 rfl (.cons .here .k0) (fun m' hm he => once80 (str := sLeast) (hw.mono hm) hU.1 hsm (by omega)) rfl ?_) rfl;rintro _ _ ⟨K2, kc2, rfl, rfl⟩
     have hta : (s1.tw sLeast seen).at_ = s1.at_ := w3;have hnx := vi (k := sLeast) (l := seen) hU.1 hf (by rw [h1]; decide);have htl := yg (ts := s1.ts) (by rw [h1]; decide);have hnl2 : (s1.tw sLeast seen).nx.ts.length = s1.ts.tail.length := by show (s1.tw sLeast seen).ts.tail.length = _; rw [vg]
     have hsn : (seen ++ [sLeast]).length = seen.length + 1 := by simp
     refine vr 8 ?_;refine Lb 0 sg3 .here ?_;refine Pa 2 ?_;refine Sr 11 co3 .here .h1 ?_;refine ctr 6 ?_;refine C1 cl78 rfl .here (fun m' hm he => number78 (hw.mono hm) hnx hsm) ?_;rintro _ _ ⟨va, t4, _, ht4, ⟨rfl, rfl⟩, rfl⟩;have hLt4 := ht4.le (fun _ => zg);refine vr 1 ?_;refine Sr 5 co3 .h2 .h1 ?_
     refine C1 cl79 rfl .here (fun m' hm he => must79 (str := sSemi) (hw.mono hm) ht4.ok hsm) ?_;rintro _ _ ⟨_, t5, _, ht5, ⟨rfl, rfl⟩, rfl⟩;have hLt5 := ht5.le (fun _ => zF);refine vr 2 ?_
     exact QR (⟨j, t5, seen ++ [sLeast], { x with least := va }, q, K2, kc2, o⟩ : FdS) (Pick.refl _) ⟨hU.key hf hkb h1 htx (by decide) ((ht4.bind (Q := fun a ts => (Tp.must sSemi ts).bind fun _ ts => .ok { x with least := a } ts) (ht5.bind (Q := fun _ ts => .ok { x with least := va } ts) (Stp.pure ht5.ok))).congr fun _ => rfl), fun h0 => by have h9 := hLt5 h0; have h8 := hLt4 h9.1; exact ⟨by show t5.ts.length < j; omega, by show t5.ts.length < n; omega, by rw [hsn]; show _ + t5.ts.length ≤ _; omega⟩, ⟨hfo.name, hfo.ban, hfo.bans, hfo.sin, hfo.sins⟩, hes⟩ (Nat.lt_succ_self _)
   | false =>
   cases hki1 : isW sMost s1.ts with
   | true =>
     obtain ⟨h1, htx⟩ := xE hU.1 hf hki1 (by decide);rw [htx] at hat;refine vr 9 ?_;refine zi (sT [0, 1, 2, 4, 5, 6, 103, 107, 8, 9, 110, 11] .done) mixed (by kernel_rfl) (fun _ _ _ _ hq => hq) ?_;refine vt 6 ?_;refine Vl 0 rfl sg51 .here ?_;refine Vl 0 rfl sg3 .here ?_;refine Vt 1 rfl (zE ez51 rfl rfl hA (by omega)) ?_;refine Vu 1 rfl (zI sg9 rfl (hat.at_ rfl)) ?_
     refine Vm 5 ?_;refine C1 cl24 rfl .here (fun m' hm he => is24 (str := sLeast) (hw.mono hm) hU.1 hsm) ?_;rintro _ _ ⟨rfl, rfl⟩;rw [decide_eq_true hf, Bool.true_and, zS hki1 (by decide : sMost ≠ sLeast)];refine vr 3 ?_;refine C1 cl24 rfl .here (fun m' hm he => is24 (str := sMost) (hw.mono hm) hU.1 hsm) ?_;rintro _ _ ⟨rfl, rfl⟩;rw [decide_eq_true hf, Bool.true_and, hki1];refine vr 27 ?_
     refine zG (zh cl80 rfl (.cons .here .k0) (fun m' hm he => once80 (str := sMost) (hw.mono hm) hU.1 hsm (by omega)) rfl ?_) rfl;rintro _ _ ⟨K2, kc2, rfl, rfl⟩;have hta : (s1.tw sMost seen).at_ = s1.at_ := w3;have hnx := vi (k := sMost) (l := seen) hU.1 hf (by rw [h1]; decide);have htl := yg (ts := s1.ts) (by rw [h1]; decide)
     have hnl2 : (s1.tw sMost seen).nx.ts.length = s1.ts.tail.length := by show (s1.tw sMost seen).ts.tail.length = _; rw [vg]
     have hsn : (seen ++ [sMost]).length = seen.length + 1 := by simp
     refine vr 8 ?_;refine Lb 0 sg3 .here ?_;refine Pa 2 ?_;refine Sr 11 co3 .here .h1 ?_;refine cf 6 rfl (by decide) ?_;refine ctr 6 ?_;refine C1 cl78 rfl .here (fun m' hm he => number78 (hw.mono hm) hnx hsm) ?_;rintro _ _ ⟨va, t4, _, ht4, ⟨rfl, rfl⟩, rfl⟩;have hLt4 := ht4.le (fun _ => zg);refine vr 1 ?_;refine Sr 5 co3 .h2 .h2 ?_
     refine C1 cl79 rfl .here (fun m' hm he => must79 (str := sSemi) (hw.mono hm) ht4.ok hsm) ?_;rintro _ _ ⟨_, t5, _, ht5, ⟨rfl, rfl⟩, rfl⟩;have hLt5 := ht5.le (fun _ => zF);refine vr 2 ?_
     exact QR (⟨j, t5, seen ++ [sMost], { x with most := va }, q, K2, kc2, o⟩ : FdS) (Pick.refl _) ⟨hU.key hf hkb h1 htx (by decide) ((ht4.bind (Q := fun a ts => (Tp.must sSemi ts).bind fun _ ts => .ok { x with most := a } ts) (ht5.bind (Q := fun _ ts => .ok { x with most := va } ts) (Stp.pure ht5.ok))).congr fun _ => rfl), fun h0 => by have h9 := hLt5 h0; have h8 := hLt4 h9.1; exact ⟨by show t5.ts.length < j; omega, by show t5.ts.length < n; omega, by rw [hsn]; show _ + t5.ts.length ≤ _; omega⟩, ⟨hfo.name, hfo.ban, hfo.bans, hfo.sin, hfo.sins⟩, hes⟩ (Nat.lt_succ_self _)
   | false =>
   cases hki2 : isW sCopies s1.ts with
   | true =>
     obtain ⟨h1, htx⟩ := xE hU.1 hf hki2 (by decide);rw [htx] at hat;refine vr 9 ?_;refine zi (sT [0, 1, 2, 4, 5, 6, 103, 107, 8, 9, 110, 11] .done) mixed (by kernel_rfl) (fun _ _ _ _ hq => hq) ?_;refine vt 6 ?_;refine Vl 0 rfl sg51 .here ?_;refine Vl 0 rfl sg3 .here ?_;refine Vt 1 rfl (zE ez51 rfl rfl hA (by omega)) ?_;refine Vu 1 rfl (zI sg9 rfl (hat.at_ rfl)) ?_
     refine Vm 5 ?_;refine C1 cl24 rfl .here (fun m' hm he => is24 (str := sLeast) (hw.mono hm) hU.1 hsm) ?_;rintro _ _ ⟨rfl, rfl⟩;rw [decide_eq_true hf, Bool.true_and, zS hki2 (by decide : sCopies ≠ sLeast)];refine vr 3 ?_;refine C1 cl24 rfl .here (fun m' hm he => is24 (str := sMost) (hw.mono hm) hU.1 hsm) ?_;rintro _ _ ⟨rfl, rfl⟩
     rw [decide_eq_true hf, Bool.true_and, zS hki2 (by decide : sCopies ≠ sMost)];refine vr 4 ?_;refine C1 cl24 rfl .here (fun m' hm he => is24 (str := sCopies) (hw.mono hm) hU.1 hsm) ?_;rintro _ _ ⟨rfl, rfl⟩;rw [decide_eq_true hf, Bool.true_and, hki2];refine vr 22 ?_
     refine zG (zh cl80 rfl (.cons .here .k0) (fun m' hm he => once80 (str := sCopies) (hw.mono hm) hU.1 hsm (by omega)) rfl ?_) rfl;rintro _ _ ⟨K2, kc2, rfl, rfl⟩;have hta : (s1.tw sCopies seen).at_ = s1.at_ := w3;have hnx := vi (k := sCopies) (l := seen) hU.1 hf (by rw [h1]; decide);have htl := yg (ts := s1.ts) (by rw [h1]; decide)
     have hnl2 : (s1.tw sCopies seen).nx.ts.length = s1.ts.tail.length := by show (s1.tw sCopies seen).ts.tail.length = _; rw [vg]
     have hsn : (seen ++ [sCopies]).length = seen.length + 1 := by simp
     refine vr 8 ?_;refine Lb 0 sg3 .here ?_;refine Pa 2 ?_;refine Sr 11 co3 .here .h1 ?_;refine cf 6 rfl (by decide) ?_;refine cf 6 rfl (by decide) ?_;refine ctr 6 ?_;refine C1 cl78 rfl .here (fun m' hm he => number78 (hw.mono hm) hnx hsm) ?_;rintro _ _ ⟨va, t4, _, ht4, ⟨rfl, rfl⟩, rfl⟩;have hLt4 := ht4.le (fun _ => zg);refine vr 1 ?_;refine Sr 5 co3 .h2 .h3 ?_
     refine C1 cl79 rfl .here (fun m' hm he => must79 (str := sSemi) (hw.mono hm) ht4.ok hsm) ?_;rintro _ _ ⟨_, t5, _, ht5, ⟨rfl, rfl⟩, rfl⟩;have hLt5 := ht5.le (fun _ => zF);refine vr 2 ?_
     exact QR (⟨j, t5, seen ++ [sCopies], { x with copies := va }, q, K2, kc2, o⟩ : FdS) (Pick.refl _) ⟨hU.key hf hkb h1 htx (by decide) ((ht4.bind (Q := fun a ts => (Tp.must sSemi ts).bind fun _ ts => .ok { x with copies := a } ts) (ht5.bind (Q := fun _ ts => .ok { x with copies := va } ts) (Stp.pure ht5.ok))).congr fun _ => rfl), fun h0 => by have h9 := hLt5 h0; have h8 := hLt4 h9.1; exact ⟨by show t5.ts.length < j; omega, by show t5.ts.length < n; omega, by rw [hsn]; show _ + t5.ts.length ≤ _; omega⟩, ⟨hfo.name, hfo.ban, hfo.bans, hfo.sin, hfo.sins⟩, hes⟩ (Nat.lt_succ_self _)
   | false =>
   cases hki3 : isW sBanned s1.ts with
   | true =>
     obtain ⟨h1, htx⟩ := xE hU.1 hf hki3 (by decide);rw [htx] at hat;refine vr 9 ?_;refine zi (sT [0, 1, 2, 4, 5, 6, 103, 107, 8, 9, 110, 11] .done) mixed (by kernel_rfl) (fun _ _ _ _ hq => hq) ?_;refine vt 6 ?_;refine Vl 0 rfl sg51 .here ?_;refine Vl 0 rfl sg3 .here ?_;refine Vt 1 rfl (zE ez51 rfl rfl hA (by omega)) ?_;refine Vu 1 rfl (zI sg9 rfl (hat.at_ rfl)) ?_
     refine Vm 5 ?_;refine C1 cl24 rfl .here (fun m' hm he => is24 (str := sLeast) (hw.mono hm) hU.1 hsm) ?_;rintro _ _ ⟨rfl, rfl⟩;rw [decide_eq_true hf, Bool.true_and, zS hki3 (by decide : sBanned ≠ sLeast)];refine vr 3 ?_;refine C1 cl24 rfl .here (fun m' hm he => is24 (str := sMost) (hw.mono hm) hU.1 hsm) ?_;rintro _ _ ⟨rfl, rfl⟩
     rw [decide_eq_true hf, Bool.true_and, zS hki3 (by decide : sBanned ≠ sMost)];refine vr 4 ?_;refine C1 cl24 rfl .here (fun m' hm he => is24 (str := sCopies) (hw.mono hm) hU.1 hsm) ?_;rintro _ _ ⟨rfl, rfl⟩;rw [decide_eq_true hf, Bool.true_and, zS hki3 (by decide : sBanned ≠ sCopies)];refine vr 4 ?_
     refine C1 cl24 rfl .here (fun m' hm he => is24 (str := sBanned) (hw.mono hm) hU.1 hsm) ?_;rintro _ _ ⟨rfl, rfl⟩;rw [decide_eq_true hf, Bool.true_and, hki3];refine vr 17 ?_;refine zG (zh cl80 rfl (.cons .here .k0) (fun m' hm he => once80 (str := sBanned) (hw.mono hm) hU.1 hsm (by omega)) rfl ?_) rfl;rintro _ _ ⟨K2, kc2, rfl, rfl⟩;have hta : (s1.tw sBanned seen).at_ = s1.at_ := w3
     have hnx := vi (k := sBanned) (l := seen) hU.1 hf (by rw [h1]; decide);have htl := yg (ts := s1.ts) (by rw [h1]; decide);have hnl2 : (s1.tw sBanned seen).nx.ts.length = s1.ts.tail.length := by show (s1.tw sBanned seen).ts.tail.length = _; rw [vg]
     have hsn : (seen ++ [sBanned]).length = seen.length + 1 := by simp
     refine vr 8 ?_;refine Lb 0 sg3 .here ?_;refine Pa 2 ?_;refine Sr 11 co3 .here .h1 ?_;refine cf 6 rfl (by decide) ?_;refine cf 6 rfl (by decide) ?_;refine cf 6 rfl (by decide) ?_;refine ctr 6 ?_;refine C1 cl83 rfl .here (fun m' hm he => names83 (n := n) (hw.mono hm) hnx hsm (fun h0 => by omega)) ?_;rintro _ _ ⟨l, t4, _, ht4, ⟨KL, kl, e, rfl, rfl, hll, hls, he⟩, rfl⟩
     have hLt4 := ht4.le (fun h0 => xN n [] _ (by omega));refine vr 1 ?_;refine Sr 5 co61 .h3 .h4 ?_;refine C1 cl79 rfl .here (fun m' hm he => must79 (str := sSemi) (hw.mono hm) ht4.ok hsm) ?_;rintro _ _ ⟨_, t5, _, ht5, ⟨rfl, rfl⟩, rfl⟩;have hLt5 := ht5.le (fun _ => zF);refine vr 2 ?_
     exact QR (⟨j, t5, seen ++ [sBanned], { x with banned := l }, ⟨KL, kl, q.B, q.cb⟩, K2, kc2, pack [e, o]⟩ : FdS) (.cons .here (.cons .h1 (.cons .h1 (Pick.pack2 (.cons .here .pp))))) ⟨hU.key hf hkb h1 htx (by decide) ((ht4.bind (Q := fun l ts => (Tp.must sSemi ts).bind fun _ ts => .ok { x with banned := l } ts) (ht5.bind (Q := fun _ ts => .ok { x with banned := l } ts) (Stp.pure ht5.ok))).congr fun _ => rfl), fun h0 => by have h9 := hLt5 h0; have h8 := hLt4 h9.1; exact ⟨by show t5.ts.length < j; omega, by show t5.ts.length < n; omega, by rw [hsn]; show _ + t5.ts.length ≤ _; omega⟩, ⟨hfo.name, hll, hls, hfo.sin, hfo.sins⟩, fun ns h => ⟨he ns (h.1 _ (.head _)), (hes ns (h.1 _ (.tail _ (.head _)))).2⟩⟩ (Nat.lt_succ_self _)
   | false =>
   cases hki4 : isW sSingle s1.ts with
   | true =>
     obtain ⟨h1, htx⟩ := xE hU.1 hf hki4 (by decide);rw [htx] at hat;refine vr 9 ?_;refine zi (sT [0, 1, 2, 4, 5, 6, 103, 107, 8, 9, 110, 11] .done) mixed (by kernel_rfl) (fun _ _ _ _ hq => hq) ?_;refine vt 6 ?_;refine Vl 0 rfl sg51 .here ?_;refine Vl 0 rfl sg3 .here ?_;refine Vt 1 rfl (zE ez51 rfl rfl hA (by omega)) ?_;refine Vu 1 rfl (zI sg9 rfl (hat.at_ rfl)) ?_
     refine Vm 5 ?_;refine C1 cl24 rfl .here (fun m' hm he => is24 (str := sLeast) (hw.mono hm) hU.1 hsm) ?_;rintro _ _ ⟨rfl, rfl⟩;rw [decide_eq_true hf, Bool.true_and, zS hki4 (by decide : sSingle ≠ sLeast)];refine vr 3 ?_;refine C1 cl24 rfl .here (fun m' hm he => is24 (str := sMost) (hw.mono hm) hU.1 hsm) ?_;rintro _ _ ⟨rfl, rfl⟩
     rw [decide_eq_true hf, Bool.true_and, zS hki4 (by decide : sSingle ≠ sMost)];refine vr 4 ?_;refine C1 cl24 rfl .here (fun m' hm he => is24 (str := sCopies) (hw.mono hm) hU.1 hsm) ?_;rintro _ _ ⟨rfl, rfl⟩;rw [decide_eq_true hf, Bool.true_and, zS hki4 (by decide : sSingle ≠ sCopies)];refine vr 4 ?_
     refine C1 cl24 rfl .here (fun m' hm he => is24 (str := sBanned) (hw.mono hm) hU.1 hsm) ?_;rintro _ _ ⟨rfl, rfl⟩;rw [decide_eq_true hf, Bool.true_and, zS hki4 (by decide : sSingle ≠ sBanned)];refine vr 4 ?_;refine C1 cl24 rfl .here (fun m' hm he => is24 (str := sSingle) (hw.mono hm) hU.1 hsm) ?_;rintro _ _ ⟨rfl, rfl⟩;rw [decide_eq_true hf, Bool.true_and, hki4];refine vr 12 ?_
     refine zG (zh cl80 rfl (.cons .here .k0) (fun m' hm he => once80 (str := sSingle) (hw.mono hm) hU.1 hsm (by omega)) rfl ?_) rfl;rintro _ _ ⟨K2, kc2, rfl, rfl⟩;have hta : (s1.tw sSingle seen).at_ = s1.at_ := w3;have hnx := vi (k := sSingle) (l := seen) hU.1 hf (by rw [h1]; decide);have htl := yg (ts := s1.ts) (by rw [h1]; decide)
     have hnl2 : (s1.tw sSingle seen).nx.ts.length = s1.ts.tail.length := by show (s1.tw sSingle seen).ts.tail.length = _; rw [vg]
     have hsn : (seen ++ [sSingle]).length = seen.length + 1 := by simp
     refine vr 8 ?_;refine Lb 0 sg3 .here ?_;refine Pa 2 ?_;refine Sr 11 co3 .here .h1 ?_;refine cf 6 rfl (by decide) ?_;refine cf 6 rfl (by decide) ?_;refine cf 6 rfl (by decide) ?_;refine cf 6 rfl (by decide) ?_;refine ctr 6 ?_;refine C1 cl83 rfl .here (fun m' hm he => names83 (n := n) (hw.mono hm) hnx hsm (fun h0 => by omega)) ?_
     rintro _ _ ⟨l, t4, _, ht4, ⟨KL, kl, e, rfl, rfl, hll, hls, he⟩, rfl⟩;have hLt4 := ht4.le (fun h0 => xN n [] _ (by omega));refine vr 1 ?_;refine Sr 5 co61 .h3 .h5 ?_;refine C1 cl79 rfl .here (fun m' hm he => must79 (str := sSemi) (hw.mono hm) ht4.ok hsm) ?_;rintro _ _ ⟨_, t5, _, ht5, ⟨rfl, rfl⟩, rfl⟩;have hLt5 := ht5.le (fun _ => zF);refine vr 2 ?_
     exact QR (⟨j, t5, seen ++ [sSingle], { x with single := l }, ⟨q.A, q.ca, KL, kl⟩, K2, kc2, pack [e, o]⟩ : FdS) (.cons .here (.cons .h1 (.cons .h1 (Pick.pack2 (.cons .here .pp))))) ⟨hU.key hf hkb h1 htx (by decide) ((ht4.bind (Q := fun l ts => (Tp.must sSemi ts).bind fun _ ts => .ok { x with single := l } ts) (ht5.bind (Q := fun _ ts => .ok { x with single := l } ts) (Stp.pure ht5.ok))).congr fun _ => rfl), fun h0 => by have h9 := hLt5 h0; have h8 := hLt4 h9.1; exact ⟨by show t5.ts.length < j; omega, by show t5.ts.length < n; omega, by rw [hsn]; show _ + t5.ts.length ≤ _; omega⟩, ⟨hfo.name, hfo.ban, hfo.bans, hll, hls⟩, fun ns h => ⟨(hes ns (h.1 _ (.tail _ (.head _)))).1, he ns (h.1 _ (.head _))⟩⟩ (Nat.lt_succ_self _)
   | false =>
   refine vr 9 ?_;refine zi (sT [0, 1, 2, 4, 5, 6, 103, 107, 8, 9, 110, 11] .done) mixed (by kernel_rfl) (fun _ _ _ _ hq => hq) ?_;refine vt 6 ?_;refine Vl 0 rfl sg51 .here ?_;refine Vl 0 rfl sg3 .here ?_;refine Vt 1 rfl (zE ez51 rfl rfl hA (by omega)) ?_;refine Vu 1 rfl (zI sg9 rfl (hat.at_ rfl)) ?_;refine Vm 5 ?_
   refine C1 cl24 rfl .here (fun m' hm he => is24 (str := sLeast) (hw.mono hm) hU.1 hsm) ?_;rintro _ _ ⟨rfl, rfl⟩;rw [decide_eq_true hf, Bool.true_and, hki0];refine vr 3 ?_;refine C1 cl24 rfl .here (fun m' hm he => is24 (str := sMost) (hw.mono hm) hU.1 hsm) ?_;rintro _ _ ⟨rfl, rfl⟩;rw [decide_eq_true hf, Bool.true_and, hki1];refine vr 4 ?_
   refine C1 cl24 rfl .here (fun m' hm he => is24 (str := sCopies) (hw.mono hm) hU.1 hsm) ?_;rintro _ _ ⟨rfl, rfl⟩;rw [decide_eq_true hf, Bool.true_and, hki2];refine vr 4 ?_;refine C1 cl24 rfl .here (fun m' hm he => is24 (str := sBanned) (hw.mono hm) hU.1 hsm) ?_;rintro _ _ ⟨rfl, rfl⟩;rw [decide_eq_true hf, Bool.true_and, hki3];refine vr 4 ?_
   refine C1 cl24 rfl .here (fun m' hm he => is24 (str := sSingle) (hw.mono hm) hU.1 hsm) ?_;rintro _ _ ⟨rfl, rfl⟩;rw [decide_eq_true hf, Bool.true_and, hki4];refine vr 8 ?_
   have hnk : ¬ ((hd s1.ts).kind = 1 ∧ (hd s1.ts).text ∈ fmtKeys) := fun ⟨h1, h2⟩ => by
    simp only [fmtKeys, List.mem_cons, List.not_mem_nil, or_false] at h2;rcases h2 with h2 | h2 | h2 | h2 | h2
    ·rw [vk h1 h2] at hki0; cases hki0
    ·rw [vk h1 h2] at hki1; cases hki1
    ·rw [vk h1 h2] at hki2; cases hki2
    ·rw [vk h1 h2] at hki3; cases hki3
    ·rw [vk h1 h2] at hki4; cases hki4
   refine C1 cl25 rfl .here (fun m' hm he => wrong25 120 (hw.mono hm) hU.1 hsm) ?_;rintro _ _ ⟨rfl, rfl⟩;have hb3 : (s1.flt 120).e ≠ 0 := wu (by decide);have hS3 := hU.none (x' := x) hkb hnk;refine vr 5 ?_;refine zD ?_;refine zB ?_;refine qt 4 ?_;refine C1 cl79 rfl .here (fun m' hm he => must79 (str := sRb) (hw.mono hm) (hS3).ok hsm) ?_
   rintro _ _ ⟨_, t5, _, ht5, ⟨rfl, rfl⟩, rfl⟩;obtain rfl := ht5.2.1 hb3;refine vr 4 ?_;refine Lc 0 ag63 .h2 ?_;refine Sg 3 ag63 .h4 ?_;exact zM [_] ⟨⟨b1, _, _, _, rfl, .h4, .inr ⟨rfl, rfl⟩⟩, trivial⟩ _ (.cons .here .p2) ⟨x, s1.flt 120, [o], hfin (hS3), ⟨q, o, rfl, rfl, hfo, hes⟩, rfl⟩
end
section
open Wd Tp Kd
def Bst (ws : List Wrd) (P : List Wrd → R BkT) (s0 : RSt) (j : Nat) (cs : List CardT) (fs : List FmtT) (s : RSt) : Prop :=
 Okk ws s ∧ ∀ bk sf, Stp ws (pBook cardWt ws.length j cs fs) s bk sf → Stp ws P s0 bk sf
section
variable {ws : List Wrd} {P : List Wrd → R BkT} {s0 s : RSt} {j : Nat} {cs : List CardT} {fs : List FmtT}
theorem Bst.bad {bk : BkT} (h : Bst ws P s0 j cs fs s) (hb : s.e ≠ 0) : Stp ws P s0 bk s := h.2 _ _ (Stp.bad h.1 hb)
theorem Bst.stop (h : Bst ws P s0 (j + 1) cs fs s) (hk : (hd s.ts).kind = 0) : Stp ws P s0 ⟨cs, fs⟩ s := h.2 _ _ ((Stp.pure h.1).congr fun _ => by
 unfold pBook
 rw [if_pos hk])
theorem Bst.fail {e : Int} {bk : BkT} (h : Bst ws P s0 (j + 1) cs fs s) (he : e ≠ 0) (hP : pBook cardWt ws.length (j + 1) cs fs s.ts = Tp.fail e s.ts) : Stp ws P s0 bk (s.flt e) := h.2 _ _ ((yX h.1 he).congr fun _ => hP.symm)
theorem Bst.card {x : CardT} {s2 : RSt} (h : Bst ws P s0 (j + 1) cs fs s) (he : s.e = 0) (hk : (hd s.ts).kind ≠ 0) (hc : isW sCard s.ts = true) (hf : fs.length = 0) (hn : cs.length ≠ 240) (h2 : Stp ws (pCard cardWt ws.length (hd s.ts).at_) s.nx x s2) : Bst ws P s0 j (cs ++ [x]) fs s2 :=
 ⟨h2.ok, fun bk sf h3 => h.2 bk sf (Stp.nx he (by
  conv => lhs; unfold pBook
  rw [if_neg hk, if_pos ⟨hc, hf⟩, if_neg hn]) (h2.bind (Q := fun c => pBook cardWt ws.length j (cs ++ [c]) fs) h3))⟩
theorem Bst.fmt {x : FmtT} {s2 : RSt} (h : Bst ws P s0 (j + 1) cs fs s) (he : s.e = 0) (hk : (hd s.ts).kind ≠ 0) (hc : isW sFormat s.ts = true) (hn : fs.length ≠ 240) (h2 : Stp ws (pFmt ws.length (hd s.ts).at_) s.nx x s2) : Bst ws P s0 j cs (fs ++ [x]) s2 :=
 ⟨h2.ok, fun bk sf h3 => h.2 bk sf (Stp.nx he (by
  conv => lhs; unfold pBook
  rw [if_neg hk, if_neg (fun h => by rw [zS hc (by decide : sFormat ≠ sCard)] at h; cases h.1), if_pos hc, if_neg hn]) (h2.bind (Q := fun c => pBook cardWt ws.length j cs (fs ++ [c])) h3))⟩
end
theorem TS_cutB {Pr : Program} {n : Nat} {env : Env} {m : Mp} {L : List Ent} {Q : Post} {α : Type} {a b : Code} {id : Nat} (S : α → Env) (LL : α → List Ent) (F : α → Prop) (h1 : TS Pr n a env m L (blockQ id (roundS m S LL F (fun _ => 0) 1 Q))) (h2 : ∀ y, F y → TS Pr n b (S y) m (LL y) Q) : TS Pr n a env m L (blockQ id (thenQ Pr n b Q)) := by
 intro h hh;refine jA (h1 h hh) ?_
 have key : ∀ e env' h', roundS m S LL F (fun _ => 0) 1 Q e env' h' → thenQ Pr n b Q e env' h' := by
  intro e env' h' hq;cases e with
  | normal =>
    obtain ⟨y, hs, ⟨hF, hH⟩, _⟩ := hq;exact jB (S y) hs (h2 y hF h' hH)
  | exit i => exact hq
  | goto l => exact hq
  | ret => exact hq
  | panic c => exact hq
  | outgrown => exact hq
 intro e env' h' hq;cases e with
 | exit i =>
   unfold blockQ at hq ⊢;by_cases hi : i = id
   ·simp only [hi, if_true] at hq ⊢;exact key _ _ _ hq
   ·simp only [hi, if_false] at hq ⊢;exact key _ _ _ hq
 | normal => exact key _ _ _ hq
 | goto l => exact key _ _ _ hq
 | ret => exact key _ _ _ hq
 | panic c => exact key _ _ _ hq
 | outgrown => exact key _ _ _ hq
structure BdS where
 j : Nat
 s : RSt
 cs : List CardT
 fs : List FmtT
 K : Option Addr
 kc : Nat
 xs : List Value
 F : Option Addr
 fc : Nat
 ys : List Value
 e : Ent
structure BeS where
 s : RSt
 bk : BkT
 K : Option Addr
 kc : Nat
 F : Option Addr
 fc : Nat
 e : Ent
theorem uZ {m : Mp} {str : List UInt8} (hl : str.length ≤ 9223372036854775807) : CS Tryz.prog 8 [.string (bs str)] m [] (ReadPost (readP str)) := by
 refine zp [.cell 2 26, .cell 3 29] Tryz.func8 rfl rfl rfl ?_;refine tr 2 ?_;refine Al 0 zl26 fun b1 => ?_;refine Al 5 zl29 fun b2 => ?_;refine zG ((zw cl22 rfl (fun m' hm he => CutR_ok hl) rfl ?_)) rfl;rintro _ _ hc;cases hcut : cutP str with
 | error er =>
   obtain ⟨e, a⟩ := er;have he0 := YL hcut;have hrp : readP str = .bad e (a : Int) := by rw [readP, hcut]
   rw [hcut] at hc;obtain ⟨rfl, rfl⟩ := hc;unfold faultV;skip;refine vr 3 ?_;refine Al 1 zl29 fun b3 => ?_;refine Sg 6 ag29 .here ?_;refine Lb 0 sg27 .here ?_;refine cta 4 ?_;refine zi (sT [0] (.fork (sT [201, 302, 303] .done) (sT [302, 101, 303] .done))) mixed (by kernel_rfl) (fun _ _ _ _ hq => hq) ?_;refine Vt 0 rfl (zK zl26 pl26 rfl rfl) ?_;refine xV ?_ ?_
   refine xA rfl (yY ag29 rfl .here rfl) rfl rfl rfl ?_;refine zV rfl rfl (zT ag26 rfl rfl rfl .h2 rfl rfl ?_) rfl;refine zV rfl rfl (zT ag29 rfl rfl rfl .h1 rfl rfl ?_) rfl;refine Vm 3 ?_
   ·exact zM [bkV none 0 0 none 0 0, faultV e a] ⟨⟨b1, _, _, _, rfl, .h2, .inr ⟨rfl, rfl⟩⟩, ⟨b2, _, _, _, rfl, .h1, .inr ⟨rfl, rfl⟩⟩, trivial⟩ [] (Pick.nil _) (.inr ⟨e, a, hrp, rfl, rfl⟩)
   ·refine zV rfl rfl (zT ag26 rfl rfl rfl .h2 rfl rfl ?_) rfl;refine Vu 0 rfl (yY ag29 rfl .here rfl) ?_;refine zV rfl rfl (zT ag29 rfl rfl rfl .h1 rfl rfl ?_) rfl;refine Vm 3 ?_;exact zM [bkV none 0 0 none 0 0, faultV e a] ⟨⟨b1, _, _, _, rfl, .h2, .inr ⟨rfl, rfl⟩⟩, ⟨b2, _, _, _, rfl, .h1, .inr ⟨rfl, rfl⟩⟩, trivial⟩ [] (Pick.nil _) (.inr ⟨e, a, hrp, rfl, rfl⟩)
 | ok ws =>
   have hrp : readP str = pBook cardWt ws.length (ws.length + 1) [] [] ws := by rw [readP, hcut]
   have hpos := YK hcut;have hsm := hpos.small;rw [hcut] at hc;obtain ⟨A, c, rfl, rfl⟩ := hc;unfold faultV;refine vr 3 ?_;refine Al 1 zl29 fun b3 => ?_;refine Sg 6 ag29 .here ?_;refine Lb 0 sg27 .here ?_;refine cfo 8 ?_;refine pe 0 (zK zl67 pl67 rfl rfl) ?_;refine Bx 5 rfl fun b4 => ?_;refine Al 4 zl26 fun b5 => ?_;refine zO .h3 (fun ns hi _ hd => ?_)
   have hw : WsR (uni m ns) A ws := (Eng.Own.rd hi).mono (zb hd);have hl2 : Le m (uni m ns) := zW _ _;clear hi hd;refine yU 40 12 ?_;refine yU 63 7 ?_;have hs0 : Okk ws ⟨0, ws, 0, 0⟩ := ⟨hpos.lt, .inl ⟨rfl, rfl, hpos⟩⟩
   refine TS_cutB (α := BeS) (fun _ => [(2, ptr b1), (3, ptr b2), (6, ptr b4), (7, ptr b5)]) (fun y => [rf b4 A c ws 0 y.s, cel b5 [.slice y.K y.bk.cards.length y.kc, .slice y.F y.bk.fmts.length y.fc] 26, y.e, cel b2 [.int .i64 0, .int .i64 0] 29, cel b1 [.slice none 0 0, .slice none 0 0] 26])
    (fun y => Stp ws (pBook cardWt ws.length (ws.length + 1) [] []) ⟨0, ws, 0, 0⟩ y.bk y.s ∧ y.bk.cards.length ≤ 240 ∧ y.bk.fmts.length ≤ 240 ∧ ∀ ns, y.e.inv ns → CardsQ ns y.K y.bk.cards ∧ FmtsQ ns y.F y.bk.fmts) ?_ ?_
   rotate_left
   ·rintro ⟨s, bk, K, kc, F, fc, e⟩ ⟨hS, hcs, hfs, he⟩;dsimp only at hS hcs hfs he;dsimp only;refine tr 4 ?_;refine C1 cl23 rfl .here (fun m' hm he => fine23) ?_;rintro _ _ ⟨rfl, rfl⟩;by_cases hf : s.e = 0
    ·rw [decide_eq_true hf];refine vr 8 ?_;refine Lc 0 ag26 .h1 ?_;refine pe 0 (zK zl29 pl29 rfl rfl) ?_;refine Sg 0 ag26 .h4 ?_;refine Sg 3 ag29 .h3 ?_;rcases hS.2.2 rfl with ⟨ts', g1, g2, g3⟩ | ⟨e', a', g1, g2, g3, g4⟩
     ·exact yZ hl2 [bkV K bk.cards.length kc F bk.fmts.length fc, faultV 0 0] ⟨⟨b1, _, _, _, rfl, .h4, .inr ⟨rfl, rfl⟩⟩, ⟨b2, _, _, _, rfl, .h3, .inr ⟨rfl, rfl⟩⟩, trivial⟩ [e] .p2 (.inl ⟨bk, ts', K, kc, F, fc, e, by rw [hrp]; exact g1, rfl, rfl, hcs, hfs, he⟩)
     ·exact absurd (g2.symm.trans hf) g4
    ·rw [decide_eq_false hf];rcases hS.2.2 rfl with ⟨ts', g1, g2, g3⟩ | ⟨e', a', g1, g2, g3, g4⟩
     ·exact absurd g2 hf
     skip;refine vr 5 ?_;refine zi (sT [0, 1, 2, 3] (.fork (sT [204, 305, 306] .done) (sT [305, 104, 306] .done))) mixed (by kernel_rfl) (fun _ _ _ _ hq => hq) ?_;refine Vt 3 rfl (zK zl26 pl26 rfl rfl) ?_;refine xV ?_ ?_;refine xA rfl (xj ag29 rfl .here rfl) rfl rfl rfl ?_;refine zV rfl rfl (zT ag26 rfl rfl rfl .h4 rfl rfl ?_) rfl
     refine zV rfl rfl (zT ag29 rfl rfl rfl .h3 rfl rfl ?_) rfl;refine Vm 3 ?_
     ·exact yZ hl2 [bkV none 0 0 none 0 0, faultV s.e s.a] ⟨⟨b1, _, _, _, rfl, .h4, .inr ⟨rfl, rfl⟩⟩, ⟨b2, _, _, _, rfl, .h3, .inr ⟨rfl, rfl⟩⟩, trivial⟩ [] (Pick.nil _) (.inr ⟨s.e, s.a, by rw [hrp, g2, g3]; exact g1, rfl, rfl⟩)
     ·refine zV rfl rfl (zT ag26 rfl rfl rfl .h4 rfl rfl ?_) rfl;refine Vu 0 rfl (xj ag29 rfl .here rfl) ?_;refine zV rfl rfl (zT ag29 rfl rfl rfl .h3 rfl rfl ?_) rfl;refine Vm 3 ?_
      exact yZ hl2 [bkV none 0 0 none 0 0, faultV s.e s.a] ⟨⟨b1, _, _, _, rfl, .h4, .inr ⟨rfl, rfl⟩⟩, ⟨b2, _, _, _, rfl, .h3, .inr ⟨rfl, rfl⟩⟩, trivial⟩ [] (Pick.nil _) (.inr ⟨s.e, s.a, by rw [hrp, g2, g3]; exact g1, rfl, rfl⟩)
   refine zc (α := BdS) (fun y => [(2, ptr b1), (3, ptr b2), (6, ptr b4), (7, ptr b5)]) (fun y => [rf b4 A c ws 0 y.s, cel b5 [.slice y.K y.cs.length y.kc, .slice y.F y.fs.length y.fc] 26, own 40 12 y.K y.cs.length y.kc y.xs, own 63 7 y.F y.fs.length y.fc y.ys, y.e, cel b2 [.int .i64 0, .int .i64 0] 29, cel b1 [.slice none 0 0, .slice none 0 0] 26])
    (fun y => Bst ws (pBook cardWt ws.length (ws.length + 1) [] []) ⟨0, ws, 0, 0⟩ y.j y.cs y.fs y.s ∧ (y.s.e = 0 → y.s.ts.length < y.j) ∧ y.cs.length ≤ 240 ∧ y.fs.length ≤ 240 ∧ ∀ ns, y.e.inv ns → CdsC ns y.xs y.cs ∧ FmsC ns y.ys y.fs) (fun y => y.j)
    ⟨ws.length + 1, ⟨0, ws, 0, 0⟩, [], [], none, 0, [], none, 0, [], pack []⟩ ⟨rfl, rfl, rfl, rfl, trivial⟩ (.cons .h3 (.cons .h2 (.cons .h1 (.cons .here (Pick.nilE (.cons .h1 .p1)))))) ⟨⟨hs0, fun _ _ h => h⟩, fun _ => Nat.lt_succ_self _, Nat.zero_le _, Nat.zero_le _, fun ns _ => ⟨⟨rfl, fun i h => by cases h⟩, ⟨rfl, fun i h => by cases h⟩⟩⟩ ?_
   rintro ⟨j, s, cs, fs, K, kc, xs, F, fc, ys, e⟩ ⟨hB, hj, hcs, hfs, he⟩;dsimp only at hB hj hcs hfs he;dsimp only
   have hBk : ∀ ns, (pack [own 40 12 K cs.length kc xs, own 63 7 F fs.length fc ys, e]).inv ns → CardsQ ns K cs ∧ FmtsQ ns F fs := fun ns h => ⟨⟨xs, Eng.Own.rd (h.1 _ (.head _)), (he ns (h.1 _ (.tail _ (.tail _ (.head _))))).1⟩, ⟨ys, Eng.Own.rd (h.1 _ (.tail _ (.head _))), (he ns (h.1 _ (.tail _ (.tail _ (.head _))))).2⟩⟩;by_cases hf : s.e = 0
   rotate_left
   ·refine tr 2 ?_;refine zi (sT [0, 201, 2, 3, 4, 5, 7, 8, 9, 106, 110, 11, 12, 113, 14, 15] .done) mixed (by kernel_rfl) (fun _ _ _ _ hq => hq) ?_;refine vt 1 ?_;refine zm rfl (zq cl23 rfl (fun m' hm he => (fine23R (he _ (.head _)))) rfl ?_) rfl;rintro _ rfl;rw [decide_eq_false hf];refine vt 14 ?_;refine Vm 4 ?_;refine zD ?_;refine zB ?_
    exact QR (⟨s, ⟨cs, fs⟩, K, kc, F, fc, pack [own 40 12 K cs.length kc xs, own 63 7 F fs.length fc ys, e]⟩ : BeS) (.cons .here (.cons .here (Pick.pack3 (.cons .here (.cons .here (.cons .here .pp)))))) ⟨hB.bad hf, hcs, hfs, hBk⟩ (by decide)
   obtain ⟨w, hwd, hat⟩ := hB.1.word hw;have hwd := hwd hf;subst hwd;have hA := hB.1.isSome hw;have hlt := hB.1.lt;have hj := hj hf;obtain ⟨j, rfl⟩ : ∃ j', j = j' + 1 := ⟨j - 1, by omega⟩;by_cases h0 : (hd s.ts).kind = 0
   ·refine tr 2 ?_;refine zi (sT [0, 201, 2, 3, 4, 5, 7, 8, 9, 106, 110, 11, 12, 113, 14, 15] .done) mixed (by kernel_rfl) (fun _ _ _ _ hq => hq) ?_;refine vt 1 ?_;refine zm rfl (zq cl23 rfl (fun m' hm he => (fine23R (he _ (.head _)))) rfl ?_) rfl;rintro _ rfl;rw [decide_eq_true hf];refine vt 7 ?_;refine Vl 0 rfl sg51 .here ?_;refine Vl 0 rfl sg3 .here ?_
    refine Vt 1 rfl (zE ez51 rfl rfl hA (by omega)) ?_;refine Vu 0 rfl (zI sg42 rfl (hat.at_ rfl)) ?_;refine Vt 1 rfl (df (vQ rfl rfl) (by omega)) ?_;refine Vm 4 ?_;refine zD ?_;refine zB ?_
    exact QR (⟨s, ⟨cs, fs⟩, K, kc, F, fc, pack [own 40 12 K cs.length kc xs, own 63 7 F fs.length fc ys, e]⟩ : BeS) (.cons .here (.cons .here (Pick.pack3 (.cons .here (.cons .here (.cons .here .pp)))))) ⟨hB.stop h0, hcs, hfs, hBk⟩ (by decide)
   refine tr 2 ?_;refine zi (sT [0, 201, 2, 3, 4, 5, 7, 8, 9, 106, 110, 11, 12, 113, 14, 15] .done) mixed (by kernel_rfl) (fun _ _ _ _ hq => hq) ?_;refine vt 1 ?_;refine zm rfl (zq cl23 rfl (fun m' hm he => (fine23R (he _ (.head _)))) rfl ?_) rfl;rintro _ rfl;rw [decide_eq_true hf];refine vt 7 ?_;refine Vl 0 rfl sg51 .here ?_;refine Vl 0 rfl sg3 .here ?_
   refine Vt 1 rfl (zE ez51 rfl rfl hA (by omega)) ?_;refine Vu 0 rfl (zI sg42 rfl (hat.at_ rfl)) ?_;refine Vt 1 rfl (dt (vQ rfl rfl) (by assumption)) ?_;refine Vm 6 ?_;refine zi (sT [0, 1, 2, 4, 5, 6, 103, 107, 8, 9, 110, 11] .done) mixed (by kernel_rfl) (fun _ _ _ _ hq => hq) ?_;refine vt 6 ?_;refine Vl 0 rfl sg51 .here ?_;refine Vl 0 rfl sg3 .here ?_
   refine Vt 1 rfl (zE ez51 rfl rfl hA (by omega)) ?_;refine Vu 1 rfl (zI sg3 rfl (hat.at_ rfl)) ?_;refine Vm 4 ?_;refine C1 cl24 rfl .here (fun m' hm he => is24 (str := sCard) (hw.mono hm) hB.1 hsm) ?_;rintro _ _ ⟨rfl, rfl⟩;rw [decide_eq_true hf, Bool.true_and];have htl := yg (ts := s.ts) h0;have hlen := (hB.1.pos hf).len;cases hkc : isW sCard s.ts with
   | true =>
     have hkf := zS hkc (by decide : sCard ≠ sFormat);have hnx := hB.1.nx hf h0;by_cases hf0 : fs.length = 0
     ·by_cases h240 : cs.length = 240
      ·refine vr 9 ?_;refine Lb 1 sg24 .h1 ?_;refine cfo 21 ?_;refine Lb 1 sg23 .h1 ?_;refine cto 17 ?_;refine C1 cl25 rfl .here (fun m' hm he => wrong25 3 (hw.mono hm) hB.1 hsm) ?_;rintro _ _ ⟨rfl, rfl⟩;refine vr 5 ?_;refine zD ?_;refine zB ?_
       exact QR (⟨s.flt 3, ⟨cs, fs⟩, K, kc, F, fc, pack [own 40 12 K cs.length kc xs, own 63 7 F fs.length fc ys, e]⟩ : BeS) (.cons .here (.cons .here (Pick.pack3 (.cons .here (.cons .here (.cons .here .pp)))))) ⟨hB.fail (by decide) (by unfold pBook; rw [if_neg h0, if_pos ⟨hkc, hf0⟩, if_pos h240]), hcs, hfs, hBk⟩ (by decide)
      refine vr 9 ?_;refine Lb 1 sg24 .h1 ?_;refine cfo 21 ?_;refine Lb 1 sg23 .h1 ?_;refine cfo 21 ?_;refine Lb 0 sg3 .here ?_;refine Pa 2 ?_;refine Sr 12 co3 .here .h1 ?_;refine C1 cl26 rfl .here (fun m' hm he => card26 (n := ws.length) (hw.mono hm) hnx hsm (fun _ => by show s.ts.tail.length < _; omega)) ?_;rintro _ _ ⟨x, s2, _, h2, ⟨q, ek, rfl, rfl, hnm, hk⟩, rfl⟩
      have hL := h2.le (fun _ => ut (parts := cardWt) (n := ws.length) (by show s.ts.tail.length < _; omega));have hnl : s.nx.ts.length = s.ts.tail.length := rfl;have e1 : cs.length + 1 = (cs ++ [x]).length := by simp
      refine Al 0 zl40 fun b6 => ?_;refine Sg 4 ag40 .here ?_;refine Lb 0 sg23 .h3 ?_;refine Lc 0 ag40 .here ?_;refine Bs 0 sl23 fun b7 => ?_;refine zG (zz sl23 rfl rfl rfl rfl .here (fun _ _ => .h5) rfl rfl (by first | omega | (simp only [maxLen]; omega)) (by omega) rfl (fun A1 c1 => ?_)) rfl;refine vr 1 ?_;refine Sr 2 co23 .h4 .here ?_;rw [e1]
      exact QR (⟨j, s2, cs ++ [x], fs, A1, c1, xs ++ q.v x, F, fc, ys, pack [ek, e]⟩ : BdS) (.cons .h2 (.cons .h3 (.cons .h3 (.cons .h3 (Pick.pack2 (.cons .h2 (.cons .h2 (.cons .h2 .p2)))))))) ⟨hB.card hf h0 hkc hf0 h240 h2, fun h9 => by have h8 := hL h9; show s2.ts.length < j; omega, by show (cs ++ [x]).length ≤ 240; rw [← e1]; omega, hfs, fun ns h => ⟨(he ns (h.1 _ (.tail _ (.head _)))).1.snoc ⟨q, rfl, hnm, hk ns (h.1 _ (.head _))⟩ rfl, (he ns (h.1 _ (.tail _ (.head _)))).2⟩⟩ (Nat.lt_succ_self _)
     ·refine vr 9 ?_;refine Lb 1 sg24 .h1 ?_;refine cto 16 ?_;refine C1 cl25 rfl .here (fun m' hm he => wrong25 120 (hw.mono hm) hB.1 hsm) ?_;rintro _ _ ⟨rfl, rfl⟩;refine vr 5 ?_;refine zD ?_;refine zB ?_
      exact QR (⟨s.flt 120, ⟨cs, fs⟩, K, kc, F, fc, pack [own 40 12 K cs.length kc xs, own 63 7 F fs.length fc ys, e]⟩ : BeS) (.cons .here (.cons .here (Pick.pack3 (.cons .here (.cons .here (.cons .here .pp)))))) ⟨hB.fail (by decide) (by unfold pBook; rw [if_neg h0, if_neg (fun h => hf0 h.2), hkf]; rfl), hcs, hfs, hBk⟩ (by decide)
   | false =>
     refine vr 18 ?_;refine C1 cl24 rfl .here (fun m' hm he => is24 (str := sFormat) (hw.mono hm) hB.1 hsm) ?_;rintro _ _ ⟨rfl, rfl⟩;rw [decide_eq_true hf, Bool.true_and];cases hkf : isW sFormat s.ts with
     | true =>
       have hnx := hB.1.nx hf h0;by_cases h240 : fs.length = 240
       ·refine vr 23 ?_;refine Lb 1 sg24 .h1 ?_;refine cto 8 ?_;refine C1 cl25 rfl .here (fun m' hm he => wrong25 3 (hw.mono hm) hB.1 hsm) ?_;rintro _ _ ⟨rfl, rfl⟩;refine vr 5 ?_;refine zD ?_;refine zB ?_
        exact QR (⟨s.flt 3, ⟨cs, fs⟩, K, kc, F, fc, pack [own 40 12 K cs.length kc xs, own 63 7 F fs.length fc ys, e]⟩ : BeS) (.cons .here (.cons .here (Pick.pack3 (.cons .here (.cons .here (.cons .here .pp)))))) ⟨hB.fail (by decide) (by unfold pBook; rw [if_neg h0, if_neg (fun h => by rw [hkc] at h; cases h.1), if_pos hkf, if_pos h240]), hcs, hfs, hBk⟩ (by decide)
       refine vr 23 ?_;refine Lb 1 sg24 .h1 ?_;refine cfo 12 ?_;refine Lb 0 sg3 .here ?_;refine Pa 2 ?_;refine Sr 12 co3 .here .h1 ?_;refine C1 cl27 rfl .here (fun m' hm he => format27 (n := ws.length) (hw.mono hm) hnx hsm (fun _ => by show s.ts.tail.length < _; omega)) ?_;rintro _ _ ⟨x, s2, _, h2, ⟨q, ek, rfl, rfl, hfo, hk⟩, rfl⟩
       have hL := h2.le (fun _ => vG (n := ws.length) (by show s.ts.tail.length < _; omega));have hnl : s.nx.ts.length = s.ts.tail.length := rfl;have e1 : fs.length + 1 = (fs ++ [x]).length := by simp
       refine Al 0 zl63 fun b6 => ?_;refine Sg 4 ag63 .here ?_;refine Lb 0 sg24 .h3 ?_;refine Lc 0 ag63 .here ?_;refine Bs 0 sl24 fun b7 => ?_;refine zG (zz sl24 rfl rfl rfl rfl .here (fun _ _ => .h6) rfl rfl (by first | omega | (simp only [maxLen]; omega)) (by omega) rfl (fun A1 c1 => ?_)) rfl;refine vr 1 ?_;refine Sr 2 co24 .h4 .h1 ?_;rw [e1]
       exact QR (⟨j, s2, cs, fs ++ [x], K, kc, xs, A1, c1, ys ++ q.v x, pack [ek, e]⟩ : BdS) (.cons .h2 (.cons .h3 (.cons .h3 (.cons .h3 (Pick.pack2 (.cons .h2 (.cons .h2 (.cons .h2 .p2)))))))) ⟨hB.fmt hf h0 hkf h240 h2, fun h9 => by have h8 := hL h9; show s2.ts.length < j; omega, hcs, by show (fs ++ [x]).length ≤ 240; rw [← e1]; omega, fun ns h => ⟨(he ns (h.1 _ (.tail _ (.head _)))).1, (he ns (h.1 _ (.tail _ (.head _)))).2.snoc ⟨q, rfl, hfo, hk ns (h.1 _ (.head _))⟩ rfl⟩⟩ (Nat.lt_succ_self _)
     | false =>
       refine vr 9 ?_;refine C1 cl25 rfl .here (fun m' hm he => wrong25 120 (hw.mono hm) hB.1 hsm) ?_;rintro _ _ ⟨rfl, rfl⟩;refine vr 5 ?_;refine zD ?_;refine zB ?_
       exact QR (⟨s.flt 120, ⟨cs, fs⟩, K, kc, F, fc, pack [own 40 12 K cs.length kc xs, own 63 7 F fs.length fc ys, e]⟩ : BeS) (.cons .here (.cons .here (Pick.pack3 (.cons .here (.cons .here (.cons .here .pp)))))) ⟨hB.fail (by decide) (by unfold pBook; rw [if_neg h0, if_neg (fun h => by rw [hkc] at h; cases h.1), hkf]; rfl), hcs, hfs, hBk⟩ (by decide)
end
section
open Wd Tp Kd
variable {m : Mp}
theorem CardsQ.len {m : Mp} {A : Option Addr} {l : List FmtT} (h : FmtsQ m A l) : ∀ f ∈ l, f.banned.length ≤ 140737488355328 ∧ f.single.length ≤ 140737488355328 := by
 obtain ⟨vs, -, -, h3⟩ := h;intro f hf;obtain ⟨i, hi, rfl⟩ := List.getElem_of_mem hf;obtain ⟨q, -, ho, -⟩ := h3 i hi;exact ⟨Nat.le_trans ho.ban (by decide), Nat.le_trans ho.sin (by decide)⟩
theorem law3 (hT : TabI m) (hU : Tabs m) {s : List UInt8} (hs : s.length ≤ 9223372036854775807) : CS Tryz.prog 3 [.string (bs s)] m [] (Gives (.bool true)) := by
 skip;refine zp [.tmp 2] Tryz.func3 rfl rfl rfl ?_;by_cases hlong : 20000 < s.length ∧ s.length ≤ 65536
 ·obtain ⟨hl1, hl3⟩ := hlong;refine tr 9 ?_;refine pe 0 (zU rfl st9) ?_;refine cto 2 ?_;refine pe 0 (zU rfl st9) ?_;refine cto 6 ?_;refine Cr cl6 rfl (fun m' hm he => (wakes6 (hT.mono hm) (hU.mono hm))) ?_;rintro _ rfl;refine vr 5 ?_;exact rt1 ⟨rfl, trivial⟩ ⟨rfl, rfl⟩
 by_cases h20 : 20000 < s.length
 ·have h65 : ¬ s.length ≤ 65536 := fun h => hlong ⟨h20, h⟩;refine tr 9 ?_;refine pe 0 (zU rfl st9) ?_;refine cto 2 ?_;refine pe 0 (zU rfl st9) ?_;refine cfo 9 ?_;refine zG ((zw cl7 rfl (fun m' hm he => qR (hU.mono hm) hs) rfl ?_)) rfl;rintro _ _ hq;rcases hq with ⟨bk, ts, K, kc, F, fc, e, h1, rfl, rfl, h2, h3, h4⟩ | ⟨e, a, h1, rfl, rfl⟩
  ·unfold faultV;refine vr 3 ?_;refine Al 0 zl26 fun b1 => ?_;refine Al 0 zl29 fun b2 => ?_;refine Sg 0 ag26 .h1 ?_;refine Sg 3 ag29 .here ?_;refine zO .h2 (fun ns hi _ hd => ?_);have hq1 := h4 ns hi;have hCq := hq1.1.mono (zb hd (m := m));have hFq := hq1.2.mono (zb hd (m := m));have hl2 : Le m (uni m ns) := zW _ _;clear hi hd h4 hq1;generalize uni m ns = m9 at hCq hFq hl2
   have hT := hT.mono hl2;have hU := hU.mono hl2;refine tr 2 ?_;refine zG ((zw cl8 rfl (fun m' hm he => uZ hs) rfl ?_)) rfl;rintro _ _ hq;rcases hq with ⟨bk2, ts2, K2, kc2, F2, fc2, e2, h1', rfl, rfl, h2', h3', h4⟩ | ⟨e2, a2, h1', rfl, rfl⟩
   rotate_left
   ·rw [h1] at h1';cases h1'
   have hbk : bk2 = bk := by rw [h1] at h1'; cases h1'; rfl
   subst hbk;clear h1' h2' h3';unfold faultV;refine vr 3 ?_;refine Al 0 zl26 fun b3 => ?_;refine Al 0 zl29 fun b4 => ?_;refine Sg 0 ag26 .h1 ?_;refine Sg 3 ag29 .here ?_;refine zO .h2 (fun ns hi _ hd => ?_);have hq1 := h4 ns hi;have hCq2 := hq1.1.mono (zb hd (m := m9));have hFq2 := hq1.2.mono (zb hd (m := m9));have hl3' : Le m9 (uni m9 ns) := zW _ _;clear hi hd h4 hq1
   have hlm := hl2.trans hl3';have hCq := hCq.mono hl3';have hFq := hFq.mono hl3';have hT := hT.mono hl3';have hU := hU.mono hl3';generalize uni m9 ns = m10 at hCq hFq hCq2 hFq2 hlm hT hU;have hfl : FmL bk2 := ⟨Nat.le_trans h2 (by decide), Nat.le_trans h3 (by decide), CardsQ.len hFq⟩;refine tr 1 ?_;refine Lc 0 ag29 .h2 ?_;refine Lc 0 ag29 .here ?_
   refine pe 1 ((xk [.i .i64 0, .i .i64 0] [.i .i64 0, .i .i64 0] fg29 rfl rfl rfl rfl)) ?_;refine Lc 0 ag26 .h3 ?_;refine Lc 0 ag26 .h1 ?_;refine zG ((zw cl9 rfl (fun m' hm he => same9 (hCq.mono hm).x (hFq.mono hm).x (hCq2.mono hm).x (hFq2.mono hm).x hfl hfl) rfl ?_)) rfl;rintro _ _ ⟨⟨rfl, -⟩ | ⟨rfl, hno⟩, rfl⟩
   rotate_left
   ·exact (hno (sameB.rfl _)).elim
   refine vr 2 ?_;refine Lc 0 ag26 .h3 ?_;refine Lc 0 ag26 .h1 ?_;refine Cr cl10 rfl (fun m' hm he => (places10 (hCq.mono hm).x (hFq.mono hm).x (hCq2.mono hm).x (hFq2.mono hm).x hfl)) ?_;rintro _ rfl;refine vr 2 ?_;refine Cr cl6 rfl (fun m' hm he => (wakes6 (hT.mono hm) (hU.mono hm))) ?_;rintro _ rfl;refine vr 5 ?_;exact rt2 hlm ⟨rfl, trivial⟩ ⟨rfl, rfl⟩
  ·unfold faultV;refine vr 3 ?_;refine Al 0 zl26 fun b1 => ?_;refine Al 0 zl29 fun b2 => ?_;refine Sg 0 ag26 .h1 ?_;refine Sg 5 ag29 .here ?_;refine zG ((zw cl8 rfl (fun m' hm he => uZ hs) rfl ?_)) rfl;rintro _ _ hq;rcases hq with ⟨bk2, ts2, K2, kc2, F2, fc2, e2, h1', rfl, rfl, h2', h3', h4⟩ | ⟨e2, a2, h1', rfl, rfl⟩
   ·rw [h1] at h1';cases h1'
   have hee : e2 = e ∧ a2 = a := by rw [h1] at h1'; cases h1'; exact ⟨rfl, rfl⟩
   obtain ⟨rfl, rfl⟩ := hee;have hC0 : ∀ m' : Mp, CardsX m' none [] := fun m' => ⟨[], Rd.nil _ _, rfl, fun i h => by cases h⟩;have hF0 : ∀ m' : Mp, FmtsX m' none [] := fun m' => ⟨[], Rd.nil _ _, rfl, fun i h => by cases h⟩;have hfl : FmL ⟨[], []⟩ := ⟨by decide, by decide, fun f h => by cases h⟩;unfold faultV;refine vr 3 ?_;refine Al 0 zl26 fun b3 => ?_;refine Al 0 zl29 fun b4 => ?_
   refine Sg 0 ag26 .h1 ?_;refine Sg 4 ag29 .here ?_;refine Lc 0 ag29 .h2 ?_;refine Lc 0 ag29 .here ?_;refine pe 0 ((xk [.i .i64 e2, .i .i64 a2] [.i .i64 e2, .i .i64 a2] fg29 rfl rfl rfl rfl)) ?_;rw [decide_eq_true rfl];refine vr 1 ?_;refine Lc 0 ag26 .h3 ?_;refine Lc 0 ag26 .h1 ?_
   refine zG ((zw cl9 rfl (fun m' hm he => same9 (a := ⟨[], []⟩) (b := ⟨[], []⟩) (hC0 m') (hF0 m') (hC0 m') (hF0 m') hfl hfl) rfl ?_)) rfl;rintro _ _ ⟨⟨rfl, -⟩ | ⟨rfl, hno⟩, rfl⟩
   rotate_left
   ·exact (hno (sameB.rfl _)).elim
   refine vr 2 ?_;refine Lc 0 ag26 .h3 ?_;refine Lc 0 ag26 .h1 ?_;refine Cr cl10 rfl (fun m' hm he => (places10 (a := ⟨[], []⟩) (hC0 m') (hF0 m') (hC0 m') (hF0 m') hfl)) ?_;rintro _ rfl;refine vr 2 ?_;refine Cr cl6 rfl (fun m' hm he => (wakes6 (hT.mono hm) (hU.mono hm))) ?_;rintro _ rfl;refine vr 5 ?_;exact rt1 ⟨rfl, trivial⟩ ⟨rfl, rfl⟩
 ·refine tr 9 ?_;refine pe 0 (zU rfl st9) ?_;refine cfo 13 ?_;refine zG ((zw cl7 rfl (fun m' hm he => qR (hU.mono hm) hs) rfl ?_)) rfl;rintro _ _ hq;rcases hq with ⟨bk, ts, K, kc, F, fc, e, h1, rfl, rfl, h2, h3, h4⟩ | ⟨e, a, h1, rfl, rfl⟩
  ·unfold faultV;refine vr 3 ?_;refine Al 0 zl26 fun b1 => ?_;refine Al 0 zl29 fun b2 => ?_;refine Sg 0 ag26 .h1 ?_;refine Sg 3 ag29 .here ?_;refine zO .h2 (fun ns hi _ hd => ?_);have hq1 := h4 ns hi;have hCq := hq1.1.mono (zb hd (m := m));have hFq := hq1.2.mono (zb hd (m := m));have hl2 : Le m (uni m ns) := zW _ _;clear hi hd h4 hq1;generalize uni m ns = m9 at hCq hFq hl2
   have hT := hT.mono hl2;have hU := hU.mono hl2;refine tr 2 ?_;refine zG ((zw cl8 rfl (fun m' hm he => uZ hs) rfl ?_)) rfl;rintro _ _ hq;rcases hq with ⟨bk2, ts2, K2, kc2, F2, fc2, e2, h1', rfl, rfl, h2', h3', h4⟩ | ⟨e2, a2, h1', rfl, rfl⟩
   rotate_left
   ·rw [h1] at h1';cases h1'
   have hbk : bk2 = bk := by rw [h1] at h1'; cases h1'; rfl
   subst hbk;clear h1' h2' h3';unfold faultV;refine vr 3 ?_;refine Al 0 zl26 fun b3 => ?_;refine Al 0 zl29 fun b4 => ?_;refine Sg 0 ag26 .h1 ?_;refine Sg 3 ag29 .here ?_;refine zO .h2 (fun ns hi _ hd => ?_);have hq1 := h4 ns hi;have hCq2 := hq1.1.mono (zb hd (m := m9));have hFq2 := hq1.2.mono (zb hd (m := m9));have hl3' : Le m9 (uni m9 ns) := zW _ _;clear hi hd h4 hq1
   have hlm := hl2.trans hl3';have hCq := hCq.mono hl3';have hFq := hFq.mono hl3';have hT := hT.mono hl3';have hU := hU.mono hl3';generalize uni m9 ns = m10 at hCq hFq hCq2 hFq2 hlm hT hU;have hfl : FmL bk2 := ⟨Nat.le_trans h2 (by decide), Nat.le_trans h3 (by decide), CardsQ.len hFq⟩;refine tr 1 ?_;refine Lc 0 ag29 .h2 ?_;refine Lc 0 ag29 .here ?_
   refine pe 1 ((xk [.i .i64 0, .i .i64 0] [.i .i64 0, .i .i64 0] fg29 rfl rfl rfl rfl)) ?_;refine Lc 0 ag26 .h3 ?_;refine Lc 0 ag26 .h1 ?_;refine zG ((zw cl9 rfl (fun m' hm he => same9 (hCq.mono hm).x (hFq.mono hm).x (hCq2.mono hm).x (hFq2.mono hm).x hfl hfl) rfl ?_)) rfl;rintro _ _ ⟨⟨rfl, -⟩ | ⟨rfl, hno⟩, rfl⟩
   rotate_left
   ·exact (hno (sameB.rfl _)).elim
   refine vr 2 ?_;refine Lc 0 ag26 .h3 ?_;refine Lc 0 ag26 .h1 ?_;refine Cr cl10 rfl (fun m' hm he => (places10 (hCq.mono hm).x (hFq.mono hm).x (hCq2.mono hm).x (hFq2.mono hm).x hfl)) ?_;rintro _ rfl;refine vr 2 ?_;refine Cr cl6 rfl (fun m' hm he => (wakes6 (hT.mono hm) (hU.mono hm))) ?_;rintro _ rfl;refine vr 5 ?_;exact rt2 hlm ⟨rfl, trivial⟩ ⟨rfl, rfl⟩
  ·unfold faultV;refine vr 3 ?_;refine Al 0 zl26 fun b1 => ?_;refine Al 0 zl29 fun b2 => ?_;refine Sg 0 ag26 .h1 ?_;refine Sg 5 ag29 .here ?_;refine zG ((zw cl8 rfl (fun m' hm he => uZ hs) rfl ?_)) rfl;rintro _ _ hq;rcases hq with ⟨bk2, ts2, K2, kc2, F2, fc2, e2, h1', rfl, rfl, h2', h3', h4⟩ | ⟨e2, a2, h1', rfl, rfl⟩
   ·rw [h1] at h1';cases h1'
   have hee : e2 = e ∧ a2 = a := by rw [h1] at h1'; cases h1'; exact ⟨rfl, rfl⟩
   obtain ⟨rfl, rfl⟩ := hee;have hC0 : ∀ m' : Mp, CardsX m' none [] := fun m' => ⟨[], Rd.nil _ _, rfl, fun i h => by cases h⟩;have hF0 : ∀ m' : Mp, FmtsX m' none [] := fun m' => ⟨[], Rd.nil _ _, rfl, fun i h => by cases h⟩;have hfl : FmL ⟨[], []⟩ := ⟨by decide, by decide, fun f h => by cases h⟩;unfold faultV;refine vr 3 ?_;refine Al 0 zl26 fun b3 => ?_;refine Al 0 zl29 fun b4 => ?_
   refine Sg 0 ag26 .h1 ?_;refine Sg 4 ag29 .here ?_;refine Lc 0 ag29 .h2 ?_;refine Lc 0 ag29 .here ?_;refine pe 0 ((xk [.i .i64 e2, .i .i64 a2] [.i .i64 e2, .i .i64 a2] fg29 rfl rfl rfl rfl)) ?_;rw [decide_eq_true rfl];refine vr 1 ?_;refine Lc 0 ag26 .h3 ?_;refine Lc 0 ag26 .h1 ?_
   refine zG ((zw cl9 rfl (fun m' hm he => same9 (a := ⟨[], []⟩) (b := ⟨[], []⟩) (hC0 m') (hF0 m') (hC0 m') (hF0 m') hfl hfl) rfl ?_)) rfl;rintro _ _ ⟨⟨rfl, -⟩ | ⟨rfl, hno⟩, rfl⟩
   rotate_left
   ·exact (hno (sameB.rfl _)).elim
   refine vr 2 ?_;refine Lc 0 ag26 .h3 ?_;refine Lc 0 ag26 .h1 ?_;refine Cr cl10 rfl (fun m' hm he => (places10 (a := ⟨[], []⟩) (hC0 m') (hF0 m') (hC0 m') (hF0 m') hfl)) ?_;rintro _ rfl;refine vr 2 ?_;refine Cr cl6 rfl (fun m' hm he => (wakes6 (hT.mono hm) (hU.mono hm))) ?_;rintro _ rfl;refine vr 5 ?_;exact rt1 ⟨rfl, trivial⟩ ⟨rfl, rfl⟩
end
section
open Go.Lib Go.Shelf
theorem XJ : (Rows.laid_unicode_utf8_acceptRanges : DataW Unit) = acceptData := by kernel_rfl
theorem WG : Rows.laid_unicode_utf8_first = firstData := by kernel_rfl
theorem Xl : (Rows.laid_strings_asciiSpace : DataW Unit) = tabData .u8 asciiSpaceTab := by kernel_rfl
theorem pow_eq : (Rows.laid_internal_strconv_uint64pow10 : DataW Unit) = tabData .u64 pow10Tab := by kernel_rfl
theorem q7 {P : Program} {W w : World} {n : String} {k : IntKind} {zs : List Int} (h : TabIs P W n k zs) (hl : Le (mp W.heap) (mp w.heap)) : TabIs P w n k zs := by
 unfold TabIs World.var? at *;cases hg : P.globalNamed n with
 | none => rw [hg] at h; cases h
 | some g =>
   rw [hg] at h;simp only [Option.bind_some] at h ⊢;cases ho : W.heap[g]? with
   | none => rw [ho] at h; cases h
   | some o => rw [ho] at h; rw [show w.heap[g]? = some o from hl g o ho]; exact h
theorem ur {W w : World} {a : Addr} {v : Value} (h : W.cell? a = some v) (hl : Le (mp W.heap) (mp w.heap)) : w.cell? a = some v := by
 unfold World.cell? at *;cases ho : W.heap[a.block]? with
 | none => simp [ho] at h
 | some o => rw [ho] at h; rw [show w.heap[a.block]? = some o from hl _ o ho]; exact h
theorem jn {W : World} (h : laidMetH Tryz.prog Rows.treeReadsRow.laid W) : TabI (mp W.heap) ∧ Tabs (mp W.heap) := by
 rw [MakeChecks.laidMetH_plain _ _ _ (by kernel_rfl)] at h;have r0 := Lib.laidMet.reads h (.tail _ (.tail _ (.head _)));have r1 := Lib.laidMet.reads h (.tail _ (.tail _ (.tail _ (.head _))));have r3 := Lib.laidMet.reads h (.tail _ (.tail _ (.tail _ (.tail _ (.tail _ (.head _))))));have r4 := Lib.laidMet.reads h (.tail _ (.tail _ (.tail _ (.tail _ (.tail _ (.tail _ (.head _)))))));rw [pow_eq] at r0
 rw [XJ] at r1;rw [Xl] at r3;rw [WG] at r4;have hu := utf8Tabs_of_readsT (P := Tryz.prog) (ρ := Tryz.lays197_ren) ⟨Tryz.lays197.t5, Tryz.lays197.t119, Tryz.lays197.t138, Tryz.lays197.t139⟩ ⟨by kernel_rfl, by kernel_rfl, by kernel_rfl, by kernel_rfl, by kernel_rfl, by kernel_rfl, by kernel_rfl⟩ r4 r1
 have hs : TabIs Tryz.prog W "strings.asciiSpace" .u8 asciiSpaceTab := by
  obtain ⟨g, t, cs, fuel, p, hg, ht, hv, hd⟩ := r3;obtain rfl := Option.some.inj ((show Tryz.prog.globalNamed "strings.asciiSpace" = some 2 by kernel_rfl).symm.trans hg);obtain rfl := Option.some.inj ((show (Tryz.prog.globals[2]?).map (·.type) = some 148 by kernel_rfl).symm.trans ht);unfold TabIs;rw [hv, ← cells_of_tab Tryz.underlying148 Tryz.underlying5 (by kernel_rfl) (by kernel_rfl) hd]
 have hp : TabIs Tryz.prog W "internal/strconv.uint64pow10" .u64 pow10Tab := by
  obtain ⟨g, t, cs, fuel, p, hg, ht, hv, hd⟩ := r0;obtain rfl := Option.some.inj ((show Tryz.prog.globalNamed "internal/strconv.uint64pow10" = some 3 by kernel_rfl).symm.trans hg);obtain rfl := Option.some.inj ((show (Tryz.prog.globals[3]?).map (·.type) = some 176 by kernel_rfl).symm.trans ht);unfold TabIs
  rw [hv, ← cells_of_tab Tryz.underlying176 Tryz.underlying158 (by kernel_rfl) (by kernel_rfl) hd]
 exact ⟨fun w hl => q7 hp hl, fun w hl => ⟨q7 hs hl, fun c hc => ur (hu.1 c hc) hl, fun i hi => ⟨ur (hu.2 i hi).1 hl, ur (hu.2 i hi).2 hl⟩⟩⟩
end
section
theorem qU {m : Mp} (hT : TabI m ∧ Tabs m) {s0 : List UInt8} (hs : s0.length ≤ 140737488351232) : CS Tryz.prog 3 [.string (bs s0)] m [] (Gives (.bool true)) := law3 hT.1 hT.2 (by omega)
end
section
open Go.ChangeShapes Go.WideShapes Go.ChangeAt Go.RowKit
open Go.ChangeMaps (open_string shut_string)
theorem jG : ownKnob Tryz.prog.godebug = none := by kernel_rfl
theorem ub (os : Os) (started : os.Started) (H : Type) (enc : TypeId × Value → H) :
  ReturnsInHanded {} Tryz.checked os 3 .any (fun w args => (Rows.treeReadsSpec.pre enc Tryz.prog Tryz.f3 [] false w args ∧ laidMetH Tryz.prog Rows.treeReadsRow.laid w) ∧ sizedMet enc Tryz.prog Tryz.f3 (OpenSpec.ofChange Rows.treeReadsSpec) false w args)
   (Rows.treeReadsSpec.post enc Tryz.prog Tryz.f3 false true false false) := by
 refine returnsInHanded_of_change_and (C := Tryz.checked) (X := fun w _ => laidMetH Tryz.prog Rows.treeReadsRow.laid w) (fun _ _ _ hh h => h.of_heap hh) jG started (by kernel_rfl) Tryz.func3
  (ChangeSpec.witness_shaped (enc := enc) (C := Tryz.checked) (os := os) (X := fun w _ => laidMetH Tryz.prog Rows.treeReadsRow.laid w) false (World.laidAll Tryz.prog os Rows.treeReadsRow.laid) #[.string ByteArray.empty] 8 (World.laidAll_os _ _ _)
   (World.shaped_of_ZipB (by kernel_rfl) (by kernel_rfl)) (by kernel_rfl) (by kernel_rfl) (by kernel_rfl)
   (by rw [MakeChecks.laidMetH_plain _ _ _ (by kernel_rfl)]; exact laidMet_laidAll _ (by kernel_rfl) (by kernel_rfl))) ?_
 intro W base args ds gs before hval0 hW _ hsz0 hL _;have hsz : (DataW.weightsEach Tryz.prog (Tryz.f3.params.toList ++ Rows.treeReadsSpec.plain.varTypes Tryz.prog) (ds ++ gs)).all (· ≤ reachBytes) = true := hsz0;clear hsz0;have hval : ∀ (j : Nat) t v, Tryz.f3.params[j]? = some t → args[j]? = some v → Value.okWide Tryz.prog W .any base t v := hval0;have hW' := hW
 obtain ⟨p, q, hA0, hV, rfl, hfz, hnd⟩ := hW;have hA : DataW.TrodAll enc Tryz.prog W 0 (fun _ => true) true Tryz.f3.params.toList args.toList ds p := hA0;rw [Tryz.params3] at hA hval hsz;obtain ⟨v0, vs0, d0, ds0, p0, q0, hargs, rfl, rfl, h0, r0⟩ := trodAll_cons hA;obtain ⟨rfl, rfl, rfl⟩ := trodAll_nil r0;obtain rfl : args = #[v0] := by cases args; simp_all
 obtain ⟨rfl, rfl⟩ := trodVars_none hV;obtain ⟨⟨⟨a0⟩⟩, rfl, rfl, rfl, w0⟩ := open_string Tryz.underlying9 (hval 0 9 v0 rfl rfl) h0
 have z0 : a0.length ≤ 140737488351232 := by
  have := sized_string hsz (j := 0) (t := 9) rfl rfl
  simpa [reachBytes] using this
 clear hA0 hval0;have hc := CS.toLe (qU (jn hL) (s0 := a0) z0);refine (WQ (hc.mono fun v h' ⟨⟨L', e, _⟩, hl⟩ => ⟨e, hl⟩)).mono fun e W' ⟨he, bel⟩ => ?_;subst he;exact ⟨_, rfl, _, _, _, [], _, [], hW', trodAll_mk1 (shut_bool Tryz.underlying4 _), (trodAll_cons_mk (shut_string Tryz.underlying9 w0) trodAll_mk0), rfl, bel.frame _, fun h => by cases h⟩
theorem qG : Rows.TreeReadsSaid :=
 OpenClaim.holds_of_wide 3 Tryz.f3 rfl rfl rfl rfl rfl rfl rfl ⟨rfl, rfl, rfl, rfl, rfl⟩ rfl rfl rfl rfl rfl (by kernel_rfl) Tryz.func3 (by kernel_rfl)
  (of_decide_eq_true (by kernel_rfl)) (by unfold Func.isWrapper; first | (rw [if_pos (by decide +kernel)]; kernel_rfl) | (rw [if_neg (by decide +kernel)]; exact ⟨rfl, rfl⟩))
  (fun os started H enc _ => ub os started H enc)
theorem treeReads_card : Rows.TreeReadsCardSaid :=
 Claim7.holds_tied_plain_at .later [] [.data, .data, .data, .data, .listed, .data, .pinned] true (true, "ac0d35c5b2af05093172e8dd32a67d05449e0bd1ba6305de010b3a77ebe17cd0") true
  qG (fun _ h => by cases h) (by kernel_rfl) (fun _ h => by cases h) treeReads_row_tie rfl ⟨rfl, rfl⟩ (by kernel_rfl) rfl
  (fun f fn hf hfn => by
   obtain rfl : f = 3 := Option.some.inj ((show Tryz.prog.funcNamed Rows.treeReadsRow.func = some 3 by kernel_rfl).symm.trans hf) |>.symm
   obtain rfl : fn = Tryz.f3 := (Option.some.inj (Tryz.func3.symm.trans hfn)).symm
   exact ⟨by kernel_rfl, fun j t ht => by
    rw [Tryz.params3] at ht
    have h3 : t = 9 := by
     rcases j with _ | j
     ·simp at ht; subst ht; decide
     ·simp at ht
    rcases h3 with rfl
    ·exact (show Tryz.prog.wantsStandIn 9 = false by kernel_rfl)⟩)
  (by kernel_rfl)
#print axioms treeReads_card
end
end Go.Proofs.YtpgiokjfkcddeaaGreatDoor
