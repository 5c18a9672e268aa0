/- Parts of the proof: contracts of functions of the program, and plain lemmas. No condition. -/
import Derived.Test.YtpgiokjfkcddeaaGreatDoorTxQ
import Derived.Test.YtpgiokjfkcddeaaGreatDoorEng2
import Derived.KernelRfl
import Derived.Test.YtpgiokjfkcddeaaGreatDoorFacts
set_option maxHeartbeats 64000000
set_option maxRecDepth 100000
namespace Go.Proofs.YtpgiokjfkcddeaaGreatDoor
open Go.Eng
section
open Wd Tp Kd
variable {m : Mp}
theorem ZX {α : Type} {Q : Post} {S : α → Env} {LL : α → List Ent} {F : α → Prop} {μ : α → Nat} {k : Nat} {env : Env} {L : List Ent} {m m2 : Mp} (hl : Le m m2) (y : α) (hs : Sub (S y) env) (hp : Pick L (LL y)) (hF : F y) (hk : μ y < k) : QS (roundS m S LL F μ k Q) .normal env m2 L :=
 fun h hh => ⟨y, hs, ⟨hF, (hp m2 h hh).weaken hl⟩, hk⟩
abbrev capV (n : Nat) : Value := .int .i64 ((min n 100000 : Nat))
theorem YC (a w c : Nat) (h : c = min a 100000) : min (c + min w 100000) 100000 = min (a + w) 100000 := by omega
theorem sizeNum85 {cs : List Value} {x : NumT} (hx : NumR m cs x) : ∀ m0, Le m m0 → CS Tryz.prog 85 [.agg cs.toArray] m0 [] (Gives (capV (numW x))) := by
 induction hx with
 | @mk op n who kids A len c vs ho hln hmx hr hv hkk ih =>
 subst hln;intro m0 hm0;have hmx : kids.length ≤ 9223372036854775807 := hmx;refine yI [.tmp 2] Tryz.func85 rfl rfl rfl ?_;refine tr 2 ?_;refine Bx 4 rfl fun b1 => ?_;refine zG .here (fun ns hi _ hd1 => ?_);have hR : Rd (uni m0 ns) (some ⟨b1, 0, none⟩) (n4 op n who A kids.length c) := (Rd.blk hi).mono (zV hd1);have hl2 : Le m0 (uni m0 ns) := zM _ _;clear hi hd1
 generalize uni m0 ns = m9 at hR hl2;have hl9 := hm0.trans hl2;have hc3 : mc m9 ⟨b1, 3, none⟩ = some (.slice A kids.length c) := hR.at_ (i := 3) rfl;have hr := hr.mono hl9;refine tr 11 ?_
 refine zj (α := Nat × Nat) (fun y => [(1, .pointer (some ⟨b1, 0, none⟩)), (3, .int .i64 (y.2 : Nat)), (4, .int .i64 (y.1 : Nat))]) (fun _ => []) (fun y => y.1 ≤ kids.length ∧ y.2 = min (1 + ((kids.take y.1).map numW).sum) 100000) (fun y => kids.length - y.1) (0, 1) ⟨rfl, rfl, rfl, trivial⟩ (Pick.nil _) ⟨Nat.zero_le _, rfl⟩ ?_;rintro ⟨i, a⟩ ⟨hi, ha⟩;dsimp only at hi ha;dsimp only
 by_cases hlt : i < kids.length
 ·have hA : A.isSome = true := hr.isSome (by omega);have hat := hr.elem (i * 4) 4;have hx := hkk i hlt;have hih := ih i hlt;have htk := wL numW hlt;obtain ⟨n1, w1, A1, l1, c1, e1⟩ := NumR.formO hx;rw [e1] at hat hih;clear hx e1;have hcap := YC (1 + ((kids.take i).map numW).sum) (numW kids[i]) a ha;refine tr 5 ?_;refine Lo 1 sg43 rfl hc3 ?_;refine cto 10 ?_;refine Lo 1 sg43 rfl hc3 ?_
  refine pe 0 (zI ez43 rfl rfl hA (by omega)) ?_;refine La 0 ag45 hat ?_;refine Cr cl85 rfl (fun m' hm he => (hih m' (hl9.trans hm))) ?_;rintro _ rfl;refine pe 0 (zi rfl rfl (by omega)) ?_;refine pe 6 (vm rfl rfl) ?_;refine Pa 2 ?_
  exact QR ((i + 1, min (a + min (numW kids[i]) 100000) 100000) : Nat × Nat) (Pick.nil _) ⟨hlt, by dsimp only; rw [hcap, htk, Nat.add_assoc]⟩ (by dsimp only; omega)
 ·have hi2 : i = kids.length := by omega
  subst hi2;rw [List.take_length] at ha;refine tr 5 ?_;refine Lo 1 sg43 rfl hc3 ?_;refine cfo 5 ?_;refine zC ?_;refine zB ?_;refine qt 8 ?_;exact rt2 hl2 ⟨rfl, trivial⟩ ⟨by rw [wh, ha]; rfl, rfl⟩
theorem sizeCond86 {cs : List Value} {x : CondT} (hx : CondR m cs x) : ∀ m0, Le m m0 → CS Tryz.prog 86 [.agg cs.toArray] m0 [] (Gives (capV (condW x))) := by
 induction hx with
 | @mk op who name nums kids A B la ca lb cb vs us ho hw hn hla hma hra hva hka hlb hmb hrb hvb hkb ih =>
 subst hla hlb;intro m0 hm0;have hma : nums.length ≤ 9223372036854775807 := hma;have hmb : kids.length ≤ 9223372036854775807 := hmb;refine yI [.tmp 2] Tryz.func86 rfl rfl rfl ?_;refine tr 2 ?_;refine Bx 4 rfl fun b1 => ?_;refine zG .here (fun ns hi _ hd1 => ?_);have hR : Rd (uni m0 ns) (some ⟨b1, 0, none⟩) (c5 op who name A nums.length ca B kids.length cb) := (Rd.blk hi).mono (zV hd1)
 have hl2 : Le m0 (uni m0 ns) := zM _ _;clear hi hd1;generalize uni m0 ns = m9 at hR hl2;have hl9 := hm0.trans hl2;have hc3 : mc m9 ⟨b1, 3, none⟩ = some (.slice A nums.length ca) := hR.at_ (i := 3) rfl;have hc4 : mc m9 ⟨b1, 4, none⟩ = some (.slice B kids.length cb) := hR.at_ (i := 4) rfl;have hra := hra.mono hl9;have hrb := hrb.mono hl9;refine tr 11 ?_
 refine zj (α := Nat × Nat) (fun y => [(1, .pointer (some ⟨b1, 0, none⟩)), (3, .int .i64 (y.2 : Nat)), (4, .int .i64 (y.1 : Nat))]) (fun _ => []) (fun y => y.1 ≤ nums.length ∧ y.2 = min (1 + ((nums.take y.1).map numW).sum) 100000) (fun y => nums.length - y.1) (0, 1) ⟨rfl, rfl, rfl, trivial⟩ (Pick.nil _) ⟨Nat.zero_le _, rfl⟩ ?_;rintro ⟨i, a⟩ ⟨hi, ha⟩;dsimp only at hi ha;dsimp only
 by_cases hlt : i < nums.length
 ·have hA : A.isSome = true := hra.isSome (by omega);have hat := hra.elem (i * 4) 4;have hx := hka i hlt;have hih := sizeNum85 hx;have htk := wL numW hlt;obtain ⟨n1, w1, A1, l1, c1, e1⟩ := NumR.formO hx;rw [e1] at hat hih;clear hx e1;have hcap := YC (1 + ((nums.take i).map numW).sum) (numW nums[i]) a ha;refine tr 5 ?_;refine Lo 1 sg43 rfl hc3 ?_;refine cto 10 ?_
  refine Lo 1 sg43 rfl hc3 ?_;refine pe 0 (zI ez43 rfl rfl hA (by omega)) ?_;refine La 0 ag45 hat ?_;refine Cr cl85 rfl (fun m' hm he => (hih m' (hl9.trans hm))) ?_;rintro _ rfl;refine pe 0 (zi rfl rfl (by omega)) ?_;refine pe 6 (vm rfl rfl) ?_;refine Pa 2 ?_
  exact QR ((i + 1, min (a + min (numW nums[i]) 100000) 100000) : Nat × Nat) (Pick.nil _) ⟨hlt, by dsimp only; rw [hcap, htk, Nat.add_assoc]⟩ (by dsimp only; omega)
 have hi2 : i = nums.length := by omega
 subst hi2;rw [List.take_length] at ha;generalize hN : 1 + (nums.map numW).sum = N at ha;refine tr 5 ?_;refine Lo 1 sg43 rfl hc3 ?_;refine cfo 5 ?_;refine zC ?_;refine zB ?_;refine qt 8 ?_
 refine zj (α := Nat × Nat) (fun y => [(1, .pointer (some ⟨b1, 0, none⟩)), (3, .int .i64 (y.2 : Nat)), (5, .int .i64 (y.1 : Nat))]) (fun _ => []) (fun y => y.1 ≤ kids.length ∧ y.2 = min (N + ((kids.take y.1).map condW).sum) 100000) (fun y => kids.length - y.1) (0, a) ⟨rfl, rfl, rfl, trivial⟩ (Pick.nil _) ⟨Nat.zero_le _, ha⟩ ?_;clear ha;rintro ⟨i, a⟩ ⟨hi, ha⟩;dsimp only at hi ha;dsimp only
 by_cases hlt : i < kids.length
 ·have hA : B.isSome = true := hrb.isSome (by omega);have hat := hrb.elem (i * 5) 5;have hx := hkb i hlt;have hih := ih i hlt;have htk := wL condW hlt;obtain ⟨w1, nm1, A1, la1, ca1, B1, lb1, cb1, e1⟩ := CondR.formO hx;rw [e1] at hat hih;clear hx e1;have hcap := YC (N + ((kids.take i).map condW).sum) (condW kids[i]) a ha;refine tr 5 ?_;refine Lo 1 sg46 rfl hc4 ?_;refine cto 10 ?_
  refine Lo 1 sg46 rfl hc4 ?_;refine pe 0 (zI ez46 rfl rfl hA (by omega)) ?_;refine La 0 ag48 hat ?_;refine Cr cl86 rfl (fun m' hm he => (hih m' (hl9.trans hm))) ?_;rintro _ rfl;refine pe 0 (zi rfl rfl (by omega)) ?_;refine pe 6 (vm rfl rfl) ?_;refine Pa 2 ?_
  exact QR ((i + 1, min (a + min (condW kids[i]) 100000) 100000) : Nat × Nat) (Pick.nil _) ⟨hlt, by dsimp only; rw [hcap, htk, Nat.add_assoc]⟩ (by dsimp only; omega)
 ·have hi2 : i = kids.length := by omega
  subst hi2;rw [List.take_length] at ha;refine tr 5 ?_;refine Lo 1 sg46 rfl hc4 ?_;refine cfo 5 ?_;refine zC ?_;refine zB ?_;refine qt 8 ?_;exact rt2 hl2 ⟨rfl, trivial⟩ ⟨by rw [yd, hN, ha]; rfl, rfl⟩
def szX (l : List EffT) : Nat := (l.map fun x => szE x - 1).sum
theorem UU {l : List EffT} {i : Nat} (h : i < l.length) : szX (l.take (i + 1)) = szX (l.take i) + (szE l[i] - 1) := wL (fun x => szE x - 1) h
theorem UV (l : List EffT) (i : Nat) : szX (l.take i) ≤ szX l := Zn _ l i
theorem szL_X (l : List EffT) : szL l = l.length + szX l := by
 induction l with
 | nil => rfl
 | cons x r ih =>
   have h1 := szE_pos x;have h2 : szL (x :: r) = szE x + szL r := by simp [szL]
   have h3 : szX (x :: r) = (szE x - 1) + szX r := by simp [szX]
   rw [List.length_cons];omega
def SzB (l : List EffT) : Prop := ∀ (m : Mp) (A : Option Addr) (c : Nat), EffsSm l → EffsR m A l.length l → l.length ≤ 140737488355328 → CS Tryz.prog 30 [.slice A l.length c] m [] (Gives (capV (szL l)))
theorem XW {l : List EffT} (ih : ∀ (i : Nat) (h : i < l.length) (op who : Int) (n : NumT) (name : List UInt8) (c : CondT) (a e : List EffT), l[i] = .mk op who n name c a e → SzB a ∧ SzB e) : SzB l := by
 rintro m A c hsm ⟨-, hml, vs, hrd, hvl, hel⟩ hln;skip;refine yI [.tmp 2] Tryz.func30 rfl rfl rfl ?_;refine tr 19 ?_
 refine zj (α := Nat × Nat) (fun y => [(0, .slice A l.length c), (3, .int .i64 (y.2 : Nat)), (4, .int .i64 (y.1 : Nat))]) (fun _ => []) (fun y => y.1 ≤ l.length ∧ y.2 ≤ 140737488355328 + 500000 ∧ min y.2 100000 = min (l.length + szX (l.take y.1)) 100000) (fun y => l.length - y.1) (0, l.length) ⟨rfl, rfl, rfl, trivial⟩ (Pick.nil _) ⟨Nat.zero_le _, by dsimp only; omega, by simp [szX]⟩ ?_
 rintro ⟨i, a⟩ ⟨hi, hab, ha⟩;dsimp only at hi hab ha;dsimp only;have hpart := UV l i;have htot := szL_X l;by_cases hcap : a < 100000
 rotate_left
 ·have hfin : min a 100000 = min (szL l) 100000 := by omega
  by_cases hlt : i < l.length
  ·refine tr 6 ?_;refine cto 2 ?_;refine cfo 6 ?_;refine zC ?_;refine zB ?_;refine qt 4 ?_;refine pe 4 (vm rfl rfl) ?_;exact rt1 ⟨rfl, trivial⟩ ⟨by rw [show ∀ z : Nat, tup [Value.int .i64 (z : Nat)] = Value.int .i64 (z : Nat) from fun _ => rfl]; rw [hfin], rfl⟩
  ·refine tr 6 ?_;refine cfo 9 ?_;refine zC ?_;refine zB ?_;refine qt 4 ?_;refine pe 4 (vm rfl rfl) ?_;exact rt1 ⟨rfl, trivial⟩ ⟨by rw [show ∀ z : Nat, tup [Value.int .i64 (z : Nat)] = Value.int .i64 (z : Nat) from fun _ => rfl]; rw [hfin], rfl⟩
 by_cases hlt : i < l.length
 ·have hA : A.isSome = true := hrd.isSome (by omega);have hat := hrd.elem (i * 14) 14;have hx := hel i hlt;have hih := ih i hlt;have htk := UU hlt;have hs := hsm _ (List.getElem_mem hlt);clear ih hel hsm;generalize l[i] = x at hx hih htk hs;generalize (vs.drop (i * 14)).take 14 = xs at hx hat
  obtain ⟨op, who, nop, nn, nwho, nA, nlen, nc, name, cop, cwho, cname, cA, cla, cca, cB, clb, ccb, TA, la, ca, EB, lb, cb, n, cond, thn, els, rfl, rfl, -, hn, hc, hthn, hels⟩ := EffR.parts hx;obtain ⟨i1, i2⟩ := hih _ _ _ _ _ _ _ rfl;have e1 := hthn.1;have e2 := hels.1;subst e1 e2;clear hx hih;have hsz := UW op who n name cond thn els
  have hs4 : thn.length ≤ 140737488355328 ∧ els.length ≤ 140737488355328 ∧ EffsSm thn ∧ EffsSm els := by cases hs with | mk g1 g2 g3 g4 g5 g6 => exact ⟨g3, g4, g5, g6⟩
  have haN : At m (((sa A).add (i * 14)).add 2) (n4 nop nn nwho nA nlen nc) := hat.sub 2 4;have haC : At m (((sa A).add (i * 14)).add 7) (c5 cop cwho cname cA cla cca cB clb ccb) := hat.sub 7 5;have hc12 : mc m (((sa A).add (i * 14)).add 12) = some (.slice TA thn.length ca) := hat 12 _ rfl;have hc13 : mc m (((sa A).add (i * 14)).add 13) = some (.slice EB els.length cb) := hat 13 _ rfl
  refine tr 6 ?_;refine cto 2 ?_;refine cto 8 ?_;refine Db (sq [0, 1, 2, 3, 4, 5, 8, 9, 10, 11, 12, 15, 16, 17, 18, 19, 22, 23, 24, 25, 26, 106, 7, 113, 14, 120, 21, 127, 28, 29] .done) ?_;refine vB 3 ?_;refine Vb 1 rfl (zI ez38 rfl rfl hA (by omega)) ?_;refine Vr 2 rfl (zJ ag45 rfl rfl haN) ?_;refine Vb 1 rfl (zI ez38 rfl rfl hA (by omega)) ?_
  refine Vr 2 rfl (zJ ag48 rfl rfl haC) ?_;refine Vb 1 rfl (zI ez38 rfl rfl hA (by omega)) ?_;refine Vr 2 rfl (zF sg38 rfl hc12) ?_;refine Vb 1 rfl (zI ez38 rfl rfl hA (by omega)) ?_;refine Vr 0 rfl (zF sg38 rfl hc13) ?_;refine zA rfl (zl cl85 rfl (fun m' hm he => (sizeNum85 (hn.mono hm) m' (Le.refl _))) rfl ?_) rfl;rintro _ rfl
  refine Vb 0 rfl (zi rfl rfl (by omega)) ?_;refine zA rfl (zl cl86 rfl (fun m' hm he => (sizeCond86 (hc.mono hm) m' (Le.refl _))) rfl ?_) rfl;rintro _ rfl;refine Vb 0 rfl (zi rfl rfl (by omega)) ?_;refine zA rfl (zl cl30 rfl (fun m' hm he => (i1 m' TA ca hs4.2.2.1 (hthn.mono hm) hs4.1)) rfl ?_) rfl;rintro _ rfl;refine Vb 0 rfl (zi rfl rfl (by omega)) ?_
  refine zA rfl (zl cl30 rfl (fun m' hm he => (i2 m' EB cb hs4.2.2.2 (hels.mono hm) hs4.2.1)) rfl ?_) rfl;rintro _ rfl;refine Vb 1 rfl (zi rfl rfl (by omega)) ?_;refine Vn 4 ?_;refine Pa 2 ?_
  exact QR ((i + 1, a + min (numW n) 100000 + min (condW cond) 100000 + min (szL thn) 100000 + min (szL els) 100000) : Nat × Nat) (Pick.nil _) ⟨hlt, by dsimp only; omega, by dsimp only; rw [htk]; omega⟩ (by dsimp only; omega)
 ·have hi2 : i = l.length := by omega
  subst hi2;rw [List.take_length] at ha;have hfin : min a 100000 = min (szL l) 100000 := by omega
  refine tr 6 ?_;refine cfo 9 ?_;refine zC ?_;refine zB ?_;refine qt 4 ?_;refine pe 4 (vm rfl rfl) ?_;exact rt1 ⟨rfl, trivial⟩ ⟨by rw [show ∀ z : Nat, tup [Value.int .i64 (z : Nat)] = Value.int .i64 (z : Nat) from fun _ => rfl]; rw [hfin], rfl⟩
theorem Size30 (l : List EffT) : SzB l := XW fun i h op who n name c a e he => ⟨Size30 a, Size30 e⟩
termination_by SizeOf.sizeOf l
decreasing_by
 all_goals
  have h1 := List.sizeOf_lt_of_mem (List.getElem_mem h);rw [he] at h1;simp only [EffT.mk.sizeOf_spec] at h1;omega
end
section
open Wd Tp Kd
variable {m : Mp}
structure FmtSz (f : FmtT) : Prop where
 name : f.name.length ≤ 140737488355328
 lb : f.banned.length ≤ 140737488355328
 ls : f.single.length ≤ 140737488355328
 b : ∀ s ∈ f.banned, s.length ≤ 140737488355328
 s : ∀ s ∈ f.single, s.length ≤ 140737488355328
structure BkSz (b : BkT) : Prop where
 lc : b.cards.length ≤ 140737488355328
 lf : b.fmts.length ≤ 140737488355328
 c : ∀ x ∈ b.cards, CardSm x
 f : ∀ x ∈ b.fmts, FmtSz x
theorem BkSz.sm {b : BkT} (h : BkSz b) (hg : grT b ≤ 6000) : BkSm b := by
 refine ⟨h.lc, h.lf, h.c, fun f hf => ?_⟩;have h1 := h.f f hf;have h2 := Uw szF hf;unfold grT at hg;have h3 : szF f = f.banned.length + f.single.length := rfl;exact ⟨h1.name, by omega, by omega, h1.b, h1.s⟩
theorem Great11 {kc fc : Nat} {K F : Option Addr} {b : BkT} (hC : CardsX m K b.cards) (hF : FmtsX m F b.fmts) (hs : BkSz b) : CS Tryz.prog 11 [.agg (bk2 K b.cards.length kc F b.fmts.length fc).toArray] m [] (Gives (.bool (decide (6000 < grT b)))) := by
 have hlc := hs.lc;have hlf := hs.lf;skip;refine yI [.tmp 2] Tryz.func11 rfl rfl rfl ?_;refine tr 2 ?_;refine Bx 4 rfl fun b1 => ?_;refine zG .here (fun ns hi _ hd1 => ?_);have hR : Rd (uni m ns) (some ⟨b1, 0, none⟩) (bk2 K b.cards.length kc F b.fmts.length fc) := (Rd.blk hi).mono (zV hd1);have hl2 : Le m (uni m ns) := zM _ _;clear hi hd1;generalize uni m ns = m9 at hR hl2
 have hC := hC.mono hl2;have hF := hF.mono hl2;have hc0 : mc m9 ⟨b1, 0, none⟩ = some (.slice K b.cards.length kc) := hR.at_ (i := 0) rfl;have hc1 : mc m9 ⟨b1, 1, none⟩ = some (.slice F b.fmts.length fc) := hR.at_ (i := 1) rfl;obtain ⟨vs, hrd, hvl, hel⟩ := hC;obtain ⟨us, hrf, hul, hef⟩ := hF;generalize hP1 : b.cards.length + b.fmts.length + (b.cards.map szC).sum = P1;refine tr 2 ?_
 refine Lo 2 sg23 rfl hc0 ?_;refine Lo 1 sg24 rfl hc1 ?_;refine pe 5 (zi rfl rfl (by omega)) ?_;refine qm (α := Nat) (fun a => [(1, .pointer (some ⟨b1, 0, none⟩)), (3, .int .i64 (a : Nat))]) (fun _ => []) (fun a => a ≤ 562949953421312 ∧ min a 6001 = min P1 6001) ?_ ?_
 ·refine tr 5 ?_
  refine zj (α := Nat × Nat) (fun y => [(1, .pointer (some ⟨b1, 0, none⟩)), (3, .int .i64 (y.2 : Nat)), (4, .int .i64 (y.1 : Nat))]) (fun _ => []) (fun y => y.1 ≤ b.cards.length ∧ y.2 ≤ 562949953421312 ∧ min y.2 6001 = min (b.cards.length + b.fmts.length + ((b.cards.take y.1).map szC).sum) 6001) (fun y => b.cards.length - y.1) (0, b.cards.length + b.fmts.length) ⟨rfl, rfl, rfl, trivial⟩ (Pick.nil _) ⟨Nat.zero_le _, by dsimp only; omega, by simp⟩ ?_
  rintro ⟨i, a⟩ ⟨hi, hab, ha⟩;dsimp only at hi hab ha;dsimp only;have hpart := Zn szC b.cards i;by_cases hlt : i < b.cards.length
  ·by_cases hcap : a ≤ 6000
   ·have hA : K.isSome = true := hrd.isSome (by omega);have hat := hrd.elem (i * 12) 12;obtain ⟨q, e, hpl, hde, hda⟩ := hel i hlt;have hsm := hs.c _ (List.getElem_mem hlt);have htk := wL szC hlt;have hsc : szC b.cards[i] = szL b.cards[i].played + szL b.cards[i].dead + szL b.cards[i].dawn := rfl;rw [e] at hat;clear e;generalize b.cards[i] = c at hat hpl hde hda hsm htk hsc;refine tr 5 ?_
    refine Lo 1 sg23 rfl hc0 ?_;refine cto 2 ?_;refine cto 11 ?_;refine Lo 1 sg23 rfl hc0 ?_;refine pe 0 (zI ez23 rfl rfl hA (by omega)) ?_;refine La 0 ag40 hat ?_;refine Al 0 zl40 fun b2 => ?_;refine Sg 2 ag40 .here ?_;refine zG .here (fun ns hi2 _ hd2 => ?_);have hR2 : Rd (uni m9 ns) (some ⟨b2, 0, none⟩) (q.v c) := (Rd.blk hi2).mono (zV hd2)
    have hl3 : Le m9 (uni m9 ns) := zM _ _;clear hi2 hd2;generalize uni m9 ns = m8 at hR2 hl3;have hpl := hpl.mono hl3;have hde := hde.mono hl3;have hda := hda.mono hl3;have hc8 : mc m8 ⟨b2, 8, none⟩ = some (.slice q.A c.played.length q.ca) := hR2.at_ (i := 8) rfl;have hc9 : mc m8 ⟨b2, 9, none⟩ = some (.slice q.B c.dead.length q.cb) := hR2.at_ (i := 9) rfl
    have hc10 : mc m8 ⟨b2, 10, none⟩ = some (.slice q.D c.dawn.length q.cd) := hR2.at_ (i := 10) rfl;refine Db (sq [0, 1, 2, 5, 6, 9, 10, 103, 4, 107, 8, 111, 12, 13] .done) ?_;refine vB 2 ?_;refine Vr 1 rfl (zF sg38 rfl hc8) ?_;refine Vr 1 rfl (zF sg38 rfl hc9) ?_;refine Vr 0 rfl (zF sg38 rfl hc10) ?_
    refine zA rfl (zl cl30 rfl (fun m' hm he => (Size30 c.played m' _ _ hsm.p (hpl.mono hm) hsm.lp)) rfl ?_) rfl;rintro _ rfl;refine Vb 0 rfl (zi rfl rfl (by omega)) ?_;refine zA rfl (zl cl30 rfl (fun m' hm he => (Size30 c.dead m' _ _ hsm.d (hde.mono hm) hsm.ld)) rfl ?_) rfl;rintro _ rfl;refine Vb 0 rfl (zi rfl rfl (by omega)) ?_
    refine zA rfl (zl cl30 rfl (fun m' hm he => (Size30 c.dawn m' _ _ hsm.w (hda.mono hm) hsm.lw)) rfl ?_) rfl;rintro _ rfl;refine Vb 1 rfl (zi rfl rfl (by omega)) ?_;refine Vn 4 ?_;refine Pa 2 ?_
    exact ZX hl3 ((i + 1, a + min (szL c.played) 100000 + min (szL c.dead) 100000 + min (szL c.dawn) 100000) : Nat × Nat) ⟨rfl, rfl, rfl, trivial⟩ (Pick.nil _) ⟨hlt, by dsimp only; omega, by dsimp only; rw [htk]; omega⟩ (by dsimp only; omega)
   ·refine tr 5 ?_;refine Lo 1 sg23 rfl hc0 ?_;refine cto 2 ?_;refine cfo 6 ?_;refine zC ?_;refine zB ?_;exact QR (a : Nat) (Pick.nil _) ⟨hab, by omega⟩ (by decide)
  ·have hi2 : i = b.cards.length := by omega
   subst hi2;rw [List.take_length, hP1] at ha;refine tr 5 ?_;refine Lo 1 sg23 rfl hc0 ?_;refine cfo 9 ?_;refine zC ?_;refine zB ?_;exact QR (a : Nat) (Pick.nil _) ⟨hab, ha⟩ (by decide)
 rintro a ⟨hab, ha⟩;have hgr : grT b = P1 + (b.fmts.map szF).sum := by unfold grT; rw [hP1]
 rw [hgr];refine tr 7 ?_
 refine zj (α := Nat × Nat) (fun y => [(1, .pointer (some ⟨b1, 0, none⟩)), (3, .int .i64 (y.2 : Nat)), (6, .int .i64 (y.1 : Nat))]) (fun _ => []) (fun y => y.1 ≤ b.fmts.length ∧ y.2 ≤ 1125899906842624 ∧ min y.2 6001 = min (P1 + ((b.fmts.take y.1).map szF).sum) 6001) (fun y => b.fmts.length - y.1) (0, a) ⟨rfl, rfl, rfl, trivial⟩ (Pick.nil _) ⟨Nat.zero_le _, by dsimp only; omega, by simpa using ha⟩ ?_
 clear hab ha;rintro ⟨i, a⟩ ⟨hi, hab, ha⟩;dsimp only at hi hab ha;dsimp only;have hpart := Zn szF b.fmts i;by_cases hlt : i < b.fmts.length
 ·by_cases hcap : a ≤ 6000
  ·have hA : F.isSome = true := hrf.isSome (by omega);have hat := hrf.elem (i * 7) 7;obtain ⟨q, e, hB, hS⟩ := hef i hlt;have hsm := hs.f _ (List.getElem_mem hlt);have hlb := hsm.lb;have hls := hsm.ls;have htk := wL szF hlt;have hsc : szF b.fmts[i] = b.fmts[i].banned.length + b.fmts[i].single.length := rfl;rw [e] at hat;clear e
   have hc4 : mc m9 (((sa F).add (i * 7)).add 4) = some (.slice q.A b.fmts[i].banned.length q.ca) := hat 4 _ rfl;have hc5 : mc m9 (((sa F).add (i * 7)).add 5) = some (.slice q.B b.fmts[i].single.length q.cb) := hat 5 _ rfl;clear hB hS hsm;refine tr 5 ?_;refine Lo 1 sg24 rfl hc1 ?_;refine cto 2 ?_;refine cto 8 ?_;refine Db (sq [0, 1, 2, 3, 4, 5, 6, 7, 8, 9, 10, 11, 12, 13, 14, 15, 16, 17] .done) ?_
   refine vB 2 ?_;refine Vr 1 rfl (zF sg24 rfl hc1) ?_;refine Vb 1 rfl (zI ez24 rfl rfl hA (by omega)) ?_;refine Vr 1 rfl (zF sg61 rfl hc4) ?_;refine Vb 1 rfl (zi rfl rfl (by omega)) ?_;refine Vr 1 rfl (zF sg24 rfl hc1) ?_;refine Vb 1 rfl (zI ez24 rfl rfl hA (by omega)) ?_;refine Vr 1 rfl (zF sg61 rfl hc5) ?_;refine Vb 1 rfl (zi rfl rfl (by omega)) ?_
   refine Vn 4 ?_;refine Pa 2 ?_;exact QR ((i + 1, a + b.fmts[i].banned.length + b.fmts[i].single.length) : Nat × Nat) (Pick.nil _) ⟨hlt, by dsimp only; omega, by dsimp only; rw [htk]; omega⟩ (by dsimp only; omega)
  ·refine tr 5 ?_;refine Lo 1 sg24 rfl hc1 ?_;refine cto 2 ?_;refine cfo 6 ?_;refine zC ?_;refine zB ?_;refine qt 4 ?_;refine cto 4 ?_;exact rt2 hl2 ⟨rfl, trivial⟩ ⟨by rw [decide_eq_true (show 6000 < P1 + (b.fmts.map szF).sum by omega)]; rfl, rfl⟩
 ·have hi2 : i = b.fmts.length := by omega
  subst hi2;rw [List.take_length] at ha;by_cases hg : 6000 < a
  ·refine tr 5 ?_;refine Lo 1 sg24 rfl hc1 ?_;refine cfo 9 ?_;refine zC ?_;refine zB ?_;refine qt 4 ?_;refine cto 4 ?_;exact rt2 hl2 ⟨rfl, trivial⟩ ⟨by rw [decide_eq_true (show 6000 < P1 + (b.fmts.map szF).sum by omega)]; rfl, rfl⟩
  ·refine tr 5 ?_;refine Lo 1 sg24 rfl hc1 ?_;refine cfo 9 ?_;refine zC ?_;refine zB ?_;refine qt 4 ?_;refine cfo 4 ?_;exact rt2 hl2 ⟨rfl, trivial⟩ ⟨by rw [decide_eq_false (show ¬ 6000 < P1 + (b.fmts.map szF).sum by omega)]; rfl, rfl⟩
end
section
open Wd Tp Kd Go.WideShapes
def Yb : BTy := ⟨42, 3, 9, 45, 43, 48, 46, 50, 38⟩
theorem Yb_ok : Yb.ok Tryz.prog = true := by kernel_rfl
theorem row_get {vs l : List Value} {o sz j : Nat} {u : Value} (h : (vs.drop o).take sz = l) (hu : l[j]? = some u) : vs[o + j]? = some u := by
 rw [← h, List.getElem?_take] at hu
 split at hu
 ·rw [List.getElem?_drop] at hu; exact hu
 ·cases hu
section
variable {H : Type} {enc : TypeId × Value → H} {w : World} {base : Nat} {spare : Nat → Bool} {held : Bool} {fuel : Nat} {cs : List Value} {x : DataW H × List MemPlace}
theorem xn {t e sz by_ : Nat} (ht : sliceT Tryz.prog t e = true) (hc : Tryz.prog.cellsOf e = sz) (hb : Tryz.prog.bytesOf e = by_) (h1 : 1 ≤ by_) (h : DataW.trod enc Tryz.prog w base spare held fuel t cs = some x) (hg : GoodR Tryz.prog w t x) :
  ∃ (A : Option Addr) (len cap : Nat) (vs : List Value) (n : Nat), cs = [.slice A len cap] ∧ Rd (mp w.heap) A vs ∧ vs.length = len * sz ∧ len ≤ cap ∧ len ≤ 140737488355328 ∧ n ≤ fuel ∧
   ∀ i, i < len → ∃ y, DataW.trod enc Tryz.prog w base spare held n e ((vs.drop (i * sz)).take sz) = some y ∧ GoodR Tryz.prog w e y := by
 obtain ⟨A, len, cap, vs, n, rfl, hA, hbl, hw, hl, hn, hel⟩ := Vp ht hc hb h hg;obtain ⟨A', len', cap', vs', n', e', -, -, hcap, -⟩ := ka ht hc h
 simp at e'
 obtain ⟨rfl, rfl, rfl⟩ := e';refine ⟨A, len, cap, vs, n, rfl, fun i u hi => ⟨hA ?_, (hw i u hi).1⟩, hl, hcap, ?_, hn, hel⟩
 ·have h3 := (List.getElem?_eq_some_iff.1 hi).1;rw [hl] at h3;rcases Nat.eq_zero_or_pos len with h4 | h4
  ·rw [h4, Nat.zero_mul] at h3; omega
  ·exact h4
 ·unfold reachBytes at hbl;have h5 : len * 1 ≤ len * by_ := Nat.mul_le_mul_left len h1;omega
theorem Qb : ∀ (fuel : Nat) (cs : List Value) (x : DataW H × List MemPlace), DataW.trod enc Tryz.prog w base spare held fuel 48 cs = some x → GoodR Tryz.prog w 48 x → ∃ T, CondR (mp w.heap) cs T ∧ CondSm T := by
 intro fuel
 induction fuel using Nat.strongRecOn with
 | _ fuel ih =>
   intro cs x h hg;obtain ⟨n, x0, rfl, hl, r0, _⟩ := zu (i := 0) (zd (ft := 42) (off := 0) (by kernel_rfl)) h hg;obtain ⟨_, x1, hn1, _, r1, _⟩ := zu (i := 1) (zd (ft := 42) (off := 1) (by kernel_rfl)) h hg;obtain ⟨_, x2, hn2, _, r2, g2⟩ := zu (i := 2) (zd (ft := 9) (off := 2) (by kernel_rfl)) h hg
   obtain ⟨n3, x3, hn3, _, r3, _⟩ := zu (i := 3) (zd (ft := 43) (off := 3) (by kernel_rfl)) h hg;obtain ⟨n4, x4, hn4, _, r4, g4⟩ := zu (i := 4) (zd (ft := 46) (off := 4) (by kernel_rfl)) h hg;rw [show Tryz.prog.cellsOf 48 = 5 by kernel_rfl] at hl;rw [show Tryz.prog.cellsOf 42 = 1 by kernel_rfl] at r0 r1;rw [show Tryz.prog.cellsOf 9 = 1 by kernel_rfl] at r2
   rw [show Tryz.prog.cellsOf 43 = 1 by kernel_rfl] at r3;rw [show Tryz.prog.cellsOf 46 = 1 by kernel_rfl] at r4
   match cs, hl with
   | [c0, c1, c2, c3, c4], _ =>
     obtain ⟨op, q0, w0⟩ := y9 (k := .i8) (by kernel_rfl) r0;obtain ⟨who, q1, w1⟩ := y9 (k := .i8) (by kernel_rfl) r1;obtain ⟨name, q2, w2⟩ := uT (by kernel_rfl) r2 g2;obtain ⟨A, la, ca, vs, m3, q3, ha1, ha2, ha3, ha4, ha5, ha6⟩ := ka (e := 45) (sz := 4) (by kernel_rfl) (by kernel_rfl) r3
     obtain ⟨B, lb, cb, us, m4, q4, hb1, hb2, hb3, hb4, hb5, hb6⟩ := xn (e := 48) (sz := 5) (by kernel_rfl) (by kernel_rfl) rfl (Nat.le_of_ble_eq_true (by kernel_rfl)) r4 g4
     simp at q0 q1 q2 q3 q4
     subst q0 q1 q2 q3 q4
     obtain ⟨nums, hkl, hk⟩ := yV (p := fun i T => NumR (mp w.heap) ((vs.drop (i * 4)).take 4) T) (fun i hi => by
      obtain ⟨z, hz⟩ := ha6 i hi
      exact Uo Yb_ok _ _ _ hz)
     obtain ⟨kids, hkl', hk'⟩ := yV (p := fun i T => CondR (mp w.heap) ((us.drop (i * 5)).take 5) T ∧ CondSm T) (fun i hi => by
      obtain ⟨z, hz, hgz⟩ := hb6 i hi
      exact ih m4 (by omega) _ _ hz hgz)
     refine ⟨.mk op who name nums kids, .mk (kO w0) (kO w1) (Nat.le_trans w2 (by decide)) hkl (Nat.le_trans ha3 ha4) ha1 (by rw [hkl]; exact ha2) hk hkl' (Nat.le_trans hb4 (by decide)) hb1 (by rw [hkl']; exact hb2) fun i hi => (hk' i hi).1, .mk w2 fun k hk => ?_⟩;obtain ⟨i, hi, rfl⟩ := List.getElem_of_mem hk;exact (hk' i hi).2
theorem eff_inG : ∀ (fuel : Nat) (cs : List Value) (x : DataW H × List MemPlace), DataW.trod enc Tryz.prog w base spare held fuel 50 cs = some x → GoodR Tryz.prog w 50 x → ∃ T, EffR (mp w.heap) cs T ∧ EffSm T := by
 intro fuel
 induction fuel using Nat.strongRecOn with
 | _ fuel ih =>
   intro cs x h hg;obtain ⟨n, x0, rfl, hl, r0, _⟩ := zu (i := 0) (zd (ft := 42) (off := 0) (by kernel_rfl)) h hg;obtain ⟨_, x1, hn1, _, r1, _⟩ := zu (i := 1) (zd (ft := 42) (off := 1) (by kernel_rfl)) h hg;obtain ⟨_, x2, hn2, _, r2, _⟩ := zu (i := 2) (zd (ft := 45) (off := 2) (by kernel_rfl)) h hg
   obtain ⟨_, x3, hn3, _, r3, g3⟩ := zu (i := 3) (zd (ft := 9) (off := 6) (by kernel_rfl)) h hg;obtain ⟨_, x4, hn4, _, r4, g4⟩ := zu (i := 4) (zd (ft := 48) (off := 7) (by kernel_rfl)) h hg;obtain ⟨n5, x5, hn5, _, r5, g5⟩ := zu (i := 5) (zd (ft := 38) (off := 12) (by kernel_rfl)) h hg
   obtain ⟨n6, x6, hn6, _, r6, g6⟩ := zu (i := 6) (zd (ft := 38) (off := 13) (by kernel_rfl)) h hg;rw [show Tryz.prog.cellsOf 50 = 14 by kernel_rfl] at hl;rw [show Tryz.prog.cellsOf 42 = 1 by kernel_rfl] at r0 r1;rw [show Tryz.prog.cellsOf 9 = 1 by kernel_rfl] at r3;rw [show Tryz.prog.cellsOf 45 = 4 by kernel_rfl] at r2;rw [show Tryz.prog.cellsOf 48 = 5 by kernel_rfl] at r4
   rw [show Tryz.prog.cellsOf 38 = 1 by kernel_rfl] at r5 r6
   match cs, hl with
   | [c0, c1, d0, d1, d2, d3, c3, k0, k1, k2, k3, k4, c5, c6], _ =>
     obtain ⟨op, q0, w0⟩ := y9 (k := .i8) (by kernel_rfl) r0;obtain ⟨who, q1, w1⟩ := y9 (k := .i8) (by kernel_rfl) r1;obtain ⟨nt, hnt⟩ := Uo Yb_ok _ _ _ r2;obtain ⟨name, q3, w3⟩ := uT (by kernel_rfl) r3 g3;obtain ⟨ct, hct, hcs⟩ := Qb _ _ _ r4 g4
     obtain ⟨A, la, ca, vs, m3, q5, ha1, ha2, ha3, ha4, ha5, ha6⟩ := xn (e := 50) (sz := 14) (by kernel_rfl) (by kernel_rfl) rfl (Nat.le_of_ble_eq_true (by kernel_rfl)) r5 g5;obtain ⟨B, lb, cb, us, m4, q6, hb1, hb2, hb3, hb4, hb5, hb6⟩ := xn (e := 50) (sz := 14) (by kernel_rfl) (by kernel_rfl) rfl (Nat.le_of_ble_eq_true (by kernel_rfl)) r6 g6
     simp at q0 q1 q3 q5 q6
     subst q0 q1 q3 q5 q6
     obtain ⟨thn, hkl, hk⟩ := yV (p := fun i T => EffR (mp w.heap) ((vs.drop (i * 14)).take 14) T ∧ EffSm T) (fun i hi => by
      obtain ⟨z, hz, hgz⟩ := ha6 i hi
      exact ih m3 (by omega) _ _ hz hgz)
     obtain ⟨els, hkl', hk'⟩ := yV (p := fun i T => EffR (mp w.heap) ((us.drop (i * 14)).take 14) T ∧ EffSm T) (fun i hi => by
      obtain ⟨z, hz, hgz⟩ := hb6 i hi
      exact ih m4 (by omega) _ _ hz hgz)
     refine ⟨.mk op who nt name ct thn els, .mk (ns := [d0, d1, d2, d3]) (cs := [k0, k1, k2, k3, k4]) (kO w0) (kO w1) hnt (Nat.le_trans w3 (by decide)) hct hkl (Nat.le_trans ha4 (by decide)) ha1 (by rw [hkl]; exact ha2) (fun i hi => (hk i hi).1) hkl' (Nat.le_trans hb4 (by decide)) hb1 (by rw [hkl']; exact hb2) fun i hi => (hk' i hi).1,
      .mk w3 hcs (by omega) (by omega) (fun y hy => ?_) fun y hy => ?_⟩
     ·obtain ⟨i, hi, rfl⟩ := List.getElem_of_mem hy;exact (hk i hi).2
     ·obtain ⟨i, hi, rfl⟩ := List.getElem_of_mem hy;exact (hk' i hi).2
theorem kU (h : DataW.trod enc Tryz.prog w base spare held fuel 38 cs = some x) (hg : GoodR Tryz.prog w 38 x) : ∃ (A : Option Addr) (c : Nat) (l : List EffT), cs = [.slice A l.length c] ∧ EffsR (mp w.heap) A l.length l ∧ l.length ≤ 140737488355328 ∧ EffsSm l := by
 obtain ⟨A, la, ca, vs, m3, rfl, ha1, ha2, ha3, ha4, ha5, ha6⟩ := xn (e := 50) (sz := 14) (by kernel_rfl) (by kernel_rfl) rfl (Nat.le_of_ble_eq_true (by kernel_rfl)) h hg
 obtain ⟨l, hkl, hk⟩ := yV (p := fun i T => EffR (mp w.heap) ((vs.drop (i * 14)).take 14) T ∧ EffSm T) (fun i hi => by
  obtain ⟨z, hz, hgz⟩ := ha6 i hi
  exact eff_inG _ _ _ hz hgz)
 subst hkl;refine ⟨A, ca, l, rfl, ⟨rfl, Nat.le_trans ha4 (by decide), vs, ha1, ha2, fun i hi => (hk i hi).1⟩, ha4, fun y hy => ?_⟩;obtain ⟨i, hi, rfl⟩ := List.getElem_of_mem hy;exact (hk i hi).2
theorem Yh (h : DataW.trod enc Tryz.prog w base spare held fuel 61 cs = some x) (hg : GoodR Tryz.prog w 61 x) : ∃ (A : Option Addr) (c : Nat) (xs : List (List UInt8)), cs = [.slice A xs.length c] ∧ RdN (mp w.heap) A c xs ∧ xs.length ≤ 140737488355328 ∧ ∀ s ∈ xs, s.length ≤ 140737488355328 := by
 obtain ⟨A, len, cap, vs, n, rfl, hrd, hl, hcap, hlen, _, hel⟩ := xn (e := 9) (sz := 1) (by kernel_rfl) (by kernel_rfl) rfl (Nat.le_of_ble_eq_true (by kernel_rfl)) h hg
 obtain ⟨xs, hxl, hx⟩ := yV (n := len) (p := fun i (b : List UInt8) => vs[i]? = some (strV b) ∧ b.length ≤ 140737488355328) (fun i hi => by
  obtain ⟨y, hy, hgy⟩ := hel i hi;obtain ⟨n, e, hlen⟩ := uT (by kernel_rfl) hy hgy;refine ⟨n, ?_, hlen⟩;have := row_get (j := 0) e rfl;rw [Nat.mul_one, Nat.add_zero] at this
  exact this)
 subst hxl;refine ⟨A, cap, xs, rfl, ⟨fun i u hi => ?_, hcap⟩, hlen, fun s hs => by obtain ⟨i, hi, rfl⟩ := List.getElem_of_mem hs; exact (hx i hi).2⟩;rw [List.getElem?_map] at hi;cases hq : xs[i]? with
 | none => rw [hq] at hi; cases hi
 | some q =>
   rw [hq] at hi;obtain ⟨hlt, rfl⟩ := List.getElem?_eq_some_iff.1 hq;cases hi;exact hrd i _ (hx i hlt).1
theorem Qf (h : DataW.trod enc Tryz.prog w base spare held fuel 40 cs = some x) (hg : GoodR Tryz.prog w 40 x) : ∃ T, CardX (mp w.heap) cs T ∧ CardSm T := by
 obtain ⟨_, _, rfl, hl, r0, g0⟩ := zu (i := 0) (zd (ft := 9) (off := 0) (by kernel_rfl)) h hg;obtain ⟨_, _, _, _, r1, _⟩ := zu (i := 1) (zd (ft := 4) (off := 1) (by kernel_rfl)) h hg;obtain ⟨_, _, _, _, r2, _⟩ := zu (i := 2) (zd (ft := 3) (off := 2) (by kernel_rfl)) h hg
 obtain ⟨_, _, _, _, r3, _⟩ := zu (i := 3) (zd (ft := 3) (off := 3) (by kernel_rfl)) h hg;obtain ⟨_, _, _, _, r4, _⟩ := zu (i := 4) (zd (ft := 3) (off := 4) (by kernel_rfl)) h hg;obtain ⟨_, _, _, _, r5, _⟩ := zu (i := 5) (zd (ft := 3) (off := 5) (by kernel_rfl)) h hg
 obtain ⟨_, _, _, _, r6, _⟩ := zu (i := 6) (zd (ft := 3) (off := 6) (by kernel_rfl)) h hg;obtain ⟨_, _, _, _, r7, _⟩ := zu (i := 7) (zd (ft := 3) (off := 7) (by kernel_rfl)) h hg;obtain ⟨_, _, _, _, r8, g8⟩ := zu (i := 8) (zd (ft := 38) (off := 8) (by kernel_rfl)) h hg
 obtain ⟨_, _, _, _, r9, g9⟩ := zu (i := 9) (zd (ft := 38) (off := 9) (by kernel_rfl)) h hg;obtain ⟨_, _, _, _, r10, g10⟩ := zu (i := 10) (zd (ft := 38) (off := 10) (by kernel_rfl)) h hg;obtain ⟨_, _, _, _, r11, _⟩ := zu (i := 11) (zd (ft := 3) (off := 11) (by kernel_rfl)) h hg;rw [show Tryz.prog.cellsOf 40 = 12 by kernel_rfl] at hl
 rw [show Tryz.prog.cellsOf 9 = 1 by kernel_rfl] at r0;rw [show Tryz.prog.cellsOf 4 = 1 by kernel_rfl] at r1;rw [show Tryz.prog.cellsOf 3 = 1 by kernel_rfl] at r2 r3 r4 r5 r6 r7 r11;rw [show Tryz.prog.cellsOf 38 = 1 by kernel_rfl] at r8 r9 r10
 match cs, hl with
 | [c0, c1, c2, c3, c4, c5, c6, c7, c8, c9, c10, c11], _ =>
   obtain ⟨name, q0, w0⟩ := uT (by kernel_rfl) r0 g0;obtain ⟨unit, q1⟩ := bool_in (by kernel_rfl) r1;obtain ⟨i2, q2, _⟩ := y9 (k := .i64) (by kernel_rfl) r2;obtain ⟨i3, q3, _⟩ := y9 (k := .i64) (by kernel_rfl) r3;obtain ⟨i4, q4, _⟩ := y9 (k := .i64) (by kernel_rfl) r4;obtain ⟨i5, q5, _⟩ := y9 (k := .i64) (by kernel_rfl) r5
   obtain ⟨i6, q6, _⟩ := y9 (k := .i64) (by kernel_rfl) r6;obtain ⟨i7, q7, _⟩ := y9 (k := .i64) (by kernel_rfl) r7;obtain ⟨A, ca, e8, q8, k8, n8, s8⟩ := kU r8 g8;obtain ⟨B, cb, e9, q9, k9, n9, s9⟩ := kU r9 g9;obtain ⟨D, cd, e10, q10, k10, n10, s10⟩ := kU r10 g10;obtain ⟨i11, q11, _⟩ := y9 (k := .i64) (by kernel_rfl) r11
   simp at q0 q1 q2 q3 q4 q5 q6 q7 q8 q9 q10 q11
   subst q0 q1 q2 q3 q4 q5 q6 q7 q8 q9 q10 q11;exact ⟨⟨name, unit, i2, i3, i4, i5, i6, i7, e8, e9, e10, i11⟩, ⟨⟨A, ca, B, cb, D, cd⟩, rfl, k8, k9, k10⟩, ⟨w0, n8, n9, n10, s8, s9, s10⟩⟩
theorem fmt_inG (h : DataW.trod enc Tryz.prog w base spare held fuel 63 cs = some x) (hg : GoodR Tryz.prog w 63 x) : ∃ T, FmtX (mp w.heap) cs T ∧ FmtSz T := by
 obtain ⟨_, _, rfl, hl, r0, g0⟩ := zu (i := 0) (zd (ft := 9) (off := 0) (by kernel_rfl)) h hg;obtain ⟨_, _, _, _, r1, _⟩ := zu (i := 1) (zd (ft := 3) (off := 1) (by kernel_rfl)) h hg;obtain ⟨_, _, _, _, r2, _⟩ := zu (i := 2) (zd (ft := 3) (off := 2) (by kernel_rfl)) h hg
 obtain ⟨_, _, _, _, r3, _⟩ := zu (i := 3) (zd (ft := 3) (off := 3) (by kernel_rfl)) h hg;obtain ⟨_, _, _, _, r4, g4⟩ := zu (i := 4) (zd (ft := 61) (off := 4) (by kernel_rfl)) h hg;obtain ⟨_, _, _, _, r5, g5⟩ := zu (i := 5) (zd (ft := 61) (off := 5) (by kernel_rfl)) h hg
 obtain ⟨_, _, _, _, r6, _⟩ := zu (i := 6) (zd (ft := 3) (off := 6) (by kernel_rfl)) h hg;rw [show Tryz.prog.cellsOf 63 = 7 by kernel_rfl] at hl;rw [show Tryz.prog.cellsOf 9 = 1 by kernel_rfl] at r0;rw [show Tryz.prog.cellsOf 3 = 1 by kernel_rfl] at r1 r2 r3 r6;rw [show Tryz.prog.cellsOf 61 = 1 by kernel_rfl] at r4 r5
 match cs, hl with
 | [c0, c1, c2, c3, c4, c5, c6], _ =>
   obtain ⟨name, q0, w0⟩ := uT (by kernel_rfl) r0 g0;obtain ⟨i1, q1, _⟩ := y9 (k := .i64) (by kernel_rfl) r1;obtain ⟨i2, q2, _⟩ := y9 (k := .i64) (by kernel_rfl) r2;obtain ⟨i3, q3, _⟩ := y9 (k := .i64) (by kernel_rfl) r3;obtain ⟨A, ca, e4, q4, k4, n4, s4⟩ := Yh r4 g4;obtain ⟨B, cb, e5, q5, k5, n5, s5⟩ := Yh r5 g5
   obtain ⟨i6, q6, _⟩ := y9 (k := .i64) (by kernel_rfl) r6
   simp at q0 q1 q2 q3 q4 q5 q6
   subst q0 q1 q2 q3 q4 q5 q6;exact ⟨⟨name, i1, i2, i3, e4, e5, i6⟩, ⟨⟨A, ca, B, cb⟩, rfl, k4, k5⟩, ⟨w0, n4, n5, s4, s5⟩⟩
theorem Qh (h : DataW.trod enc Tryz.prog w base spare held fuel 26 cs = some x) (hg : GoodR Tryz.prog w 26 x) : ∃ (b : BkT) (K : Option Addr) (kc : Nat) (F : Option Addr) (fc : Nat), cs = bk2 K b.cards.length kc F b.fmts.length fc ∧ CardsX (mp w.heap) K b.cards ∧ FmtsX (mp w.heap) F b.fmts ∧ BkSz b := by
 obtain ⟨_, y0, rfl, hlen, r0, g0⟩ := zu (i := 0) (zd (ft := 23) (off := 0) (by kernel_rfl)) h hg;obtain ⟨_, y1, _, _, r1, g1⟩ := zu (i := 1) (zd (ft := 24) (off := 1) (by kernel_rfl)) h hg;rw [show Tryz.prog.cellsOf 26 = 2 by kernel_rfl] at hlen;rw [show Tryz.prog.cellsOf 23 = 1 by kernel_rfl] at r0;rw [show Tryz.prog.cellsOf 24 = 1 by kernel_rfl] at r1
 match cs, hlen with
 | [c0, c1], _ =>
   obtain ⟨K, la, kc, vs, m3, q0, ha1, ha2, ha3, ha4, ha5, ha6⟩ := xn (e := 40) (sz := 12) (by kernel_rfl) (by kernel_rfl) rfl (Nat.le_of_ble_eq_true (by kernel_rfl)) r0 g0;obtain ⟨F, lb, fc, us, m4, q1, hb1, hb2, hb3, hb4, hb5, hb6⟩ := xn (e := 63) (sz := 7) (by kernel_rfl) (by kernel_rfl) rfl (Nat.le_of_ble_eq_true (by kernel_rfl)) r1 g1
   simp at q0 q1
   subst q0 q1
   obtain ⟨cl, hcl, hc⟩ := yV (p := fun i T => CardX (mp w.heap) ((vs.drop (i * 12)).take 12) T ∧ CardSm T) (fun i hi => by
    obtain ⟨z, hz, hgz⟩ := ha6 i hi
    exact Qf hz hgz)
   obtain ⟨fl, hfl, hf⟩ := yV (p := fun i T => FmtX (mp w.heap) ((us.drop (i * 7)).take 7) T ∧ FmtSz T) (fun i hi => by
    obtain ⟨z, hz, hgz⟩ := hb6 i hi
    exact fmt_inG hz hgz)
   subst hcl hfl;refine ⟨⟨cl, fl⟩, K, kc, F, fc, rfl, ⟨vs, ha1, ha2, fun i hi => (hc i hi).1⟩, ⟨us, hb1, hb2, fun i hi => (hf i hi).1⟩, ⟨ha4, hb4, fun y hy => ?_, fun y hy => ?_⟩⟩
   ·obtain ⟨i, hi, rfl⟩ := List.getElem_of_mem hy;exact (hc i hi).2
   ·obtain ⟨i, hi, rfl⟩ := List.getElem_of_mem hy;exact (hf i hi).2
end
end
section
open Wd Tp Kd
variable {m : Mp}
def SameV (q : Prop) : Value → List Ent → Prop := fun v L' => ((v = .bool true ∧ q) ∨ (v = .bool false ∧ ¬ q)) ∧ L' = []
theorem same103 {xs : List Value} {x : NumT} (hx : NumR m xs x) : ∀ {ys : List Value} {y : NumT}, NumR m ys y → ∀ m0, Le m m0 → CS Tryz.prog 103 [.agg xs.toArray, .agg ys.toArray] m0 [] (SameV (x = y)) := by
 induction hx with
 | @mk op n who kids A len c vs ho hln hmx hr hv hkk ih =>
 subst hln;intro ys y hy;cases hy with
 | @mk op' n' who' kids' A' len' c' us ho' hln' hmx' hr' hv' hkk' =>
 subst hln';intro m0 hm0;have hmx : kids.length ≤ 9223372036854775807 := hmx;have hmx' : kids'.length ≤ 9223372036854775807 := hmx';skip;refine yI [.tmp 4] Tryz.func103 rfl rfl rfl ?_;refine tr 2 ?_;refine Bx 0 rfl fun b1 => ?_;refine Bx 5 rfl fun b2 => ?_;refine zG .here (fun ns hi _ hd1 => ?_);refine zG .here (fun ns2 hi2 _ hd2 => ?_)
 have hR2 : Rd (uni (uni m0 ns) ns2) (some ⟨b2, 0, none⟩) (n4 op' n' who' A' kids'.length c') := ((Rd.blk hi).mono (zV hd1)).mono (zM _ _);have hR1 : Rd (uni (uni m0 ns) ns2) (some ⟨b1, 0, none⟩) (n4 op n who A kids.length c) := (Rd.blk hi2).mono (zV hd2);have hl2 : Le m0 (uni (uni m0 ns) ns2) := (zM _ _).trans (zM _ _);clear hi hd1 hi2 hd2
 generalize uni (uni m0 ns) ns2 = m9 at hR1 hR2 hl2;have hl9 := hm0.trans hl2;have ha0 : mc m9 ⟨b1, 0, none⟩ = some (.int .i8 op) := hR1.at_ (i := 0) rfl;have ha1 : mc m9 ⟨b1, 1, none⟩ = some (.int .i64 n) := hR1.at_ (i := 1) rfl;have ha2 : mc m9 ⟨b1, 2, none⟩ = some (.int .i8 who) := hR1.at_ (i := 2) rfl;have ha3 : mc m9 ⟨b1, 3, none⟩ = some (.slice A kids.length c) := hR1.at_ (i := 3) rfl
 have hb0 : mc m9 ⟨b2, 0, none⟩ = some (.int .i8 op') := hR2.at_ (i := 0) rfl;have hb1 : mc m9 ⟨b2, 1, none⟩ = some (.int .i64 n') := hR2.at_ (i := 1) rfl;have hb2 : mc m9 ⟨b2, 2, none⟩ = some (.int .i8 who') := hR2.at_ (i := 2) rfl;have hb3 : mc m9 ⟨b2, 3, none⟩ = some (Value.slice A' kids'.length c') := hR2.at_ (i := 3) rfl;by_cases g0 : op = op'
 rotate_left
 ·refine tr 2 ?_;refine Lo 1 sg42 rfl ha0 ?_;refine Lo 0 sg42 rfl hb0 ?_;refine cta 33 ?_;exact rt2 hl2 ⟨rfl, trivial⟩ ⟨.inr ⟨rfl, fun h => g0 (by cases h; rfl)⟩, rfl⟩
 by_cases g1 : n = n'
 rotate_left
 ·refine tr 2 ?_;refine Lo 1 sg42 rfl ha0 ?_;refine Lo 0 sg42 rfl hb0 ?_;refine cfo 2 ?_;refine Lo 1 sg3 rfl ha1 ?_;refine Lo 0 sg3 rfl hb1 ?_;refine cta 27 ?_;exact rt2 hl2 ⟨rfl, trivial⟩ ⟨.inr ⟨rfl, fun h => g1 (by cases h; rfl)⟩, rfl⟩
 by_cases g2 : who = who'
 rotate_left
 ·refine tr 2 ?_;refine Lo 1 sg42 rfl ha0 ?_;refine Lo 0 sg42 rfl hb0 ?_;refine cfo 2 ?_;refine Lo 1 sg3 rfl ha1 ?_;refine Lo 0 sg3 rfl hb1 ?_;refine cfo 3 ?_;refine Lo 1 sg42 rfl ha2 ?_;refine Lo 0 sg42 rfl hb2 ?_;refine cta 20 ?_;exact rt2 hl2 ⟨rfl, trivial⟩ ⟨.inr ⟨rfl, fun h => g2 (by cases h; rfl)⟩, rfl⟩
 by_cases g3 : kids.length = kids'.length
 rotate_left
 ·refine tr 2 ?_;refine Lo 1 sg42 rfl ha0 ?_;refine Lo 0 sg42 rfl hb0 ?_;refine cfo 2 ?_;refine Lo 1 sg3 rfl ha1 ?_;refine Lo 0 sg3 rfl hb1 ?_;refine cfo 3 ?_;refine Lo 1 sg42 rfl ha2 ?_;refine Lo 0 sg42 rfl hb2 ?_;refine cfo 3 ?_;refine Lo 2 sg43 rfl ha3 ?_;refine Lo 1 sg43 rfl hb3 ?_;refine cto 11 ?_;exact rt2 hl2 ⟨rfl, trivial⟩ ⟨.inr ⟨rfl, fun h => g3 (by cases h; rfl)⟩, rfl⟩
 refine tr 2 ?_;refine Lo 1 sg42 rfl ha0 ?_;refine Lo 0 sg42 rfl hb0 ?_;refine cfo 2 ?_;refine Lo 1 sg3 rfl ha1 ?_;refine Lo 0 sg3 rfl hb1 ?_;refine cfo 3 ?_;refine Lo 1 sg42 rfl ha2 ?_;refine Lo 0 sg42 rfl hb2 ?_;refine cfo 3 ?_;refine Lo 2 sg43 rfl ha3 ?_;refine Lo 1 sg43 rfl hb3 ?_;refine cfo 13 ?_
 refine zj (α := Nat) (fun i => [(2, ptr b1), (3, ptr b2), (5, .int .i64 (i : Nat))]) (fun _ => []) (fun i => i ≤ kids.length ∧ ∀ (j : Nat) (h : j < kids.length) (h' : j < kids'.length), j < i → kids[j] = kids'[j]) (fun i => kids.length - i) 0 ⟨rfl, rfl, rfl, trivial⟩ (Pick.nil _) ⟨Nat.zero_le _, fun _ _ _ h => by cases h⟩ ?_;rintro i ⟨hi, hall⟩;by_cases hlt : i < kids.length
 ·have hlt2 : i < kids'.length := by omega
  have hA : A.isSome = true := hr.isSome (by omega);have hA2 : A'.isSome = true := hr'.isSome (by omega);have hat := (hr.elem (i * 4) 4).mono hl9;have hat2 := (hr'.elem (i * 4) 4).mono hl9;have hcall := fun m1 (hm1 : Le m9 m1) => ih i hlt (hkk' i hlt2) m1 (hl9.trans hm1);have hl41 : ((vs.drop (i * 4)).take 4).length = 4 := (hkk i hlt).len
  have hl42 : ((us.drop (i * 4)).take 4).length = 4 := (hkk' i hlt2).len;generalize (vs.drop (i * 4)).take 4 = xs1 at hat hl41 hcall;generalize (us.drop (i * 4)).take 4 = ys1 at hat2 hl42 hcall;refine tr 5 ?_;refine Lo 1 sg43 rfl ha3 ?_;refine cto 8 ?_;refine Db (sq [0, 1, 2, 3, 4, 5, 6, 7, 8, 9, 110, 11] .done) ?_;refine vB 1 ?_;refine Vr 1 rfl (zF sg43 rfl ha3) ?_
  refine Vb 0 rfl (zI ez43 rfl rfl hA (by omega)) ?_;refine Vr 1 rfl ((zJ ag45 rfl hl41 hat)) ?_;refine Vr 1 rfl (zF sg43 rfl hb3) ?_;refine Vb 0 rfl (zI ez43 rfl rfl hA2 (by omega)) ?_;refine Vr 0 rfl ((zJ ag45 rfl hl42 hat2)) ?_;skip;refine zA rfl ((yK cl103 rfl (fun m' hm he => hcall m' hm) rfl ?_)) rfl;rintro _ _ ⟨⟨rfl, hq⟩ | ⟨rfl, hq⟩, rfl⟩
  ·refine vB 1 ?_;refine Vn 7 ?_;refine Pa 2 ?_
   exact QR (i + 1) (Pick.nil _) ⟨hlt, fun j h h' hj => by
    by_cases hji : j < i
    ·exact hall j h h' hji
    ·obtain rfl : j = i := by omega
     exact hq⟩ (by omega)
  ·refine vB 1 ?_;refine Vn 10 ?_;refine zN ?_;refine zP ?_;refine zY ?_;exact rt2 hl2 ⟨rfl, trivial⟩ ⟨.inr ⟨rfl, fun h => hq (by cases h; rfl)⟩, rfl⟩
 ·have hi2 : i = kids.length := by omega
  subst hi2;have hkk2 : kids = kids' := List.ext_getElem g3 fun j h h' => hall j h h' h;refine tr 5 ?_;refine Lo 1 sg43 rfl ha3 ?_;refine cfo 5 ?_;refine zC ?_;refine zB ?_;refine qt 7 ?_;exact rt2 hl2 ⟨rfl, trivial⟩ ⟨.inl ⟨rfl, by rw [g0, g1, g2, hkk2]⟩, rfl⟩
end
section
open Wd Tp Kd
variable {m : Mp}
theorem same104 {xs : List Value} {x : CondT} (hx : CondR m xs x) : ∀ {ys : List Value} {y : CondT}, CondR m ys y → ∀ m0, Le m m0 → CS Tryz.prog 104 [.agg xs.toArray, .agg ys.toArray] m0 [] (SameV (x = y)) := by
 induction hx with
 | @mk op who name nums kids A B la ca lb cb vs ws ho hw hn hla hma hra hva hka hlb hmb hrb hvb hkb ih =>
 subst hla hlb;intro ys y hy;cases hy with
 | @mk op' who' name' nums' kids' A' B' la' ca' lb' cb' vs' ws' ho' hw' hn' hla' hma' hra' hva' hka' hlb' hmb' hrb' hvb' hkb' =>
 subst hla' hlb';intro m0 hm0;have hma : nums.length ≤ 9223372036854775807 := hma;have hma' : nums'.length ≤ 9223372036854775807 := hma';have hmb : kids.length ≤ 9223372036854775807 := hmb;have hmb' : kids'.length ≤ 9223372036854775807 := hmb';skip;refine yI [.tmp 4] Tryz.func104 rfl rfl rfl ?_;refine tr 2 ?_;refine Bx 0 rfl fun b1 => ?_;refine Bx 5 rfl fun b2 => ?_
 refine zG .here (fun ns hi _ hd1 => ?_);refine zG .here (fun ns2 hi2 _ hd2 => ?_);have hR2 : Rd (uni (uni m0 ns) ns2) (some ⟨b2, 0, none⟩) (c5 op' who' name' A' nums'.length ca' B' kids'.length cb') := ((Rd.blk hi).mono (zV hd1)).mono (zM _ _)
 have hR1 : Rd (uni (uni m0 ns) ns2) (some ⟨b1, 0, none⟩) (c5 op who name A nums.length ca B kids.length cb) := (Rd.blk hi2).mono (zV hd2);have hl2 : Le m0 (uni (uni m0 ns) ns2) := (zM _ _).trans (zM _ _);clear hi hd1 hi2 hd2;generalize uni (uni m0 ns) ns2 = m9 at hR1 hR2 hl2;have hl9 := hm0.trans hl2;have ha0 : mc m9 ⟨b1, 0, none⟩ = some (.int .i8 op) := hR1.at_ (i := 0) rfl
 have ha1 : mc m9 ⟨b1, 1, none⟩ = some (.int .i8 who) := hR1.at_ (i := 1) rfl;have ha2 : mc m9 ⟨b1, 2, none⟩ = some (.string (bs name)) := hR1.at_ (i := 2) rfl;have ha3 : mc m9 ⟨b1, 3, none⟩ = some (.slice A nums.length ca) := hR1.at_ (i := 3) rfl;have ha4 : mc m9 ⟨b1, 4, none⟩ = some (.slice B kids.length cb) := hR1.at_ (i := 4) rfl
 have hb0 : mc m9 ⟨b2, 0, none⟩ = some (.int .i8 op') := hR2.at_ (i := 0) rfl;have hb1 : mc m9 ⟨b2, 1, none⟩ = some (.int .i8 who') := hR2.at_ (i := 1) rfl;have hb2 : mc m9 ⟨b2, 2, none⟩ = some (.string (bs name')) := hR2.at_ (i := 2) rfl;have hb3 : mc m9 ⟨b2, 3, none⟩ = some (Value.slice A' nums'.length ca') := hR2.at_ (i := 3) rfl
 have hb4 : mc m9 ⟨b2, 4, none⟩ = some (Value.slice B' kids'.length cb') := hR2.at_ (i := 4) rfl;by_cases g0 : op = op'
 rotate_left
 ·refine tr 2 ?_;refine Lo 1 sg42 rfl ha0 ?_;refine Lo 0 sg42 rfl hb0 ?_;refine cta 42 ?_;exact rt2 hl2 ⟨rfl, trivial⟩ ⟨.inr ⟨rfl, fun h => g0 (by cases h; rfl)⟩, rfl⟩
 by_cases g1 : who = who'
 rotate_left
 ·refine tr 2 ?_;refine Lo 1 sg42 rfl ha0 ?_;refine Lo 0 sg42 rfl hb0 ?_;refine cfo 2 ?_;refine Lo 1 sg42 rfl ha1 ?_;refine Lo 0 sg42 rfl hb1 ?_;refine cta 36 ?_;exact rt2 hl2 ⟨rfl, trivial⟩ ⟨.inr ⟨rfl, fun h => g1 (by cases h; rfl)⟩, rfl⟩
 by_cases g2 : name = name'
 rotate_left
 ·refine tr 2 ?_;refine Lo 1 sg42 rfl ha0 ?_;refine Lo 0 sg42 rfl hb0 ?_;refine cfo 2 ?_;refine Lo 1 sg42 rfl ha1 ?_;refine Lo 0 sg42 rfl hb1 ?_;refine cfo 3 ?_;refine Lo 1 sg9 rfl ha2 ?_;refine Lo 0 sg9 rfl hb2 ?_;refine cta 29 ?_;exact rt2 hl2 ⟨rfl, trivial⟩ ⟨.inr ⟨rfl, fun h => g2 (by cases h; rfl)⟩, rfl⟩
 by_cases g3 : nums.length = nums'.length
 rotate_left
 ·refine tr 2 ?_;refine Lo 1 sg42 rfl ha0 ?_;refine Lo 0 sg42 rfl hb0 ?_;refine cfo 2 ?_;refine Lo 1 sg42 rfl ha1 ?_;refine Lo 0 sg42 rfl hb1 ?_;refine cfo 3 ?_;refine Lo 1 sg9 rfl ha2 ?_;refine Lo 0 sg9 rfl hb2 ?_;refine cf 3 rfl (fun hx => hx (by assumption)) ?_;refine Lo 2 sg43 rfl ha3 ?_;refine Lo 1 sg43 rfl hb3 ?_;refine cto 20 ?_
  exact rt2 hl2 ⟨rfl, trivial⟩ ⟨.inr ⟨rfl, fun h => g3 (by cases h; rfl)⟩, rfl⟩
 by_cases g4 : kids.length = kids'.length
 rotate_left
 ·refine tr 2 ?_;refine Lo 1 sg42 rfl ha0 ?_;refine Lo 0 sg42 rfl hb0 ?_;refine cfo 2 ?_;refine Lo 1 sg42 rfl ha1 ?_;refine Lo 0 sg42 rfl hb1 ?_;refine cfo 3 ?_;refine Lo 1 sg9 rfl ha2 ?_;refine Lo 0 sg9 rfl hb2 ?_;refine cf 3 rfl (fun hx => hx (by assumption)) ?_;refine Lo 2 sg43 rfl ha3 ?_;refine Lo 1 sg43 rfl hb3 ?_;refine cfo 3 ?_;refine Lo 2 sg46 rfl ha4 ?_;refine Lo 1 sg46 rfl hb4 ?_
  refine cto 11 ?_;exact rt2 hl2 ⟨rfl, trivial⟩ ⟨.inr ⟨rfl, fun h => g4 (by cases h; rfl)⟩, rfl⟩
 refine tr 2 ?_;refine Lo 1 sg42 rfl ha0 ?_;refine Lo 0 sg42 rfl hb0 ?_;refine cfo 2 ?_;refine Lo 1 sg42 rfl ha1 ?_;refine Lo 0 sg42 rfl hb1 ?_;refine cfo 3 ?_;refine Lo 1 sg9 rfl ha2 ?_;refine Lo 0 sg9 rfl hb2 ?_;refine cf 3 rfl (fun hx => hx (by assumption)) ?_;refine Lo 2 sg43 rfl ha3 ?_;refine Lo 1 sg43 rfl hb3 ?_;refine cfo 3 ?_;refine Lo 2 sg46 rfl ha4 ?_;refine Lo 1 sg46 rfl hb4 ?_
 refine cfo 13 ?_;refine zj (α := Nat) (fun i => [(2, ptr b1), (3, ptr b2), (5, .int .i64 (i : Nat))]) (fun _ => []) (fun i => i ≤ nums.length ∧ ∀ (j : Nat) (h : j < nums.length) (h' : j < nums'.length), j < i → nums[j] = nums'[j]) (fun i => nums.length - i) 0 ⟨rfl, rfl, rfl, trivial⟩ (Pick.nil _) ⟨Nat.zero_le _, fun _ _ _ h => by cases h⟩ ?_;rintro i ⟨hi, hall⟩;by_cases hlt : i < nums.length
 ·have hlt2 : i < nums'.length := by omega
  have hA : A.isSome = true := hra.isSome (by omega);have hA2 : A'.isSome = true := hra'.isSome (by omega);have hat := (hra.elem (i * 4) 4).mono hl9;have hat2 := (hra'.elem (i * 4) 4).mono hl9;have hcall := fun m1 (hm1 : Le m9 m1) => same103 (hka i hlt) (hka' i hlt2) m1 (hl9.trans hm1);have hl41 : ((vs.drop (i * 4)).take 4).length = 4 := (hka i hlt).len
  have hl42 : ((vs'.drop (i * 4)).take 4).length = 4 := (hka' i hlt2).len;generalize (vs.drop (i * 4)).take 4 = xs1 at hat hl41 hcall;generalize (vs'.drop (i * 4)).take 4 = ys1 at hat2 hl42 hcall;refine tr 5 ?_;refine Lo 1 sg43 rfl ha3 ?_;refine cto 8 ?_;refine Db (sq [0, 1, 2, 3, 4, 5, 6, 7, 8, 9, 110, 11] .done) ?_;refine vB 1 ?_;refine Vr 1 rfl (zF sg43 rfl ha3) ?_
  refine Vb 0 rfl (zI ez43 rfl rfl hA (by omega)) ?_;refine Vr 1 rfl ((zJ ag45 rfl hl41 hat)) ?_;refine Vr 1 rfl (zF sg43 rfl hb3) ?_;refine Vb 0 rfl (zI ez43 rfl rfl hA2 (by omega)) ?_;refine Vr 0 rfl ((zJ ag45 rfl hl42 hat2)) ?_;skip;refine zA rfl ((yK cl103 rfl (fun m' hm he => hcall m' hm) rfl ?_)) rfl;rintro _ _ ⟨⟨rfl, hq⟩ | ⟨rfl, hq⟩, rfl⟩
  ·refine vB 1 ?_;refine Vn 7 ?_;refine Pa 2 ?_
   exact QR (i + 1) (Pick.nil _) ⟨hlt, fun j h h' hj => by
    by_cases hji : j < i
    ·exact hall j h h' hji
    ·obtain rfl : j = i := by omega
     exact hq⟩ (by omega)
  ·refine vB 1 ?_;refine Vn 10 ?_;refine zN ?_;refine zP ?_;refine zY ?_;exact rt2 hl2 ⟨rfl, trivial⟩ ⟨.inr ⟨rfl, fun h => hq (by cases h; rfl)⟩, rfl⟩
 ·have hi2 : i = nums.length := by omega
  subst hi2;have hkk2 : nums = nums' := List.ext_getElem g3 fun j h h' => hall j h h' h;clear hall hi hlt;refine tr 5 ?_;refine Lo 1 sg43 rfl ha3 ?_;refine cfo 5 ?_;refine zC ?_;refine zB ?_;refine qt 8 ?_
  refine zj (α := Nat) (fun i => [(2, ptr b1), (3, ptr b2), (6, .int .i64 (i : Nat))]) (fun _ => []) (fun i => i ≤ kids.length ∧ ∀ (j : Nat) (h : j < kids.length) (h' : j < kids'.length), j < i → kids[j] = kids'[j]) (fun i => kids.length - i) 0 ⟨rfl, rfl, rfl, trivial⟩ (Pick.nil _) ⟨Nat.zero_le _, fun _ _ _ h => by cases h⟩ ?_;rintro i ⟨hi, hall⟩;by_cases hlt : i < kids.length
  ·have hlt2 : i < kids'.length := by omega
   have hA : B.isSome = true := hrb.isSome (by omega);have hA2 : B'.isSome = true := hrb'.isSome (by omega);have hat := (hrb.elem (i * 5) 5).mono hl9;have hat2 := (hrb'.elem (i * 5) 5).mono hl9;have hcall := fun m1 (hm1 : Le m9 m1) => ih i hlt (hkb' i hlt2) m1 (hl9.trans hm1);have hl41 : ((ws.drop (i * 5)).take 5).length = 5 := (hkb i hlt).len
   have hl42 : ((ws'.drop (i * 5)).take 5).length = 5 := (hkb' i hlt2).len;generalize (ws.drop (i * 5)).take 5 = xs1 at hat hl41 hcall;generalize (ws'.drop (i * 5)).take 5 = ys1 at hat2 hl42 hcall;refine tr 5 ?_;refine Lo 1 sg46 rfl ha4 ?_;refine cto 8 ?_;refine Db (sq [0, 1, 2, 3, 4, 5, 6, 7, 8, 9, 110, 11] .done) ?_;refine vB 1 ?_;refine Vr 1 rfl (zF sg46 rfl ha4) ?_
   refine Vb 0 rfl (zI ez46 rfl rfl hA (by omega)) ?_;refine Vr 1 rfl ((zJ ag48 rfl hl41 hat)) ?_;refine Vr 1 rfl (zF sg46 rfl hb4) ?_;refine Vb 0 rfl (zI ez46 rfl rfl hA2 (by omega)) ?_;refine Vr 0 rfl ((zJ ag48 rfl hl42 hat2)) ?_;skip;refine zA rfl ((yK cl104 rfl (fun m' hm he => hcall m' hm) rfl ?_)) rfl;rintro _ _ ⟨⟨rfl, hq⟩ | ⟨rfl, hq⟩, rfl⟩
   ·refine vB 1 ?_;refine Vn 7 ?_;refine Pa 2 ?_
    exact QR (i + 1) (Pick.nil _) ⟨hlt, fun j h h' hj => by
     by_cases hji : j < i
     ·exact hall j h h' hji
     ·obtain rfl : j = i := by omega
      exact hq⟩ (by omega)
   ·refine vB 1 ?_;refine Vn 10 ?_;refine zN ?_;refine zP ?_;refine zY ?_;exact rt2 hl2 ⟨rfl, trivial⟩ ⟨.inr ⟨rfl, fun h => hq (by cases h; rfl)⟩, rfl⟩
  ·have hi2 : i = kids.length := by omega
   subst hi2;have hkk3 : kids = kids' := List.ext_getElem g4 fun j h h' => hall j h h' h;refine tr 5 ?_;refine Lo 1 sg46 rfl ha4 ?_;refine cfo 5 ?_;refine zC ?_;refine zB ?_;refine qt 7 ?_;exact rt2 hl2 ⟨rfl, trivial⟩ ⟨.inl ⟨rfl, by rw [g0, g1, g2, hkk2, hkk3]⟩, rfl⟩
theorem same29 {A A' : Option Addr} {c c' : Nat} {l l' : List (List UInt8)} (hA : Rd m A (l.map strV)) (hA' : Rd m A' (l'.map strV)) (hl : l.length ≤ 140737488355328) (hl' : l'.length ≤ 140737488355328) : CS Tryz.prog 29 [.slice A l.length c, .slice A' l'.length c'] m [] (SameV (l = l')) := by
 skip;have hl2 := Le.refl m;refine yI [.tmp 4] Tryz.func29 rfl rfl rfl ?_;by_cases g0 : l.length = l'.length
 rotate_left
 ·refine tr 12 ?_;refine cto 10 ?_;exact rt2 hl2 ⟨rfl, trivial⟩ ⟨.inr ⟨rfl, fun h => g0 (by rw [h])⟩, rfl⟩
 refine tr 12 ?_;refine cfo 12 ?_;refine zj (α := Nat) (fun i => [(0, .slice A l.length c), (1, .slice A' l'.length c'), (5, .int .i64 (i : Nat))]) (fun _ => []) (fun i => i ≤ l.length ∧ ∀ (j : Nat) (h : j < l.length) (h' : j < l'.length), j < i → l[j] = l'[j]) (fun i => l.length - i) 0 ⟨rfl, rfl, rfl, trivial⟩ (Pick.nil _) ⟨Nat.zero_le _, fun _ _ _ h => by cases h⟩ ?_;rintro i ⟨hi, hall⟩
 by_cases hlt : i < l.length
 ·have hlt2 : i < l'.length := by omega
  have hX : A.isSome = true := hA.isSome (by rw [List.length_map]; omega);have hX2 : A'.isSome = true := hA'.isSome (by rw [List.length_map]; omega);have hcx := hA.at_ (show (l.map strV)[i]? = some (.string (bs l[i])) by simp [hlt, strV]);have hcy := hA'.at_ (show (l'.map strV)[i]? = some (.string (bs l'[i])) by simp [hlt2, strV])
  have hnx : l[i] = l'[i] → ∀ (j : Nat) (h : j < l.length) (h' : j < l'.length), j < i + 1 → l[j] = l'[j] := fun hq j h h' hj => by
   by_cases hji : j < i
   ·exact hall j h h' hji
   ·obtain rfl : j = i := by omega
    exact hq
  have hno : l[i] ≠ l'[i] → l ≠ l' := fun hq h => hq (by subst h; rfl);generalize l[i] = s at hcx hnx hno;generalize l'[i] = t at hcy hnx hno;by_cases hst : s = t
  ·refine tr 6 ?_;refine cto 8 ?_;refine Db (sq [0, 1, 2, 3, 4, 5, 6, 7, 8] .done) ?_;refine vB 2 ?_;refine Vb 0 rfl (zD ez61 rfl rfl hX (by omega)) ?_;refine Vr 2 rfl (zF sg9 rfl hcx) ?_;refine Vb 0 rfl (zD ez61 rfl rfl hX2 (by omega)) ?_;refine Vr 0 rfl (zF sg9 rfl hcy) ?_;refine Vb 0 rfl (df (YS rfl rfl) (fun hx => hx (by assumption))) ?_;refine Vn 7 ?_
   refine Pa 2 ?_;exact QR (i + 1) (Pick.nil _) ⟨hlt, hnx hst⟩ (by omega)
  ·refine tr 6 ?_;refine cto 8 ?_;refine Db (sq [0, 1, 2, 3, 4, 5, 6, 7, 8] .done) ?_;refine vB 2 ?_;refine Vb 0 rfl (zD ez61 rfl rfl hX (by omega)) ?_;refine Vr 2 rfl (zF sg9 rfl hcx) ?_;refine Vb 0 rfl (zD ez61 rfl rfl hX2 (by omega)) ?_;refine Vr 0 rfl (zF sg9 rfl hcy) ?_;refine Vb 0 rfl (dt (YS rfl rfl) (by assumption)) ?_;refine Vn 10 ?_;refine zN ?_
   refine zP ?_;refine zY ?_;exact rt2 hl2 ⟨rfl, trivial⟩ ⟨.inr ⟨rfl, hno hst⟩, rfl⟩
 ·have hi2 : i = l.length := by omega
  subst hi2;have hkk2 : l = l' := List.ext_getElem g0 fun j h h' => hall j h h' h;refine tr 6 ?_;refine cfo 5 ?_;refine zC ?_;refine zB ?_;refine qt 7 ?_;exact rt2 hl2 ⟨rfl, trivial⟩ ⟨.inl ⟨rfl, hkk2⟩, rfl⟩
end
section
open Wd Tp Kd
variable {m : Mp}
def ES (l : List EffT) : Prop := ∀ (m : Mp) (A : Option Addr) (c : Nat) (l2 : List EffT) (A2 : Option Addr) (c2 : Nat), EffsR m A l.length l → EffsR m A2 l2.length l2 → CS Tryz.prog 84 [.slice A l.length c, .slice A2 l2.length c2] m [] (SameV (l = l2))
theorem Ym {l : List EffT} (ih : ∀ (i : Nat) (h : i < l.length) (op who : Int) (n : NumT) (name : List UInt8) (c : CondT) (a e : List EffT), l[i] = .mk op who n name c a e → ES a ∧ ES e) : ES l := by
 rintro m A c l2 A2 c2 ⟨-, hml, vs, hrd, hvl, hel⟩ ⟨-, hml2, us, hrd2, hul, hel2⟩;have hml : l.length ≤ 9223372036854775807 := hml;have hml2 : l2.length ≤ 9223372036854775807 := hml2;have hl2 := Le.refl m;skip;refine yI [.tmp 4] Tryz.func84 rfl rfl rfl ?_;by_cases g0 : l.length = l2.length
 rotate_left
 ·refine tr 12 ?_;refine cto 10 ?_;exact rt2 hl2 ⟨rfl, trivial⟩ ⟨.inr ⟨rfl, fun h => g0 (by rw [h])⟩, rfl⟩
 refine tr 12 ?_;refine cfo 12 ?_;refine zj (α := Nat) (fun i => [(0, .slice A l.length c), (1, .slice A2 l2.length c2), (5, .int .i64 (i : Nat))]) (fun _ => []) (fun i => i ≤ l.length ∧ ∀ (j : Nat) (h : j < l.length) (h' : j < l2.length), j < i → l[j] = l2[j]) (fun i => l.length - i) 0 ⟨rfl, rfl, rfl, trivial⟩ (Pick.nil _) ⟨Nat.zero_le _, fun _ _ _ h => by cases h⟩ ?_;rintro i ⟨hi, hall⟩
 by_cases hlt : i < l.length
 rotate_left
 ·have hi2 : i = l.length := by omega
  subst hi2;have hkk2 : l = l2 := List.ext_getElem g0 fun j h h' => hall j h h' h;refine tr 6 ?_;refine cfo 5 ?_;refine zC ?_;refine zB ?_;refine qt 7 ?_;exact rt2 hl2 ⟨rfl, trivial⟩ ⟨.inl ⟨rfl, hkk2⟩, rfl⟩
 have hlt2 : i < l2.length := by omega
 have hX : A.isSome = true := hrd.isSome (by omega);have hX2 : A2.isSome = true := hrd2.isSome (by omega);have hat := hrd.elem (i * 14) 14;have hat2 := hrd2.elem (i * 14) 14;have hx := hel i hlt;have hy := hel2 i hlt2;have hih := ih i hlt
 have hnx : l[i] = l2[i] → ∀ (j : Nat) (h : j < l.length) (h' : j < l2.length), j < i + 1 → l[j] = l2[j] := fun hq j h h' hj => by
  by_cases hji : j < i
  ·exact hall j h h' hji
  ·obtain rfl : j = i := by omega
   exact hq
 have hno : l[i] ≠ l2[i] → l ≠ l2 := fun hq h => hq (by subst h; rfl);clear ih hel hel2 hall;generalize l[i] = x at hx hnx hno hih;generalize l2[i] = y at hy hnx hno;generalize (vs.drop (i * 14)).take 14 = xs at hx hat;generalize (us.drop (i * 14)).take 14 = ys at hy hat2
 obtain ⟨op, who, nop, nn, nwho, nA, nlen, nc, name, cop, cwho, cname, cA, cla, cca, cB, clb, ccb, TA, la, ca, EB, lb, cb, n, cond, thn, els, rfl, rfl, -, hn, hc, hthn, hels⟩ := EffR.parts hx
 obtain ⟨op', who', nop', nn', nwho', nA', nlen', nc', name', cop', cwho', cname', cA', cla', cca', cB', clb', ccb', TA', la', ca', EB', lb', cb', n', cond', thn', els', rfl, rfl, -, hn', hc', hthn', hels'⟩ := EffR.parts hy;obtain ⟨ihT, ihE⟩ := hih _ _ _ _ _ _ _ rfl;have e1 := hthn.1;have e2 := hels.1;have e3 := hthn'.1;have e4 := hels'.1;subst e1 e2 e3 e4;clear hx hy hih;refine tr 6 ?_
 refine cto 8 ?_
 refine Q3 (α := Nat × Nat) (fun y => [(0, .slice A l.length c), (1, .slice A2 l2.length c2), (5, .int .i64 (i : Nat)), (6, ptr y.1), (7, ptr y.2)]) (fun y => [cel y.1 (e14 op who nop nn nwho nA nlen nc name cop cwho cname cA cla cca cB clb ccb TA thn.length ca EB els.length cb) 50, cel y.2 (e14 op' who' nop' nn' nwho' nA' nlen' nc' name' cop' cwho' cname' cA' cla' cca' cB' clb' ccb' TA' thn'.length ca' EB' els'.length cb') 50]) (fun _ => True) ?_ ?_
 ·refine Db (sq [0, 1, 2, 3, 4, 5, 6, 7] (.fork (sq [108, 109, 110, 111] .done) (sq [109, 108, 110, 111] .done))) ?_;refine vB 2 ?_;refine Vb 0 rfl (zI ez38 rfl rfl hX (by omega)) ?_;refine Vr 2 rfl (zJ ag50 rfl rfl hat) ?_;refine Vb 0 rfl (zI ez38 rfl rfl hX2 (by omega)) ?_;refine Vr 0 rfl (zJ ag50 rfl rfl hat2) ?_;refine zk ?_ ?_
  refine zA rfl (yH zl50 rfl (fun b1 => ?_)) rfl;refine zA rfl (yH zl50 rfl (fun b2 => ?_)) rfl;refine zA rfl (zS ag50 rfl rfl rfl .h1 rfl rfl ?_) rfl;refine zA rfl (zS ag50 rfl rfl rfl .here rfl rfl ?_) rfl;refine Vn 0 ?_
  ·exact QR (b1, b2) (.cons .h1 .p0) trivial (by decide)
  ·refine zA rfl (yH zl50 rfl (fun b1 => ?_)) rfl;refine zA rfl (yH zl50 rfl (fun b2 => ?_)) rfl;refine zA rfl (zS ag50 rfl rfl rfl .here rfl rfl ?_) rfl;refine zA rfl (zS ag50 rfl rfl rfl .h1 rfl rfl ?_) rfl;refine Vn 0 ?_;exact QR (b2, b1) .pp trivial (by decide)
 rintro ⟨B1, B2⟩ -;dsimp only;refine zG .here (fun ns hi _ hd1 => ?_);refine zG .here (fun ns2 hi2 _ hd2 => ?_);have hR1 : Rd (uni (uni m ns) ns2) (some ⟨B1, 0, none⟩) (e14 op who nop nn nwho nA nlen nc name cop cwho cname cA cla cca cB clb ccb TA thn.length ca EB els.length cb) := ((Rd.blk hi).mono (zV hd1)).mono (zM _ _)
 have haN : At (uni (uni m ns) ns2) ⟨B1, 2, none⟩ (n4 nop nn nwho nA nlen nc) := ((At.blkO (o := 2) (k := 4) hi).mono (zV hd1)).mono (zM _ _);have haC : At (uni (uni m ns) ns2) ⟨B1, 7, none⟩ (c5 cop cwho cname cA cla cca cB clb ccb) := ((At.blkO (o := 7) (k := 5) hi).mono (zV hd1)).mono (zM _ _)
 have hR2 : Rd (uni (uni m ns) ns2) (some ⟨B2, 0, none⟩) (e14 op' who' nop' nn' nwho' nA' nlen' nc' name' cop' cwho' cname' cA' cla' cca' cB' clb' ccb' TA' thn'.length ca' EB' els'.length cb') := (Rd.blk hi2).mono (zV hd2);have hbN : At (uni (uni m ns) ns2) ⟨B2, 2, none⟩ (n4 nop' nn' nwho' nA' nlen' nc') := (At.blkO (o := 2) (k := 4) hi2).mono (zV hd2)
 have hbC : At (uni (uni m ns) ns2) ⟨B2, 7, none⟩ (c5 cop' cwho' cname' cA' cla' cca' cB' clb' ccb') := (At.blkO (o := 7) (k := 5) hi2).mono (zV hd2);have hl2 : Le m (uni (uni m ns) ns2) := (zM _ _).trans (zM _ _);clear hi hd1 hi2 hd2;generalize uni (uni m ns) ns2 = m9 at hR1 hR2 hl2 haN haC hbN hbC;have ha0 : mc m9 ⟨B1, 0, none⟩ = some (.int .i8 op) := hR1.at_ (i := 0) rfl
 have hb0 : mc m9 ⟨B2, 0, none⟩ = some (.int .i8 op') := hR2.at_ (i := 0) rfl;have ha1 : mc m9 ⟨B1, 1, none⟩ = some (.int .i8 who) := hR1.at_ (i := 1) rfl;have hb1 : mc m9 ⟨B2, 1, none⟩ = some (.int .i8 who') := hR2.at_ (i := 1) rfl;have ha6 : mc m9 ⟨B1, 6, none⟩ = some (.string (bs name)) := hR1.at_ (i := 6) rfl;have hb6 : mc m9 ⟨B2, 6, none⟩ = some (.string (bs name')) := hR2.at_ (i := 6) rfl
 have ha12 : mc m9 ⟨B1, 12, none⟩ = some (.slice TA thn.length ca) := hR1.at_ (i := 12) rfl;have hb12 : mc m9 ⟨B2, 12, none⟩ = some (Value.slice TA' thn'.length ca') := hR2.at_ (i := 12) rfl;have ha13 : mc m9 ⟨B1, 13, none⟩ = some (.slice EB els.length cb) := hR1.at_ (i := 13) rfl;have hb13 : mc m9 ⟨B2, 13, none⟩ = some (Value.slice EB' els'.length cb') := hR2.at_ (i := 13) rfl
 by_cases g1 : op = op'
 rotate_left
 ·refine tr 3 ?_;refine Lo 1 sg42 rfl ha0 ?_;refine Lo 0 sg42 rfl hb0 ?_;refine cta 57 ?_;exact rt2 hl2 ⟨rfl, trivial⟩ ⟨.inr ⟨rfl, hno (fun h => g1 (by cases h; rfl))⟩, rfl⟩
 by_cases g2 : who = who'
 rotate_left
 ·refine tr 3 ?_;refine Lo 1 sg42 rfl ha0 ?_;refine Lo 0 sg42 rfl hb0 ?_;refine cfo 2 ?_;refine Lo 1 sg42 rfl ha1 ?_;refine Lo 0 sg42 rfl hb1 ?_;refine cta 51 ?_;exact rt2 hl2 ⟨rfl, trivial⟩ ⟨.inr ⟨rfl, hno (fun h => g2 (by cases h; rfl))⟩, rfl⟩
 by_cases g3 : name = name'
 rotate_left
 ·refine tr 3 ?_;refine Lo 1 sg42 rfl ha0 ?_;refine Lo 0 sg42 rfl hb0 ?_;refine cfo 2 ?_;refine Lo 1 sg42 rfl ha1 ?_;refine Lo 0 sg42 rfl hb1 ?_;refine cfo 3 ?_;refine Lo 1 sg9 rfl ha6 ?_;refine Lo 0 sg9 rfl hb6 ?_;refine cta 44 ?_;exact rt2 hl2 ⟨rfl, trivial⟩ ⟨.inr ⟨rfl, hno (fun h => g3 (by cases h; rfl))⟩, rfl⟩
 refine tr 3 ?_;refine Lo 1 sg42 rfl ha0 ?_;refine Lo 0 sg42 rfl hb0 ?_;refine cfo 2 ?_;refine Lo 1 sg42 rfl ha1 ?_;refine Lo 0 sg42 rfl hb1 ?_;refine cfo 3 ?_;refine Lo 1 sg9 rfl ha6 ?_;refine Lo 0 sg9 rfl hb6 ?_;refine cf 3 rfl (fun hx => hx (by assumption)) ?_;refine La 1 ag45 haN ?_;refine La 0 ag45 hbN ?_
 refine zE ((yK cl103 rfl (fun m' hm he => same103 (hn.mono hl2) (hn'.mono hl2) m' hm) rfl ?_)) rfl;rintro _ _ ⟨⟨rfl, q1⟩ | ⟨rfl, hq⟩, rfl⟩
 rotate_left
 ·refine vr 37 ?_;exact rt2 hl2 ⟨rfl, trivial⟩ ⟨.inr ⟨rfl, hno (fun h => hq (by cases h; rfl))⟩, rfl⟩
 refine vr 4 ?_;refine La 1 ag48 haC ?_;refine La 0 ag48 hbC ?_;refine zE ((yK cl104 rfl (fun m' hm he => same104 (hc.mono hl2) (hc'.mono hl2) m' hm) rfl ?_)) rfl;rintro _ _ ⟨⟨rfl, q2⟩ | ⟨rfl, hq⟩, rfl⟩
 rotate_left
 ·refine vr 29 ?_;exact rt2 hl2 ⟨rfl, trivial⟩ ⟨.inr ⟨rfl, hno (fun h => hq (by cases h; rfl))⟩, rfl⟩
 refine vr 4 ?_;refine Lo 1 sg38 rfl ha12 ?_;refine Lo 0 sg38 rfl hb12 ?_;refine zE ((yK cl84 rfl (fun m' hm he => ihT m' TA ca thn' TA' ca' (hthn.mono (hl2.trans hm)) (hthn'.mono (hl2.trans hm))) rfl ?_)) rfl;rintro _ _ ⟨⟨rfl, q3⟩ | ⟨rfl, hq⟩, rfl⟩
 rotate_left
 ·refine vr 21 ?_;exact rt2 hl2 ⟨rfl, trivial⟩ ⟨.inr ⟨rfl, hno (fun h => hq (by cases h; rfl))⟩, rfl⟩
 refine vr 4 ?_;refine Lo 1 sg38 rfl ha13 ?_;refine Lo 0 sg38 rfl hb13 ?_;refine zE ((yK cl84 rfl (fun m' hm he => ihE m' EB cb els' EB' cb' (hels.mono (hl2.trans hm)) (hels'.mono (hl2.trans hm))) rfl ?_)) rfl;rintro _ _ ⟨⟨rfl, q4⟩ | ⟨rfl, hq⟩, rfl⟩
 rotate_left
 ·refine vr 13 ?_;exact rt2 hl2 ⟨rfl, trivial⟩ ⟨.inr ⟨rfl, hno (fun h => hq (by cases h; rfl))⟩, rfl⟩
 have hq : EffT.mk op who n name cond thn els = EffT.mk op' who' n' name' cond' thn' els' := by rw [g1, g2, g3, q1, q2, q3, q4]
 refine vr 10 ?_;refine Pa 2 ?_;exact ZW hl2 (QR (i + 1) (Pick.nil _) ⟨hlt, hnx hq⟩ (by omega))
theorem same84 (l : List EffT) : ES l := Ym fun i h op who n name c a e he => ⟨same84 a, same84 e⟩
termination_by SizeOf.sizeOf l
decreasing_by
 all_goals
  have h1 := List.sizeOf_lt_of_mem (List.getElem_mem h);rw [he] at h1;simp only [EffT.mk.sizeOf_spec] at h1;omega
end
section
open Wd Tp Kd
variable {m : Mp}
def sameC (x y : CardT) : Prop := x.name = y.name ∧ x.unit = y.unit ∧ x.cost = y.cost ∧ x.power = y.power ∧ x.health = y.health ∧ x.shield = y.shield ∧ x.apow = y.apow ∧ x.aheal = y.aheal ∧ x.played = y.played ∧ x.dead = y.dead ∧ x.dawn = y.dawn
def sameF (x y : FmtT) : Prop := x.name = y.name ∧ x.least = y.least ∧ x.most = y.most ∧ x.copies = y.copies ∧ x.banned = y.banned ∧ x.single = y.single
structure sameB (a b : BkT) : Prop where
 lc : a.cards.length = b.cards.length
 lf : a.fmts.length = b.fmts.length
 c : ∀ (i : Nat) (h : i < a.cards.length) (h' : i < b.cards.length), sameC a.cards[i] b.cards[i]
 f : ∀ (i : Nat) (h : i < a.fmts.length) (h' : i < b.fmts.length), sameF a.fmts[i] b.fmts[i]
theorem sameB.rfl (a : BkT) : sameB a a := ⟨_root_.rfl, _root_.rfl, fun _ _ _ => ⟨_root_.rfl, _root_.rfl, _root_.rfl, _root_.rfl, _root_.rfl, _root_.rfl, _root_.rfl, _root_.rfl, _root_.rfl, _root_.rfl, _root_.rfl⟩, fun _ _ _ => ⟨_root_.rfl, _root_.rfl, _root_.rfl, _root_.rfl, _root_.rfl, _root_.rfl⟩⟩
theorem same28 {xs ys : List Value} {x y : CardT} (hx : CardX m xs x) (hy : CardX m ys y) : CS Tryz.prog 28 [.agg xs.toArray, .agg ys.toArray] m [] (SameV (sameC x y)) := by
 obtain ⟨q, rfl, hp, hd, hw⟩ := hx;obtain ⟨r, rfl, hp', hd', hw'⟩ := hy;have hm0 := Le.refl m;skip;refine yI [.tmp 4] Tryz.func28 rfl rfl rfl ?_;refine tr 2 ?_;refine Bx 0 rfl fun b1 => ?_;refine Bx 4 rfl fun b2 => ?_;refine zG .here (fun ns hi _ hd1 => ?_);refine zG .here (fun ns2 hi2 _ hd2 => ?_)
 have hR2 : Rd (uni (uni m ns) ns2) (some ⟨b2, 0, none⟩) (r.v y) := ((Rd.blk hi).mono (zV hd1)).mono (zM _ _);have hR1 : Rd (uni (uni m ns) ns2) (some ⟨b1, 0, none⟩) (q.v x) := (Rd.blk hi2).mono (zV hd2);have hl2 : Le m (uni (uni m ns) ns2) := (zM _ _).trans (zM _ _);clear hi hd1 hi2 hd2;generalize uni (uni m ns) ns2 = m9 at hR1 hR2 hl2;have hl9 := hl2
 have ha0 : mc m9 ⟨b1, 0, none⟩ = some (.string (bs x.name)) := hR1.at_ (i := 0) rfl;have ha1 : mc m9 ⟨b1, 1, none⟩ = some (.bool x.unit) := hR1.at_ (i := 1) rfl;have ha2 : mc m9 ⟨b1, 2, none⟩ = some (.int .i64 x.cost) := hR1.at_ (i := 2) rfl;have ha3 : mc m9 ⟨b1, 3, none⟩ = some (.int .i64 x.power) := hR1.at_ (i := 3) rfl
 have ha4 : mc m9 ⟨b1, 4, none⟩ = some (.int .i64 x.health) := hR1.at_ (i := 4) rfl;have ha5 : mc m9 ⟨b1, 5, none⟩ = some (.int .i64 x.shield) := hR1.at_ (i := 5) rfl;have ha6 : mc m9 ⟨b1, 6, none⟩ = some (.int .i64 x.apow) := hR1.at_ (i := 6) rfl;have ha7 : mc m9 ⟨b1, 7, none⟩ = some (.int .i64 x.aheal) := hR1.at_ (i := 7) rfl
 have ha8 : mc m9 ⟨b1, 8, none⟩ = some (.slice q.A x.played.length q.ca) := hR1.at_ (i := 8) rfl;have ha9 : mc m9 ⟨b1, 9, none⟩ = some (.slice q.B x.dead.length q.cb) := hR1.at_ (i := 9) rfl;have ha10 : mc m9 ⟨b1, 10, none⟩ = some (.slice q.D x.dawn.length q.cd) := hR1.at_ (i := 10) rfl;have hb0 : mc m9 ⟨b2, 0, none⟩ = some (.string (bs y.name)) := hR2.at_ (i := 0) rfl
 have hb1 : mc m9 ⟨b2, 1, none⟩ = some (.bool y.unit) := hR2.at_ (i := 1) rfl;have hb2 : mc m9 ⟨b2, 2, none⟩ = some (.int .i64 y.cost) := hR2.at_ (i := 2) rfl;have hb3 : mc m9 ⟨b2, 3, none⟩ = some (.int .i64 y.power) := hR2.at_ (i := 3) rfl;have hb4 : mc m9 ⟨b2, 4, none⟩ = some (.int .i64 y.health) := hR2.at_ (i := 4) rfl
 have hb5 : mc m9 ⟨b2, 5, none⟩ = some (.int .i64 y.shield) := hR2.at_ (i := 5) rfl;have hb6 : mc m9 ⟨b2, 6, none⟩ = some (.int .i64 y.apow) := hR2.at_ (i := 6) rfl;have hb7 : mc m9 ⟨b2, 7, none⟩ = some (.int .i64 y.aheal) := hR2.at_ (i := 7) rfl;have hb8 : mc m9 ⟨b2, 8, none⟩ = some (.slice r.A y.played.length r.ca) := hR2.at_ (i := 8) rfl
 have hb9 : mc m9 ⟨b2, 9, none⟩ = some (.slice r.B y.dead.length r.cb) := hR2.at_ (i := 9) rfl;have hb10 : mc m9 ⟨b2, 10, none⟩ = some (.slice r.D y.dawn.length r.cd) := hR2.at_ (i := 10) rfl;by_cases g0 : x.name = y.name
 rotate_left
 ·skip;refine tr 2 ?_;refine Lo 1 sg9 rfl ha0 ?_;refine Lo 0 sg9 rfl hb0 ?_;refine cfa 74 ?_;exact rt2 hl2 ⟨rfl, trivial⟩ ⟨.inr ⟨rfl, fun h => g0 h.1⟩, rfl⟩
 by_cases g1 : x.unit = y.unit
 rotate_left
 ·have hcmp : (x.unit = true ∧ y.unit = false) ∨ (x.unit = false ∧ y.unit = true) := by
   cases hu : x.unit <;> cases hv : y.unit <;> simp_all
  rcases hcmp with ⟨hu, hv⟩ | ⟨hu, hv⟩
  ·rw [hu] at ha1;rw [hv] at hb1;refine tr 2 ?_;refine Lo 1 sg9 rfl ha0 ?_;refine Lo 0 sg9 rfl hb0 ?_;refine cta 2 ?_;refine Lo 1 sg4 rfl ha1 ?_;refine Lo 0 sg4 rfl hb1 ?_;refine pe 68 (xM bo4 rfl rfl) ?_;exact rt2 hl2 ⟨rfl, trivial⟩ ⟨.inr ⟨rfl, fun h => g1 h.2.1⟩, rfl⟩
  ·rw [hu] at ha1;rw [hv] at hb1;refine tr 2 ?_;refine Lo 1 sg9 rfl ha0 ?_;refine Lo 0 sg9 rfl hb0 ?_;refine cta 2 ?_;refine Lo 1 sg4 rfl ha1 ?_;refine Lo 0 sg4 rfl hb1 ?_;refine pe 68 (xM bo4 rfl rfl) ?_;exact rt2 hl2 ⟨rfl, trivial⟩ ⟨.inr ⟨rfl, fun h => g1 h.2.1⟩, rfl⟩
 by_cases g2 : x.cost = y.cost
 rotate_left
 ·cases hu : y.unit with
  | false =>
    rw [g1, hu] at ha1;rw [hu] at hb1;refine tr 2 ?_;refine Lo 1 sg9 rfl ha0 ?_;refine Lo 0 sg9 rfl hb0 ?_;refine cta 2 ?_;refine Lo 1 sg4 rfl ha1 ?_;refine Lo 0 sg4 rfl hb1 ?_;refine pe 3 (xM bo4 rfl rfl) ?_;refine Lo 1 sg3 rfl ha2 ?_;refine Lo 0 sg3 rfl hb2 ?_;refine cfa 61 ?_;exact rt2 hl2 ⟨rfl, trivial⟩ ⟨.inr ⟨rfl, fun h => g2 h.2.2.1⟩, rfl⟩
  | true =>
    rw [g1, hu] at ha1;rw [hu] at hb1;refine tr 2 ?_;refine Lo 1 sg9 rfl ha0 ?_;refine Lo 0 sg9 rfl hb0 ?_;refine cta 2 ?_;refine Lo 1 sg4 rfl ha1 ?_;refine Lo 0 sg4 rfl hb1 ?_;refine pe 3 (xM bo4 rfl rfl) ?_;refine Lo 1 sg3 rfl ha2 ?_;refine Lo 0 sg3 rfl hb2 ?_;refine cfa 61 ?_;exact rt2 hl2 ⟨rfl, trivial⟩ ⟨.inr ⟨rfl, fun h => g2 h.2.2.1⟩, rfl⟩
 by_cases g3 : x.power = y.power
 rotate_left
 ·cases hu : y.unit with
  | false =>
    rw [g1, hu] at ha1;rw [hu] at hb1;refine tr 2 ?_;refine Lo 1 sg9 rfl ha0 ?_;refine Lo 0 sg9 rfl hb0 ?_;refine cta 2 ?_;refine Lo 1 sg4 rfl ha1 ?_;refine Lo 0 sg4 rfl hb1 ?_;refine pe 3 (xM bo4 rfl rfl) ?_;refine Lo 1 sg3 rfl ha2 ?_;refine Lo 0 sg3 rfl hb2 ?_;refine cta 3 ?_;refine Lo 1 sg3 rfl ha3 ?_;refine Lo 0 sg3 rfl hb3 ?_;refine cfa 54 ?_
    exact rt2 hl2 ⟨rfl, trivial⟩ ⟨.inr ⟨rfl, fun h => g3 h.2.2.2.1⟩, rfl⟩
  | true =>
    rw [g1, hu] at ha1;rw [hu] at hb1;refine tr 2 ?_;refine Lo 1 sg9 rfl ha0 ?_;refine Lo 0 sg9 rfl hb0 ?_;refine cta 2 ?_;refine Lo 1 sg4 rfl ha1 ?_;refine Lo 0 sg4 rfl hb1 ?_;refine pe 3 (xM bo4 rfl rfl) ?_;refine Lo 1 sg3 rfl ha2 ?_;refine Lo 0 sg3 rfl hb2 ?_;refine cta 3 ?_;refine Lo 1 sg3 rfl ha3 ?_;refine Lo 0 sg3 rfl hb3 ?_;refine cfa 54 ?_
    exact rt2 hl2 ⟨rfl, trivial⟩ ⟨.inr ⟨rfl, fun h => g3 h.2.2.2.1⟩, rfl⟩
 by_cases g4 : x.health = y.health
 rotate_left
 ·cases hu : y.unit with
  | false =>
    rw [g1, hu] at ha1;rw [hu] at hb1;refine tr 2 ?_;refine Lo 1 sg9 rfl ha0 ?_;refine Lo 0 sg9 rfl hb0 ?_;refine cta 2 ?_;refine Lo 1 sg4 rfl ha1 ?_;refine Lo 0 sg4 rfl hb1 ?_;refine pe 3 (xM bo4 rfl rfl) ?_;refine Lo 1 sg3 rfl ha2 ?_;refine Lo 0 sg3 rfl hb2 ?_;refine cta 3 ?_;refine Lo 1 sg3 rfl ha3 ?_;refine Lo 0 sg3 rfl hb3 ?_;refine cta 3 ?_;refine Lo 1 sg3 rfl ha4 ?_
    refine Lo 0 sg3 rfl hb4 ?_;refine cfa 47 ?_;exact rt2 hl2 ⟨rfl, trivial⟩ ⟨.inr ⟨rfl, fun h => g4 h.2.2.2.2.1⟩, rfl⟩
  | true =>
    rw [g1, hu] at ha1;rw [hu] at hb1;refine tr 2 ?_;refine Lo 1 sg9 rfl ha0 ?_;refine Lo 0 sg9 rfl hb0 ?_;refine cta 2 ?_;refine Lo 1 sg4 rfl ha1 ?_;refine Lo 0 sg4 rfl hb1 ?_;refine pe 3 (xM bo4 rfl rfl) ?_;refine Lo 1 sg3 rfl ha2 ?_;refine Lo 0 sg3 rfl hb2 ?_;refine cta 3 ?_;refine Lo 1 sg3 rfl ha3 ?_;refine Lo 0 sg3 rfl hb3 ?_;refine cta 3 ?_;refine Lo 1 sg3 rfl ha4 ?_
    refine Lo 0 sg3 rfl hb4 ?_;refine cfa 47 ?_;exact rt2 hl2 ⟨rfl, trivial⟩ ⟨.inr ⟨rfl, fun h => g4 h.2.2.2.2.1⟩, rfl⟩
 by_cases g5 : x.shield = y.shield
 rotate_left
 ·cases hu : y.unit with
  | false =>
    rw [g1, hu] at ha1;rw [hu] at hb1;refine tr 2 ?_;refine Lo 1 sg9 rfl ha0 ?_;refine Lo 0 sg9 rfl hb0 ?_;refine cta 2 ?_;refine Lo 1 sg4 rfl ha1 ?_;refine Lo 0 sg4 rfl hb1 ?_;refine pe 3 (xM bo4 rfl rfl) ?_;refine Lo 1 sg3 rfl ha2 ?_;refine Lo 0 sg3 rfl hb2 ?_;refine cta 3 ?_;refine Lo 1 sg3 rfl ha3 ?_;refine Lo 0 sg3 rfl hb3 ?_;refine cta 3 ?_;refine Lo 1 sg3 rfl ha4 ?_
    refine Lo 0 sg3 rfl hb4 ?_;refine cta 3 ?_;refine Lo 1 sg3 rfl ha5 ?_;refine Lo 0 sg3 rfl hb5 ?_;refine cfa 40 ?_;exact rt2 hl2 ⟨rfl, trivial⟩ ⟨.inr ⟨rfl, fun h => g5 h.2.2.2.2.2.1⟩, rfl⟩
  | true =>
    rw [g1, hu] at ha1;rw [hu] at hb1;refine tr 2 ?_;refine Lo 1 sg9 rfl ha0 ?_;refine Lo 0 sg9 rfl hb0 ?_;refine cta 2 ?_;refine Lo 1 sg4 rfl ha1 ?_;refine Lo 0 sg4 rfl hb1 ?_;refine pe 3 (xM bo4 rfl rfl) ?_;refine Lo 1 sg3 rfl ha2 ?_;refine Lo 0 sg3 rfl hb2 ?_;refine cta 3 ?_;refine Lo 1 sg3 rfl ha3 ?_;refine Lo 0 sg3 rfl hb3 ?_;refine cta 3 ?_;refine Lo 1 sg3 rfl ha4 ?_
    refine Lo 0 sg3 rfl hb4 ?_;refine cta 3 ?_;refine Lo 1 sg3 rfl ha5 ?_;refine Lo 0 sg3 rfl hb5 ?_;refine cfa 40 ?_;exact rt2 hl2 ⟨rfl, trivial⟩ ⟨.inr ⟨rfl, fun h => g5 h.2.2.2.2.2.1⟩, rfl⟩
 by_cases g6 : x.apow = y.apow
 rotate_left
 ·cases hu : y.unit with
  | false =>
    rw [g1, hu] at ha1;rw [hu] at hb1;refine tr 2 ?_;refine Lo 1 sg9 rfl ha0 ?_;refine Lo 0 sg9 rfl hb0 ?_;refine cta 2 ?_;refine Lo 1 sg4 rfl ha1 ?_;refine Lo 0 sg4 rfl hb1 ?_;refine pe 3 (xM bo4 rfl rfl) ?_;refine Lo 1 sg3 rfl ha2 ?_;refine Lo 0 sg3 rfl hb2 ?_;refine cta 3 ?_;refine Lo 1 sg3 rfl ha3 ?_;refine Lo 0 sg3 rfl hb3 ?_;refine cta 3 ?_;refine Lo 1 sg3 rfl ha4 ?_
    refine Lo 0 sg3 rfl hb4 ?_;refine cta 3 ?_;refine Lo 1 sg3 rfl ha5 ?_;refine Lo 0 sg3 rfl hb5 ?_;refine cta 3 ?_;refine Lo 1 sg3 rfl ha6 ?_;refine Lo 0 sg3 rfl hb6 ?_;refine cfa 33 ?_;exact rt2 hl2 ⟨rfl, trivial⟩ ⟨.inr ⟨rfl, fun h => g6 h.2.2.2.2.2.2.1⟩, rfl⟩
  | true =>
    rw [g1, hu] at ha1;rw [hu] at hb1;refine tr 2 ?_;refine Lo 1 sg9 rfl ha0 ?_;refine Lo 0 sg9 rfl hb0 ?_;refine cta 2 ?_;refine Lo 1 sg4 rfl ha1 ?_;refine Lo 0 sg4 rfl hb1 ?_;refine pe 3 (xM bo4 rfl rfl) ?_;refine Lo 1 sg3 rfl ha2 ?_;refine Lo 0 sg3 rfl hb2 ?_;refine cta 3 ?_;refine Lo 1 sg3 rfl ha3 ?_;refine Lo 0 sg3 rfl hb3 ?_;refine cta 3 ?_;refine Lo 1 sg3 rfl ha4 ?_
    refine Lo 0 sg3 rfl hb4 ?_;refine cta 3 ?_;refine Lo 1 sg3 rfl ha5 ?_;refine Lo 0 sg3 rfl hb5 ?_;refine cta 3 ?_;refine Lo 1 sg3 rfl ha6 ?_;refine Lo 0 sg3 rfl hb6 ?_;refine cfa 33 ?_;exact rt2 hl2 ⟨rfl, trivial⟩ ⟨.inr ⟨rfl, fun h => g6 h.2.2.2.2.2.2.1⟩, rfl⟩
 by_cases g7 : x.aheal = y.aheal
 rotate_left
 ·cases hu : y.unit with
  | false =>
    rw [g1, hu] at ha1;rw [hu] at hb1;refine tr 2 ?_;refine Lo 1 sg9 rfl ha0 ?_;refine Lo 0 sg9 rfl hb0 ?_;refine cta 2 ?_;refine Lo 1 sg4 rfl ha1 ?_;refine Lo 0 sg4 rfl hb1 ?_;refine pe 3 (xM bo4 rfl rfl) ?_;refine Lo 1 sg3 rfl ha2 ?_;refine Lo 0 sg3 rfl hb2 ?_;refine cta 3 ?_;refine Lo 1 sg3 rfl ha3 ?_;refine Lo 0 sg3 rfl hb3 ?_;refine cta 3 ?_;refine Lo 1 sg3 rfl ha4 ?_
    refine Lo 0 sg3 rfl hb4 ?_;refine cta 3 ?_;refine Lo 1 sg3 rfl ha5 ?_;refine Lo 0 sg3 rfl hb5 ?_;refine cta 3 ?_;refine Lo 1 sg3 rfl ha6 ?_;refine Lo 0 sg3 rfl hb6 ?_;refine cta 3 ?_;refine Lo 1 sg3 rfl ha7 ?_;refine Lo 0 sg3 rfl hb7 ?_;refine cfa 26 ?_;exact rt2 hl2 ⟨rfl, trivial⟩ ⟨.inr ⟨rfl, fun h => g7 h.2.2.2.2.2.2.2.1⟩, rfl⟩
  | true =>
    rw [g1, hu] at ha1;rw [hu] at hb1;refine tr 2 ?_;refine Lo 1 sg9 rfl ha0 ?_;refine Lo 0 sg9 rfl hb0 ?_;refine cta 2 ?_;refine Lo 1 sg4 rfl ha1 ?_;refine Lo 0 sg4 rfl hb1 ?_;refine pe 3 (xM bo4 rfl rfl) ?_;refine Lo 1 sg3 rfl ha2 ?_;refine Lo 0 sg3 rfl hb2 ?_;refine cta 3 ?_;refine Lo 1 sg3 rfl ha3 ?_;refine Lo 0 sg3 rfl hb3 ?_;refine cta 3 ?_;refine Lo 1 sg3 rfl ha4 ?_
    refine Lo 0 sg3 rfl hb4 ?_;refine cta 3 ?_;refine Lo 1 sg3 rfl ha5 ?_;refine Lo 0 sg3 rfl hb5 ?_;refine cta 3 ?_;refine Lo 1 sg3 rfl ha6 ?_;refine Lo 0 sg3 rfl hb6 ?_;refine cta 3 ?_;refine Lo 1 sg3 rfl ha7 ?_;refine Lo 0 sg3 rfl hb7 ?_;refine cfa 26 ?_;exact rt2 hl2 ⟨rfl, trivial⟩ ⟨.inr ⟨rfl, fun h => g7 h.2.2.2.2.2.2.2.1⟩, rfl⟩
 cases hu : y.unit with
 | false =>
   rw [g1, hu] at ha1;rw [hu] at hb1;refine tr 2 ?_;refine Lo 1 sg9 rfl ha0 ?_;refine Lo 0 sg9 rfl hb0 ?_;refine cta 2 ?_;refine Lo 1 sg4 rfl ha1 ?_;refine Lo 0 sg4 rfl hb1 ?_;refine pe 3 (xM bo4 rfl rfl) ?_;refine Lo 1 sg3 rfl ha2 ?_;refine Lo 0 sg3 rfl hb2 ?_;refine cta 3 ?_;refine Lo 1 sg3 rfl ha3 ?_;refine Lo 0 sg3 rfl hb3 ?_;refine cta 3 ?_;refine Lo 1 sg3 rfl ha4 ?_
   refine Lo 0 sg3 rfl hb4 ?_;refine cta 3 ?_;refine Lo 1 sg3 rfl ha5 ?_;refine Lo 0 sg3 rfl hb5 ?_;refine cta 3 ?_;refine Lo 1 sg3 rfl ha6 ?_;refine Lo 0 sg3 rfl hb6 ?_;refine cta 3 ?_;refine Lo 1 sg3 rfl ha7 ?_;refine Lo 0 sg3 rfl hb7 ?_;refine cta 3 ?_;refine Lo 1 sg38 rfl ha8 ?_;refine Lo 0 sg38 rfl hb8 ?_
   refine zE ((yK cl84 rfl (fun m' hm he => same84 x.played m' q.A q.ca y.played r.A r.ca (hp.mono (hl2.trans hm)) (hp'.mono (hl2.trans hm))) rfl ?_)) rfl;rintro _ _ ⟨⟨rfl, q8⟩ | ⟨rfl, hq⟩, rfl⟩
   rotate_left
   ·refine vr 19 ?_;exact rt2 hl2 ⟨rfl, trivial⟩ ⟨.inr ⟨rfl, fun h => hq h.2.2.2.2.2.2.2.2.1⟩, rfl⟩
   refine vr 3 ?_;refine Lo 1 sg38 rfl ha9 ?_;refine Lo 0 sg38 rfl hb9 ?_;refine zE ((yK cl84 rfl (fun m' hm he => same84 x.dead m' q.B q.cb y.dead r.B r.cb (hd.mono (hl2.trans hm)) (hd'.mono (hl2.trans hm))) rfl ?_)) rfl;rintro _ _ ⟨⟨rfl, q9⟩ | ⟨rfl, hq⟩, rfl⟩
   rotate_left
   ·refine vr 12 ?_;exact rt2 hl2 ⟨rfl, trivial⟩ ⟨.inr ⟨rfl, fun h => hq h.2.2.2.2.2.2.2.2.2.1⟩, rfl⟩
   refine vr 3 ?_;refine Lo 1 sg38 rfl ha10 ?_;refine Lo 0 sg38 rfl hb10 ?_;refine zE ((yK cl84 rfl (fun m' hm he => same84 x.dawn m' q.D q.cd y.dawn r.D r.cd (hw.mono (hl2.trans hm)) (hw'.mono (hl2.trans hm))) rfl ?_)) rfl;rintro _ _ ⟨⟨rfl, q10⟩ | ⟨rfl, hq⟩, rfl⟩
   rotate_left
   ·refine vr 5 ?_;exact rt2 hl2 ⟨rfl, trivial⟩ ⟨.inr ⟨rfl, fun h => hq h.2.2.2.2.2.2.2.2.2.2⟩, rfl⟩
   refine vr 5 ?_;exact rt2 hl2 ⟨rfl, trivial⟩ ⟨.inl ⟨rfl, ⟨g0, g1, g2, g3, g4, g5, g6, g7, q8, q9, q10⟩⟩, rfl⟩
 | true =>
   rw [g1, hu] at ha1;rw [hu] at hb1;refine tr 2 ?_;refine Lo 1 sg9 rfl ha0 ?_;refine Lo 0 sg9 rfl hb0 ?_;refine cta 2 ?_;refine Lo 1 sg4 rfl ha1 ?_;refine Lo 0 sg4 rfl hb1 ?_;refine pe 3 (xM bo4 rfl rfl) ?_;refine Lo 1 sg3 rfl ha2 ?_;refine Lo 0 sg3 rfl hb2 ?_;refine cta 3 ?_;refine Lo 1 sg3 rfl ha3 ?_;refine Lo 0 sg3 rfl hb3 ?_;refine cta 3 ?_;refine Lo 1 sg3 rfl ha4 ?_
   refine Lo 0 sg3 rfl hb4 ?_;refine cta 3 ?_;refine Lo 1 sg3 rfl ha5 ?_;refine Lo 0 sg3 rfl hb5 ?_;refine cta 3 ?_;refine Lo 1 sg3 rfl ha6 ?_;refine Lo 0 sg3 rfl hb6 ?_;refine cta 3 ?_;refine Lo 1 sg3 rfl ha7 ?_;refine Lo 0 sg3 rfl hb7 ?_;refine cta 3 ?_;refine Lo 1 sg38 rfl ha8 ?_;refine Lo 0 sg38 rfl hb8 ?_
   refine zE ((yK cl84 rfl (fun m' hm he => same84 x.played m' q.A q.ca y.played r.A r.ca (hp.mono (hl2.trans hm)) (hp'.mono (hl2.trans hm))) rfl ?_)) rfl;rintro _ _ ⟨⟨rfl, q8⟩ | ⟨rfl, hq⟩, rfl⟩
   rotate_left
   ·refine vr 19 ?_;exact rt2 hl2 ⟨rfl, trivial⟩ ⟨.inr ⟨rfl, fun h => hq h.2.2.2.2.2.2.2.2.1⟩, rfl⟩
   refine vr 3 ?_;refine Lo 1 sg38 rfl ha9 ?_;refine Lo 0 sg38 rfl hb9 ?_;refine zE ((yK cl84 rfl (fun m' hm he => same84 x.dead m' q.B q.cb y.dead r.B r.cb (hd.mono (hl2.trans hm)) (hd'.mono (hl2.trans hm))) rfl ?_)) rfl;rintro _ _ ⟨⟨rfl, q9⟩ | ⟨rfl, hq⟩, rfl⟩
   rotate_left
   ·refine vr 12 ?_;exact rt2 hl2 ⟨rfl, trivial⟩ ⟨.inr ⟨rfl, fun h => hq h.2.2.2.2.2.2.2.2.2.1⟩, rfl⟩
   refine vr 3 ?_;refine Lo 1 sg38 rfl ha10 ?_;refine Lo 0 sg38 rfl hb10 ?_;refine zE ((yK cl84 rfl (fun m' hm he => same84 x.dawn m' q.D q.cd y.dawn r.D r.cd (hw.mono (hl2.trans hm)) (hw'.mono (hl2.trans hm))) rfl ?_)) rfl;rintro _ _ ⟨⟨rfl, q10⟩ | ⟨rfl, hq⟩, rfl⟩
   rotate_left
   ·refine vr 5 ?_;exact rt2 hl2 ⟨rfl, trivial⟩ ⟨.inr ⟨rfl, fun h => hq h.2.2.2.2.2.2.2.2.2.2⟩, rfl⟩
   refine vr 5 ?_;exact rt2 hl2 ⟨rfl, trivial⟩ ⟨.inl ⟨rfl, ⟨g0, g1, g2, g3, g4, g5, g6, g7, q8, q9, q10⟩⟩, rfl⟩
end
section
open Wd Tp Kd
variable {m : Mp}
def FmL (b : BkT) : Prop := b.cards.length ≤ 140737488355328 ∧ b.fmts.length ≤ 140737488355328 ∧ ∀ f ∈ b.fmts, f.banned.length ≤ 140737488355328 ∧ f.single.length ≤ 140737488355328
theorem same9 {K F K' F' : Option Addr} {kc fc kc' fc' : Nat} {a b : BkT} (hC : CardsX m K a.cards) (hF : FmtsX m F a.fmts) (hC' : CardsX m K' b.cards) (hF' : FmtsX m F' b.fmts) (hs : FmL a) (hs' : FmL b) :
  CS Tryz.prog 9 [.agg (bk2 K a.cards.length kc F a.fmts.length fc).toArray, .agg (bk2 K' b.cards.length kc' F' b.fmts.length fc').toArray] m [] (SameV (sameB a b)) := by
 obtain ⟨hlc, hlf, hfb⟩ := hs;obtain ⟨hlc', hlf', hfb'⟩ := hs';skip;refine yI [.tmp 4] Tryz.func9 rfl rfl rfl ?_;refine tr 2 ?_;refine Bx 0 rfl fun b1 => ?_;refine Bx 5 rfl fun b2 => ?_;refine zG .here (fun ns hi _ hd1 => ?_);refine zG .here (fun ns2 hi2 _ hd2 => ?_)
 have hR2 : Rd (uni (uni m ns) ns2) (some ⟨b2, 0, none⟩) (bk2 K' b.cards.length kc' F' b.fmts.length fc') := ((Rd.blk hi).mono (zV hd1)).mono (zM _ _);have hR1 : Rd (uni (uni m ns) ns2) (some ⟨b1, 0, none⟩) (bk2 K a.cards.length kc F a.fmts.length fc) := (Rd.blk hi2).mono (zV hd2);have hl2 : Le m (uni (uni m ns) ns2) := (zM _ _).trans (zM _ _);clear hi hd1 hi2 hd2
 generalize uni (uni m ns) ns2 = m9 at hR1 hR2 hl2;have hl9 := hl2;have ha0 : mc m9 ⟨b1, 0, none⟩ = some (.slice K a.cards.length kc) := hR1.at_ (i := 0) rfl;have ha1 : mc m9 ⟨b1, 1, none⟩ = some (.slice F a.fmts.length fc) := hR1.at_ (i := 1) rfl;have hb0 : mc m9 ⟨b2, 0, none⟩ = some (Value.slice K' b.cards.length kc') := hR2.at_ (i := 0) rfl
 have hb1 : mc m9 ⟨b2, 1, none⟩ = some (Value.slice F' b.fmts.length fc') := hR2.at_ (i := 1) rfl;obtain ⟨vs, hrd, hvl, hel⟩ := hC;obtain ⟨vs', hrd', hvl', hel'⟩ := hC';obtain ⟨us, hrf, hul, hef⟩ := hF;obtain ⟨us', hrf', hul', hef'⟩ := hF';by_cases g0 : a.cards.length = b.cards.length
 rotate_left
 ·refine tr 2 ?_;refine Lo 2 sg23 rfl ha0 ?_;refine Lo 1 sg23 rfl hb0 ?_;refine cto 19 ?_;exact rt2 hl2 ⟨rfl, trivial⟩ ⟨.inr ⟨rfl, fun h => g0 h.lc⟩, rfl⟩
 by_cases g1 : a.fmts.length = b.fmts.length
 rotate_left
 ·refine tr 2 ?_;refine Lo 2 sg23 rfl ha0 ?_;refine Lo 1 sg23 rfl hb0 ?_;refine cfo 2 ?_;refine Lo 2 sg24 rfl ha1 ?_;refine Lo 1 sg24 rfl hb1 ?_;refine cto 11 ?_;exact rt2 hl2 ⟨rfl, trivial⟩ ⟨.inr ⟨rfl, fun h => g1 h.lf⟩, rfl⟩
 refine tr 2 ?_;refine Lo 2 sg23 rfl ha0 ?_;refine Lo 1 sg23 rfl hb0 ?_;refine cfo 2 ?_;refine Lo 2 sg24 rfl ha1 ?_;refine Lo 1 sg24 rfl hb1 ?_;refine cfo 13 ?_
 refine zj (α := Nat) (fun i => [(2, ptr b1), (3, ptr b2), (5, .int .i64 (i : Nat))]) (fun _ => []) (fun i => i ≤ a.cards.length ∧ ∀ (j : Nat) (h : j < a.cards.length) (h' : j < b.cards.length), j < i → sameC a.cards[j] b.cards[j]) (fun i => a.cards.length - i) 0 ⟨rfl, rfl, rfl, trivial⟩ (Pick.nil _) ⟨Nat.zero_le _, fun _ _ _ h => by cases h⟩ ?_;rintro i ⟨hi, hall⟩
 by_cases hlt : i < a.cards.length
 ·have hlt2 : i < b.cards.length := by omega
  have hA : K.isSome = true := hrd.isSome (by omega);have hA2 : K'.isSome = true := hrd'.isSome (by omega);have hat := (hrd.elem (i * 12) 12).mono hl9;have hat2 := (hrd'.elem (i * 12) 12).mono hl9;have hx := (hel i hlt).mono hl9;have hy := (hel' i hlt2).mono hl9;have hl41 : ((vs.drop (i * 12)).take 12).length = 12 := by obtain ⟨q, h, -⟩ := hx; rw [h]; rfl
  have hl42 : ((vs'.drop (i * 12)).take 12).length = 12 := by obtain ⟨q, h, -⟩ := hy; rw [h]; rfl
  generalize (vs.drop (i * 12)).take 12 = xs1 at hat hl41 hx;generalize (vs'.drop (i * 12)).take 12 = ys1 at hat2 hl42 hy;refine tr 5 ?_;refine Lo 1 sg23 rfl ha0 ?_;refine cto 8 ?_;refine Db (sq [0, 1, 2, 3, 4, 5, 6, 7, 8, 9, 110, 11] .done) ?_;refine vB 1 ?_;refine Vr 1 rfl (zF sg23 rfl ha0) ?_;refine Vb 0 rfl (zI ez23 rfl rfl hA (by omega)) ?_
  refine Vr 1 rfl ((zJ ag40 rfl hl41 hat)) ?_;refine Vr 1 rfl (zF sg23 rfl hb0) ?_;refine Vb 0 rfl (zI ez23 rfl rfl hA2 (by omega)) ?_;refine Vr 0 rfl ((zJ ag40 rfl hl42 hat2)) ?_;skip;refine zA rfl ((yK cl28 rfl (fun m' hm he => same28 (hx.mono hm) (hy.mono hm)) rfl ?_)) rfl;rintro _ _ ⟨⟨rfl, hq⟩ | ⟨rfl, hq⟩, rfl⟩
  ·refine vB 1 ?_;refine Vn 7 ?_;refine Pa 2 ?_
   exact QR (i + 1) (Pick.nil _) ⟨hlt, fun j h h' hj => by
    by_cases hji : j < i
    ·exact hall j h h' hji
    ·obtain rfl : j = i := by omega
     exact hq⟩ (by omega)
  ·refine vB 1 ?_;refine Vn 10 ?_;refine zN ?_;refine zP ?_;refine zY ?_;exact rt2 hl2 ⟨rfl, trivial⟩ ⟨.inr ⟨rfl, fun h => hq (h.c i hlt hlt2)⟩, rfl⟩
 have hi2 : i = a.cards.length := by omega
 subst hi2;have hcs : ∀ (j : Nat) (h : j < a.cards.length) (h' : j < b.cards.length), sameC a.cards[j] b.cards[j] := fun j h h' => hall j h h' h;clear hall hi hlt;refine tr 5 ?_;refine Lo 1 sg23 rfl ha0 ?_;refine cfo 5 ?_;refine zC ?_;refine zB ?_;refine qt 8 ?_
 refine zj (α := Nat) (fun i => [(2, ptr b1), (3, ptr b2), (6, .int .i64 (i : Nat))]) (fun _ => []) (fun i => i ≤ a.fmts.length ∧ ∀ (j : Nat) (h : j < a.fmts.length) (h' : j < b.fmts.length), j < i → sameF a.fmts[j] b.fmts[j]) (fun i => a.fmts.length - i) 0 ⟨rfl, rfl, rfl, trivial⟩ (Pick.nil _) ⟨Nat.zero_le _, fun _ _ _ h => by cases h⟩ ?_;rintro i ⟨hi, hall⟩;by_cases hlt : i < a.fmts.length
 rotate_left
 ·have hi2 : i = a.fmts.length := by omega
  subst hi2;refine tr 5 ?_;refine Lo 1 sg24 rfl ha1 ?_;refine cfo 5 ?_;refine zC ?_;refine zB ?_;refine qt 7 ?_;exact rt2 hl2 ⟨rfl, trivial⟩ ⟨.inl ⟨rfl, ⟨g0, g1, hcs, fun j h h' => hall j h h' h⟩⟩, rfl⟩
 have hlt2 : i < b.fmts.length := by omega
 have hA : F.isSome = true := hrf.isSome (by omega);have hA2 : F'.isSome = true := hrf'.isSome (by omega);have hat := (hrf.elem (i * 7) 7).mono hl9;have hat2 := (hrf'.elem (i * 7) 7).mono hl9;obtain ⟨q, hqv, hqB, hqS⟩ := (hef i hlt).mono hl9;obtain ⟨r, hrv, hrB, hrS⟩ := (hef' i hlt2).mono hl9;rw [hqv] at hat;rw [hrv] at hat2;obtain ⟨hb1', hb2'⟩ := hfb _ (List.getElem_mem hlt)
 obtain ⟨hb3', hb4'⟩ := hfb' _ (List.getElem_mem hlt2)
 have hnx : sameF a.fmts[i] b.fmts[i] → ∀ (j : Nat) (h : j < a.fmts.length) (h' : j < b.fmts.length), j < i + 1 → sameF a.fmts[j] b.fmts[j] := fun hq j h h' hj => by
  by_cases hji : j < i
  ·exact hall j h h' hji
  ·obtain rfl : j = i := by omega
   exact hq
 have hno : ¬ sameF a.fmts[i] b.fmts[i] → ¬ sameB a b := fun hq h => hq (h.f i hlt hlt2);clear hall hqv hrv;generalize a.fmts[i] = x at hat hqB hqS hb1' hb2' hnx hno;generalize b.fmts[i] = y at hat2 hrB hrS hb3' hb4' hnx hno;refine tr 5 ?_;refine Lo 1 sg24 rfl ha1 ?_;refine cto 8 ?_
 refine Q3 (α := Nat × Nat) (fun y' => [(2, ptr b1), (3, ptr b2), (6, .int .i64 (i : Nat)), (7, ptr y'.1), (8, ptr y'.2)]) (fun y' => [cel y'.1 (q.v x) 63, cel y'.2 (r.v y) 63]) (fun _ => True) ?_ ?_
 ·refine Db (sq [0, 1, 2, 3, 4, 5, 6, 7, 8, 9] (.fork (sq [110, 111, 112, 113] .done) (sq [111, 110, 112, 113] .done))) ?_;refine vB 1 ?_;refine Vr 1 rfl (zF sg24 rfl ha1) ?_;refine Vb 0 rfl (zI ez24 rfl rfl hA (by omega)) ?_;refine Vr 1 rfl (zJ ag63 rfl rfl hat) ?_;refine Vr 1 rfl (zF sg24 rfl hb1) ?_;refine Vb 0 rfl (zI ez24 rfl rfl hA2 (by omega)) ?_
  refine Vr 0 rfl (zJ ag63 rfl rfl hat2) ?_;refine zk ?_ ?_;refine zA rfl (yH zl63 rfl (fun b3 => ?_)) rfl;refine zA rfl (yH zl63 rfl (fun b4 => ?_)) rfl;refine zA rfl (zS ag63 rfl rfl rfl .h1 rfl rfl ?_) rfl;refine zA rfl (zS ag63 rfl rfl rfl .here rfl rfl ?_) rfl;refine Vn 0 ?_
  ·exact QR (b3, b4) (.cons .h1 .p0) trivial (by decide)
  ·refine zA rfl (yH zl63 rfl (fun b3 => ?_)) rfl;refine zA rfl (yH zl63 rfl (fun b4 => ?_)) rfl;refine zA rfl (zS ag63 rfl rfl rfl .here rfl rfl ?_) rfl;refine zA rfl (zS ag63 rfl rfl rfl .h1 rfl rfl ?_) rfl;refine Vn 0 ?_;exact QR (b4, b3) .pp trivial (by decide)
 rintro ⟨B1, B2⟩ -;dsimp only;refine zG .here (fun ns hi _ hd1 => ?_);refine zG .here (fun ns2 hi2 _ hd2 => ?_);have hR1' : Rd (uni (uni m9 ns) ns2) (some ⟨B1, 0, none⟩) (q.v x) := ((Rd.blk hi).mono (zV hd1)).mono (zM _ _);have hR2' : Rd (uni (uni m9 ns) ns2) (some ⟨B2, 0, none⟩) (r.v y) := (Rd.blk hi2).mono (zV hd2)
 have hl3 : Le m9 (uni (uni m9 ns) ns2) := (zM _ _).trans (zM _ _);clear hi hd1 hi2 hd2;generalize uni (uni m9 ns) ns2 = m10 at hR1' hR2' hl3;have hl2 := hl2.trans hl3;have hx0 : mc m10 ⟨B1, 0, none⟩ = some (.string (bs x.name)) := hR1'.at_ (i := 0) rfl;have hy0 : mc m10 ⟨B2, 0, none⟩ = some (.string (bs y.name)) := hR2'.at_ (i := 0) rfl
 have hx1 : mc m10 ⟨B1, 1, none⟩ = some (.int .i64 x.least) := hR1'.at_ (i := 1) rfl;have hy1 : mc m10 ⟨B2, 1, none⟩ = some (.int .i64 y.least) := hR2'.at_ (i := 1) rfl;have hx2 : mc m10 ⟨B1, 2, none⟩ = some (.int .i64 x.most) := hR1'.at_ (i := 2) rfl;have hy2 : mc m10 ⟨B2, 2, none⟩ = some (.int .i64 y.most) := hR2'.at_ (i := 2) rfl
 have hx3 : mc m10 ⟨B1, 3, none⟩ = some (.int .i64 x.copies) := hR1'.at_ (i := 3) rfl;have hy3 : mc m10 ⟨B2, 3, none⟩ = some (.int .i64 y.copies) := hR2'.at_ (i := 3) rfl;have hx4 : mc m10 ⟨B1, 4, none⟩ = some (.slice q.A x.banned.length q.ca) := hR1'.at_ (i := 4) rfl;have hy4 : mc m10 ⟨B2, 4, none⟩ = some (.slice r.A y.banned.length r.ca) := hR2'.at_ (i := 4) rfl
 have hx5 : mc m10 ⟨B1, 5, none⟩ = some (.slice q.B x.single.length q.cb) := hR1'.at_ (i := 5) rfl;have hy5 : mc m10 ⟨B2, 5, none⟩ = some (.slice r.B y.single.length r.cb) := hR2'.at_ (i := 5) rfl;by_cases k0 : x.name = y.name
 rotate_left
 ·refine tr 3 ?_;refine Lo 1 sg9 rfl hx0 ?_;refine Lo 0 sg9 rfl hy0 ?_;refine cta 48 ?_;exact rt2 hl2 ⟨rfl, trivial⟩ ⟨.inr ⟨rfl, hno (fun h => k0 h.1)⟩, rfl⟩
 by_cases k1 : x.least = y.least
 rotate_left
 ·refine tr 3 ?_;refine Lo 1 sg9 rfl hx0 ?_;refine Lo 0 sg9 rfl hy0 ?_;refine cf 2 rfl (fun hx => hx (by assumption)) ?_;refine Lo 1 sg3 rfl hx1 ?_;refine Lo 0 sg3 rfl hy1 ?_;refine cta 42 ?_;exact rt2 hl2 ⟨rfl, trivial⟩ ⟨.inr ⟨rfl, hno (fun h => k1 h.2.1)⟩, rfl⟩
 by_cases k2 : x.most = y.most
 rotate_left
 ·refine tr 3 ?_;refine Lo 1 sg9 rfl hx0 ?_;refine Lo 0 sg9 rfl hy0 ?_;refine cf 2 rfl (fun hx => hx (by assumption)) ?_;refine Lo 1 sg3 rfl hx1 ?_;refine Lo 0 sg3 rfl hy1 ?_;refine cfo 3 ?_;refine Lo 1 sg3 rfl hx2 ?_;refine Lo 0 sg3 rfl hy2 ?_;refine cta 35 ?_;exact rt2 hl2 ⟨rfl, trivial⟩ ⟨.inr ⟨rfl, hno (fun h => k2 h.2.2.1)⟩, rfl⟩
 by_cases k3 : x.copies = y.copies
 rotate_left
 ·refine tr 3 ?_;refine Lo 1 sg9 rfl hx0 ?_;refine Lo 0 sg9 rfl hy0 ?_;refine cf 2 rfl (fun hx => hx (by assumption)) ?_;refine Lo 1 sg3 rfl hx1 ?_;refine Lo 0 sg3 rfl hy1 ?_;refine cfo 3 ?_;refine Lo 1 sg3 rfl hx2 ?_;refine Lo 0 sg3 rfl hy2 ?_;refine cfo 3 ?_;refine Lo 1 sg3 rfl hx3 ?_;refine Lo 0 sg3 rfl hy3 ?_;refine cta 28 ?_
  exact rt2 hl2 ⟨rfl, trivial⟩ ⟨.inr ⟨rfl, hno (fun h => k3 h.2.2.2.1)⟩, rfl⟩
 refine tr 3 ?_;refine Lo 1 sg9 rfl hx0 ?_;refine Lo 0 sg9 rfl hy0 ?_;refine cf 2 rfl (fun hx => hx (by assumption)) ?_;refine Lo 1 sg3 rfl hx1 ?_;refine Lo 0 sg3 rfl hy1 ?_;refine cfo 3 ?_;refine Lo 1 sg3 rfl hx2 ?_;refine Lo 0 sg3 rfl hy2 ?_;refine cfo 3 ?_;refine Lo 1 sg3 rfl hx3 ?_;refine Lo 0 sg3 rfl hy3 ?_;refine cfo 3 ?_;refine Lo 1 sg61 rfl hx4 ?_;refine Lo 0 sg61 rfl hy4 ?_
 refine zE ((yK cl29 rfl (fun m' hm he => same29 (hqB.1.mono (hl3.trans hm)) (hrB.1.mono (hl3.trans hm)) hb1' hb3') rfl ?_)) rfl;rintro _ _ ⟨⟨rfl, k4⟩ | ⟨rfl, hq⟩, rfl⟩
 rotate_left
 ·refine vr 21 ?_;exact rt2 hl2 ⟨rfl, trivial⟩ ⟨.inr ⟨rfl, hno (fun h => hq h.2.2.2.2.1)⟩, rfl⟩
 refine vr 4 ?_;refine Lo 1 sg61 rfl hx5 ?_;refine Lo 0 sg61 rfl hy5 ?_;refine zE ((yK cl29 rfl (fun m' hm he => same29 (hqS.1.mono (hl3.trans hm)) (hrS.1.mono (hl3.trans hm)) hb2' hb4') rfl ?_)) rfl;rintro _ _ ⟨⟨rfl, k5⟩ | ⟨rfl, hq⟩, rfl⟩
 rotate_left
 ·refine vr 13 ?_;exact rt2 hl2 ⟨rfl, trivial⟩ ⟨.inr ⟨rfl, hno (fun h => hq h.2.2.2.2.2)⟩, rfl⟩
 refine vr 10 ?_;refine Pa 2 ?_;exact ZW hl3 (QR (i + 1) (Pick.nil _) ⟨hlt, hnx ⟨k0, k1, k2, k3, k4, k5⟩⟩ (by omega))
end
section
open Wd Tp Kd
def wk1 : List UInt8 := [99, 97, 114, 100, 32, 73, 109, 112, 32, 117, 110, 105, 116, 32, 49, 32, 50, 47, 49, 32, 123, 32, 112, 108, 97, 121, 101, 100, 32, 123, 32, 104, 97, 114, 109, 32, 116, 97, 114, 103, 101, 116, 32, 49, 32, 43, 32, 50, 32, 42, 32, 51, 59, 32, 125, 32, 125]
def wk2 : List UInt8 := [99, 97, 114, 100, 32, 105, 102, 32, 99, 104, 97, 114, 109, 32, 49, 32, 123, 32, 125]
def wk3 : List UInt8 := [99, 97, 114, 100, 32, 73, 109, 112, 32, 117, 110, 105, 116, 32, 49, 32, 50, 47, 49, 32, 123, 10, 32, 112, 108, 97, 121, 101, 100, 32, 123, 32, 104, 97, 114, 109, 32, 116, 97, 114, 103, 101, 116, 32, 49, 32, 43, 32, 50, 32, 42, 32, 51, 59, 32, 125, 10, 125, 10]
def wkB : BkT := ⟨[⟨[73, 109, 112], true, 1, 2, 1, 0, 0, 0, [.mk 0 2 (.mk 8 0 0 [.mk 0 1 0 [], .mk 10 0 0 [.mk 0 2 0 [], .mk 0 3 0 []]]) [] cond0 [] []], [], [], 0⟩], []⟩
def okB : R BkT → Option BkT
 | .ok b _ => some b
 | _ => none
def badB : R BkT → Option (Int × Int)
 | .bad e a => some (e, a)
 | _ => none
theorem wake1 : okB (readP wk1) = some wkB := by kernel_rfl
theorem wake2 : badB (readP wk2) = some (120, 5) := by kernel_rfl
theorem wake3 : textP wkB = (wk3, 0) := by kernel_rfl
end
section
open Wd Tp Kd
variable {m : Mp}
theorem Qc : CondSm cond0 := .mk (Nat.zero_le _) (fun k h => by cases h)
theorem wkB_sm : BkSm wkB where
 lc := by decide
 lf := by decide
 c := fun x hx => by
  rw [show wkB.cards = [wkB.cards[0]'(by decide)] from rfl, List.mem_singleton] at hx;subst hx
  exact ⟨by decide, by decide, by decide, by decide, fun x hx => by
   rw [List.mem_singleton.1 hx]
   exact .mk (Nat.zero_le _) Qc (Nat.zero_le _) (Nat.zero_le _) (fun _ h => by cases h) (fun _ h => by cases h), (fun _ h => by cases h), (fun _ h => by cases h)⟩
 f := fun x hx => by cases hx
theorem wakes6 (hT : TabI m) (hU : Tabs m) : CS Tryz.prog 6 [] m [] (Gives (.bool true)) := by
 skip;refine yI [.tmp 0] Tryz.func6 rfl rfl rfl ?_;refine tr 7 ?_;refine zE ((yK cl7 rfl (fun m' hm he => qo (s := wk1) (hU.mono hm) (by decide)) rfl ?_)) rfl;rintro _ _ hq;rcases hq with ⟨bk, ts, K, kc, F, fc, e, h1, rfl, rfl, h2, h3, h4⟩ | ⟨e, a, h1, rfl, rfl⟩
 rotate_left
 ·have h5 := wake1;rw [h1] at h5;cases h5
 have hbk : bk = wkB := by
  have h5 := wake1;rw [h1] at h5;exact Option.some.inj h5
 subst hbk;clear h1 h2 h3;unfold faultV;refine vr 3 ?_;refine Al 0 zl26 fun b1 => ?_;refine Al 0 zl29 fun b2 => ?_;refine Sg 0 ag26 .h1 ?_;refine Sg 3 ag29 .here ?_;refine zG .h2 (fun ns hi _ hd => ?_);obtain ⟨hCq, hFq⟩ := h4 ns hi;have hCq := hCq.mono (zV hd (m := m));have hFq := hFq.mono (zV hd (m := m));have hl2 : Le m (uni m ns) := zM _ _;clear hi hd h4
 generalize uni m ns = m9 at hCq hFq hl2;have hT := hT.mono hl2;have hU := hU.mono hl2;refine tr 1 ?_;refine zE ((yK cl7 rfl (fun m' hm he => qo (s := wk2) (hU.mono hm) (by decide)) rfl ?_)) rfl;rintro _ _ hq;rcases hq with ⟨bk, ts, K2, kc2, F2, fc2, e2, h1, rfl, rfl, h2, h3, h4⟩ | ⟨e2, a2, h1, rfl, rfl⟩
 ·have h5 := wake2;rw [h1] at h5;cases h5
 have hee : e2 = 120 ∧ a2 = 5 := by
  have h5 := wake2;rw [h1] at h5;have h6 := Option.some.inj h5;exact ⟨congrArg Prod.fst h6, congrArg Prod.snd h6⟩
 obtain ⟨rfl, rfl⟩ := hee;clear h1;unfold faultV;refine vr 3 ?_;refine Al 0 zl26 fun b3 => ?_;refine Al 0 zl29 fun b4 => ?_;refine Sg 0 ag26 .h1 ?_;refine Sg 4 ag29 .here ?_;refine Lc 0 ag26 .h3 ?_;refine Cr cl12 rfl (fun m' hm he => (Text12 (b := wkB) (hT.mono hm) (hU.mono hm) (hCq.mono hm).x (hFq.mono hm).x wkB_sm)) ?_;rintro _ rfl;rw [wake3];dsimp only [txV];obtain ⟨vs, hrd, hvl, hel⟩ := hCq
 obtain ⟨q, hqv, -, hpl, -, -⟩ := hel 0 (by decide);have hat := hrd.elem (0 * 12) 12;rw [hqv] at hat;have hat : At m9 ((sa K).add (0 * 12)) [.string (bs [73, 109, 112]), .bool true, .int .i64 1, .int .i64 2, .int .i64 1, .int .i64 0, .int .i64 0, .int .i64 0, .slice q.A 1 q.ca, .slice q.B 0 q.cb, .slice q.D 0 q.cd, .int .i64 0] := hat;have hk1 : wkB.cards.length = 1 := rfl
 obtain ⟨-, -, vs2, hrd2, hvl2, hel2⟩ := hpl;have hx := hel2 0 (by decide);have hat2 := hrd2.elem (0 * 14) 14;generalize (vs2.drop (0 * 14)).take 14 = xs at hx hat2;obtain ⟨op, who, nop, nn, nwho, nA, nlen, nc, name, cop, cwho, cname, cA, cla, cca, cB, clb, ccb, TA, la, ca, EB, lb, cb, n, cond, thn, els, rfl, hmk, -, hn, hc, hthn, hels⟩ := EffR.parts hx
 have hmk : EffT.mk 0 2 (.mk 8 0 0 [.mk 0 1 0 [], .mk 10 0 0 [.mk 0 2 0 [], .mk 0 3 0 []]]) [] cond0 [] [] = EffT.mk op who n name cond thn els := hmk;cases hmk;cases hn with
 | @mk _ _ _ _ _ _ _ vs3 ho hl hm' hr hv hk =>
 have f2 : NumR m9 ((vs3.drop (1 * 4)).take 4) (.mk 10 0 0 [.mk 0 2 0 [], .mk 0 3 0 []]) := hk 1 (by decide);have hat3 := hr.elem (1 * 4) 4;obtain ⟨n2, w2, A2, l2, c2, e2⟩ := NumR.formO f2;rw [e2] at hat3;have hX1 : K.isSome = true := hrd.isSome (by rw [hvl]; decide);have hX2 : q.A.isSome = true := hrd2.isSome (by rw [hvl2]; decide);have hX3 : nA.isSome = true := hr.isSome (by rw [hv]; decide)
 have hnl : nlen = 2 := hl.symm;have hN0 : mc m9 (((((sa q.A).add (0 * 14))).add 2).add 0) = some (.int .i8 8) := (At.sub hat2 2 4).at_ (o := 0) rfl;have hN3 : mc m9 (((((sa q.A).add (0 * 14))).add 2).add 3) = some (.slice nA nlen nc) := (At.sub hat2 2 4).at_ (o := 3) rfl;refine vr 10 ?_;refine Lb 0 sg27 .h2 ?_;refine ctr 2 ?_;refine Lb 1 sg23 .h3 ?_;refine ctr 3 ?_;refine Lb 0 sg23 .h3 ?_
 refine pe 1 (zO ez23 rfl rfl hX1 (by omega) (by omega)) ?_;refine Lo 0 sg38 rfl (hat.at_ rfl) ?_;refine pe 2 (zO ez38 rfl rfl hX2 (by omega) (by omega)) ?_;refine Lo 0 sg42 rfl hN0 ?_;refine ctr 3 ?_;refine Lb 0 sg23 .h3 ?_;refine pe 1 (zO ez23 rfl rfl hX1 (by omega) (by omega)) ?_;refine Lo 0 sg38 rfl (hat.at_ rfl) ?_
 refine pe 2 (zO ez38 rfl rfl hX2 (by omega) (by omega)) ?_;refine Lo 0 sg43 rfl hN3 ?_;refine pe 1 (zO ez43 rfl rfl hX3 (by omega) (by omega)) ?_;refine Lo 0 sg42 rfl (hat3.at_ rfl) ?_;refine ctr 2 ?_;refine Lc 0 ag29 .here ?_;refine pe 0 (zT zl29 pl29 rfl rfl) ?_;refine pe 3 ((Xa [.i .i64 120, .i .i64 5] [.i .i64 120, .i .i64 5] fg29 rfl rfl rfl rfl)) ?_
 refine ctr 3 ?_;refine ctr 5 ?_;exact rt2 hl2 ⟨rfl, trivial⟩ ⟨rfl, rfl⟩
end
namespace Tp
open Go Go.Eng Wd Kd
structure Tok where
 kind : Int
 text : List UInt8
 n : Int
deriving DecidableEq
def tok (w : Wrd) : Tok := ⟨w.kind, w.text, w.n⟩
def Cut (s : List UInt8) (p : Nat) (K : List Tok) (q : Nat) : Prop := ∃ ws : List Wrd, ws.map tok = K ∧ ∀ acc, goR s p acc = goR s q (acc ++ ws)
theorem Cut.nil (s : List UInt8) (p : Nat) : Cut s p [] p := ⟨[], rfl, fun acc => by rw [List.append_nil]⟩
theorem Cut.trans {s : List UInt8} {p q r : Nat} {a b : List Tok} (h : Cut s p a q) (k : Cut s q b r) : Cut s p (a ++ b) r := by
 obtain ⟨u, hu, h⟩ := h;obtain ⟨v, hv, k⟩ := k;exact ⟨u ++ v, by rw [List.map_append, hu, hv], fun acc => by rw [h, k, List.append_assoc]⟩
theorem Cut.step {s : List UInt8} {p q : Nat} {ws : List Wrd} (hp : p < s.length) (h : stepR s p = .next q ws) : Cut s p (ws.map tok) q := ⟨ws, rfl, fun _ => uC hp h⟩
def Fol (r : List UInt8) : Prop := r = [] ∨ ∃ b t, r = b :: t ∧ b.toNat < 128 ∧ letterP b.toNat = false ∧ digitP b.toNat = false ∧ b.toNat ≠ 39
theorem Fol.app {b : UInt8} {t r : List UInt8} (h : Fol (b :: t)) : Fol (b :: t ++ r) := by
 rcases h with h | ⟨b', t', h, h1⟩
 ·cases h
 ·cases h;exact .inr ⟨b, t ++ r, rfl, h1⟩
def Lay (f : Bool) (T : List UInt8) (K : List Tok) : Prop := ∀ (s : List UInt8) (p : Nat) (r : List UInt8), s.drop p = T ++ r → (f = true → Fol r) → Cut s p K (p + T.length)
theorem xg {s A r : List UInt8} {p : Nat} (h : s.drop p = A ++ r) : s.drop (p + A.length) = r := by
 rw [← List.drop_drop, h, List.drop_left]
theorem Lay.app {f g : Bool} {A B : List UInt8} {a b : List Tok} (h : Lay f A a) (k : Lay g B b) (hf : f = true → ∃ x t, B = x :: t ∧ Fol B) : Lay g (A ++ B) (a ++ b) := by
 intro s p r hs hr;rw [List.append_assoc] at hs;have h1 := h s p (B ++ r) hs (fun e => by obtain ⟨x, t, rfl, hF⟩ := hf e; exact hF.app);have h2 := k s (p + A.length) r (xg hs) hr;rw [List.length_append, ← Nat.add_assoc];exact h1.trans h2
theorem Lay.weak {T : List UInt8} {K : List Tok} (h : Lay false T K) : Lay true T K := fun s p r hs _ => h s p r hs (fun e => by cases e)
theorem Lay.nil : Lay false [] [] := fun s p r _ _ => Cut.nil s p
theorem Lay.congr {f : Bool} {T T' : List UInt8} {K K' : List Tok} (h : Lay f T K) (e : T' = T) (e' : K' = K) : Lay f T' K' := by subst e e'; exact h
theorem kg {s r : List UInt8} {p : Nat} {b : UInt8} (h : s.drop p = b :: r) : p < s.length ∧ by_ s p = b.toNat := by
 have hl : p < s.length := by
  have := congrArg List.length h;rw [List.length_drop, List.length_cons] at this;omega
 refine ⟨hl, ?_⟩;have h2 : (s.drop p).getD 0 0 = b := by rw [h]; rfl
 unfold by_;rw [List.getD_eq_getElem?_getD, List.getElem?_drop, Nat.add_zero, ← List.getD_eq_getElem?_getD] at h2;rw [h2]
theorem wQ {b : UInt8} (hb : isSp b.toNat = true) : Lay false [b] [] := by
 intro s p r hs _;obtain ⟨hp, hv⟩ := kg hs
 have h128 : by_ s p < 128 := by
  rw [hv];unfold isSp at hb;have := of_decide_eq_true hb;omega
 have h1 : stepR s p = .next (p + 1) [] := by
  unfold stepR;rw [y6 h128, hv];dsimp only;rw [if_pos hb]
 exact Cut.step hp h1
abbrev mk3 (m : List UInt8) : Tok := ⟨3, m, 0⟩
theorem y3 {b : UInt8} {m t : List UInt8} (hb : b.toNat < 128 ∧ isSp b.toNat = false ∧ b.toNat ≠ 35 ∧ letterP b.toNat = false ∧ digitP b.toNat = false) (hm : m = b :: t) (h : ∀ r, markP (m ++ r) = some m) : Lay false m [mk3 m] := by
 intro s p r hs _;have hs2 : s.drop p = b :: (t ++ r) := by rw [hs, hm]; rfl
 obtain ⟨hp, hv⟩ := kg hs2
 have h1 : stepR s p = .next (p + m.length) [⟨3, m, 0, p⟩] := by
  unfold stepR;rw [y6 (by rw [hv]; exact hb.1), hv];dsimp only;rw [if_neg (by rw [hb.2.1]; decide), if_neg hb.2.2.1, if_neg (by rw [hb.2.2.2.1]; decide), if_neg (by rw [hb.2.2.2.2]; decide)];unfold stepM;rw [hs, h r]
 exact Cut.step hp h1
theorem U4 : Lay false [43] [mk3 [43]] := y3 (by decide) rfl fun _ => rfl
theorem VU : Lay false [45] [mk3 [45]] := y3 (by decide) rfl fun _ => rfl
theorem U2 : Lay false [42] [mk3 [42]] := y3 (by decide) rfl fun _ => rfl
theorem wA : Lay false [40] [mk3 [40]] := y3 (by decide) rfl fun _ => rfl
theorem xe : Lay false [41] [mk3 [41]] := y3 (by decide) rfl fun _ => rfl
theorem jA : Lay false [44] [mk3 [44]] := y3 (by decide) rfl fun _ => rfl
theorem ZD : Lay false [47] [mk3 [47]] := y3 (by decide) rfl fun _ => rfl
theorem wR : Lay false [59] [mk3 [59]] := y3 (by decide) rfl fun _ => rfl
theorem Zv : Lay false [123] [mk3 [123]] := y3 (by decide) rfl fun _ => rfl
theorem Zu : Lay false [125] [mk3 [125]] := y3 (by decide) rfl fun _ => rfl
theorem lay_le : Lay false [60, 61] [mk3 [60, 61]] := y3 (by decide) rfl fun _ => rfl
theorem lay_eq : Lay false [61, 61] [mk3 [61, 61]] := y3 (by decide) rfl fun _ => rfl
theorem lay_lt : Lay false [60, 32] [mk3 [60]] := by
 intro s p r hs _;obtain ⟨hp, hv⟩ := kg hs;have hv : by_ s p = 60 := hv
 have h1 : stepR s p = .next (p + 1) [⟨3, [60], 0, p⟩] := by
  unfold stepR;rw [y6 (by rw [hv]; decide), hv];dsimp only;rw [if_neg (by decide), if_neg (by decide), if_neg (by decide), if_neg (by decide)];unfold stepM;rw [hs]
  rfl
 have h2 := Cut.step hp h1;have h3 := wQ (b := 32) (by decide) s (p + 1) r (xg (A := [60]) hs) (fun e => by cases e);exact h2.trans h3
theorem Y2 {w r : List UInt8} {i x k : Nat} (hi : i < w.length) (h : RnK w i x k) : RnK (w ++ r) i x k := by
 have e : ∀ j, j < w.length → by_ (w ++ r) j = by_ w j := fun j hj => by
  unfold by_;rw [List.getD_eq_getElem?_getD, List.getElem?_append_left hj, ← List.getD_eq_getElem?_getD]
 have hl : (w ++ r).length = w.length + r.length := List.length_append;cases h with
 | one h => rw [← e i hi] at h ⊢; exact .one h
 | two x h l1 k1 hx h1 => exact .two x (by rw [e _ hi]; exact h) (by omega) (by rw [e _ l1]; exact k1) (by rw [e _ hi, e _ l1]; exact hx) h1
 | three x h l1 k1 k2 hx h1 hv => exact .three x (by rw [e _ hi]; exact h) (by omega) (by rw [e _ (by omega)]; exact k1) (by rw [e _ l1]; exact k2) (by rw [e _ hi, e _ (by omega), e _ l1]; exact hx) h1 hv
 | four x h l1 k1 k2 k3 hx h1 hv => exact .four x (by rw [e _ hi]; exact h) (by omega) (by rw [e _ (by omega)]; exact k1) (by rw [e _ (by omega)]; exact k2) (by rw [e _ l1]; exact k3) (by rw [e _ hi, e _ (by omega), e _ (by omega), e _ l1]; exact hx) h1 hv
theorem Uu {s w r : List UInt8} {p : Nat} (hs : s.drop p = w ++ r) (hr : Fol r) : ∀ (d i n m : Nat), w.length - i = d → i ≤ w.length → nameGo w i n = (w.length, m) → nameGo s (p + i) n = (p + w.length, m) := by
 intro d
 induction d using Nat.strongRecOn with
 | _ d ih =>
 intro i n m hd hi hn;by_cases hlt : i < w.length
 ·cases hx : rn w i with
  | none =>
    rw [xE hlt hx] at hn;have := congrArg Prod.fst hn;dsimp only at this;omega
  | some c =>
    obtain ⟨x, k⟩ := c;rw [yP hlt hx] at hn;have hk := yh hx
    have hs2 : rn s (p + i) = some (x, k) := by
     rw [← qQ, hs];exact xT (Y2 hlt (uW hx))
    have hps : p + i < s.length := by
     have := congrArg List.length hs;rw [List.length_drop, List.length_append] at this;omega
    rw [yP hps hs2]
    split at hn
    ·have := congrArg Prod.fst hn;dsimp only at this;omega
    ·rename_i hst
     rw [if_neg hst]
     have hle : i + k ≤ w.length := by
      rcases Nat.lt_or_ge 1 k with h1 | h1
      ·exact (hk.2.2.2.2 h1).2.2
      ·omega
     have := ih (w.length - (i + k)) (by omega) (i + k) (n + 1) m rfl hle hn;rw [← Nat.add_assoc] at this;exact this
 ·have hie : i = w.length := by omega
  subst hie;have e : nameGo w w.length n = (w.length, n) := by rw [nameGo, if_neg (Nat.lt_irrefl _)]
  rw [e] at hn;cases hn;have hd2 := xg hs;rcases hr with rfl | ⟨b, t, rfl, h1, h2, h3, h4⟩
  ·have hn2 : ¬ p + w.length < s.length := by
    have := congrArg List.length hd2;rw [List.length_drop] at this
    simp at this
    omega
   rw [nameGo, if_neg hn2]
  ·obtain ⟨hp, hv⟩ := kg hd2;have hrn : rn s (p + w.length) = some (b.toNat, 1) := by rw [y6 (by rw [hv]; exact h1), hv]
   rw [yP hp hrn, if_pos];unfold stopP;rw [h2, h3, decide_eq_true h4];cases (n == 0) <;> rfl
structure Word (w : List UInt8) : Prop where
 go : (nameGo w 0 0).1 = w.length
 lo : 1 ≤ (nameGo w 0 0).2
 hi : (nameGo w 0 0).2 ≤ 24
 len : w.length ≤ 40
theorem xF {w : List UInt8} (h : nameP w = true) : Word w := by
 unfold nameP at h;simp only [Bool.and_eq_true, decide_eq_true_eq] at h;exact ⟨h.1.2.2.1, h.1.1, h.1.2.1, h.1.2.2.2⟩
abbrev mk1 (w : List UInt8) : Tok := ⟨1, w, 0⟩
theorem Xe {w : List UInt8} (h : Word w) : ∃ x k, 0 < w.length ∧ rn w 0 = some (x, k) ∧ letterP x = true := by
 have h0 : 0 < w.length := by
  rcases Nat.eq_zero_or_pos w.length with e | e
  ·have e2 : nameGo w 0 0 = (0, 0) := by rw [nameGo, if_neg (by omega)]
   have := h.lo;rw [e2] at this;dsimp only at this;omega
  ·exact e
 cases hx : rn w 0 with
 | none =>
   have e2 := xE (n := 0) h0 hx;have := h.lo;rw [e2] at this;dsimp only at this;omega
 | some c =>
   obtain ⟨x, k⟩ := c;refine ⟨x, k, h0, rfl, ?_⟩;have e2 := yP (n := 0) h0 hx;cases hl : letterP x with
   | true => rfl
   | false =>
     rw [if_pos (by unfold stopP; rw [hl]; rfl)] at e2;have := h.lo;rw [e2] at this;dsimp only at this;omega
theorem wP {w : List UInt8} (h : Word w) : Lay true w [mk1 w] := by
 intro s p r hs hr;obtain ⟨x, k, h0, hx, hl⟩ := Xe h
 have hps : p < s.length := by
  have := congrArg List.length hs;rw [List.length_drop, List.length_append] at this;omega
 have hs2 : rn s p = some (x, k) := by
  rw [show p = p + 0 from rfl, ← qQ, hs];exact xT (Y2 h0 (uW hx))
 have hgo : nameGo s p 0 = (p + w.length, (nameGo w 0 0).2) := Uu hs (hr rfl) _ 0 0 _ rfl (Nat.zero_le _) (by rw [← h.go])
 have hseg : seg s p (p + w.length) = w := by
  unfold seg;rw [hs, Nat.add_sub_cancel_left, List.take_left]
 have hns : isSp x = false ∧ x ≠ 35 := by
  unfold letterP at hl;have := of_decide_eq_true hl;unfold isSp;exact ⟨decide_eq_false (by omega), by omega⟩
 have h1 : stepR s p = .next (p + w.length) [⟨1, w, 0, p⟩] := by
  unfold stepR;rw [hs2];dsimp only;rw [if_neg (by rw [hns.1]; decide), if_neg hns.2, if_pos hl];unfold stepN;rw [hgo];dsimp only;rw [if_neg (by have := h.hi; have := h.len; omega), hseg]
 exact Cut.step hps h1
end Tp
namespace Tp
open Go Go.Eng Wd Kd
def folB (b : UInt8) : Bool := decide (b.toNat < 128) && !letterP b.toNat && !digitP b.toNat && decide (b.toNat ≠ 39)
theorem kQ {b : UInt8} {t : List UInt8} (h : folB b = true) : Fol (b :: t) := by
 unfold folB at h;simp only [Bool.and_eq_true, Bool.not_eq_true', decide_eq_true_eq] at h;exact .inr ⟨b, t, rfl, h.1.1.1, h.1.1.2, h.1.2, h.2⟩
theorem Lay.tm {g : Bool} {A t : List UInt8} {x : UInt8} {a b : List Tok} (h : Lay true A a) (k : Lay g (x :: t) b) (hx : folB x = true := by decide) : Lay g (A ++ x :: t) (a ++ b) := h.app k fun _ => ⟨x, t, rfl, kQ hx⟩
theorem Lay.fm {g : Bool} {A B : List UInt8} {a b : List Tok} (h : Lay false A a) (k : Lay g B b) : Lay g (A ++ B) (a ++ b) := h.app k fun e => by cases e
abbrev mk2 (n : Int) : Tok := ⟨2, [], n⟩
theorem QV {k : Nat} (h : k ≤ 9) : (d8 k).toNat = 48 + k := by
 unfold d8;rw [UInt8.toNat_ofNat'];omega
theorem qI {s r : List UInt8} {q n : Nat} (hs : s.drop q = r) (hr : Fol r) : digGo s q n = (q, n) := by
 rw [digGo, if_neg];rintro ⟨h1, h2⟩;rcases hr with rfl | ⟨b, t, rfl, -, -, h3, -⟩
 ·have := congrArg List.length hs;rw [List.length_drop] at this
  simp at this
  omega
 ·rw [(kg hs).2, h3] at h2;cases h2
theorem vK {s r : List UInt8} {q n k : Nat} (hs : s.drop q = d8 k :: r) (hk : k ≤ 9) : digGo s q n = digGo s (q + 1) (min (n * 10 + k) 1000) := by
 obtain ⟨h1, h2⟩ := kg hs;rw [QV hk] at h2;rw [digGo, if_pos ⟨h1, by rw [h2]; unfold digitP; exact decide_eq_true (by omega)⟩, h2, Nat.add_sub_cancel_left]
theorem j0 {s r : List UInt8} {p k : Nat} (hs : s.drop p = d8 k :: r) (hk : k ≤ 9) {q n : Nat} (hg : digGo s p 0 = (q, n)) (h0 : k = 0 → q ≤ p + 1) (hn : n ≤ 999) : Cut s p [mk2 n] q := by
 obtain ⟨h1, h2⟩ := kg hs;rw [QV hk] at h2
 have h3 : stepR s p = .next q [⟨2, [], n, p⟩] := by
  unfold stepR;rw [y6 (by omega), h2];dsimp only;rw [if_neg (by unfold isSp; rw [decide_eq_false (by omega)]; decide), if_neg (by omega), if_neg (by unfold letterP; rw [decide_eq_false (by omega)]; decide), if_pos (by unfold digitP; exact decide_eq_true (by omega))];unfold stepD;rw [hg, h2];dsimp only;rw [if_neg (fun e => by have := h0 (by omega); omega), if_neg (by omega)]
 exact Cut.step h1 h3
theorem lay_dg {n : Nat} (hn : n ≤ 999) : Lay true (dg n) [mk2 n] := by
 intro s p r hs hr;have hr := hr rfl;unfold dg at hs ⊢
 split at hs
 ·rename_i h
  rw [if_pos h]
  have h1 : digGo s p 0 = (p + 1, n) := by
   have g1 : s.drop (p + 1) = r := xg (A := [d8 n]) hs;rw [vK hs (by omega), qI g1 hr]
   congr 1
   omega
  exact j0 hs (by omega) h1 (fun _ => Nat.le_refl _) hn
 ·rename_i h
  rw [if_neg h]
  split at hs
  ·rename_i h2
   rw [if_pos h2]
   have h1 : digGo s p 0 = (p + 2, n) := by
    have g1 : s.drop (p + 1) = d8 (n % 10) :: r := xg (A := [d8 (n / 10)]) hs;have g2 : s.drop (p + 1 + 1) = r := xg (A := [d8 (n / 10), d8 (n % 10)]) hs;rw [vK hs (by omega), vK g1 (by omega), qI g2 hr]
    congr 1
    omega
   exact j0 hs (by omega) h1 (fun _ => by omega) hn
  ·rename_i h2
   rw [if_neg h2]
   have h1 : digGo s p 0 = (p + 3, n) := by
    have g1 : s.drop (p + 1) = d8 (n / 10 % 10) :: d8 (n % 10) :: r := xg (A := [d8 (n / 100)]) hs;have g2 : s.drop (p + 1 + 1) = d8 (n % 10) :: r := xg (A := [d8 (n / 100), d8 (n / 10 % 10)]) hs;have g3 : s.drop (p + 1 + 1 + 1) = r := xg (A := [d8 (n / 100), d8 (n / 10 % 10), d8 (n % 10)]) hs
    rw [vK hs (by omega), vK g1 (by omega), vK g2 (by omega), qI g3 hr]
    congr 1
    omega
   exact j0 hs (by omega) h1 (fun _ => by omega) hn
theorem Wr {n : Int} (h0 : 0 ≤ n) (h9 : n ≤ 999) : Lay true (decP n) [mk2 n] := by
 obtain ⟨u, rfl⟩ := Int.eq_ofNat_of_zero_le h0;exact lay_dg (n := u) (by omega)
def lowB (w : List UInt8) : Bool := w.all (fun b => decide (97 ≤ b.toNat ∧ b.toNat ≤ 122)) && decide (1 ≤ w.length ∧ w.length ≤ 24)
theorem low_go {w : List UInt8} (h : ∀ b ∈ w, 97 ≤ b.toNat ∧ b.toNat ≤ 122) : ∀ (d i n : Nat), w.length - i = d → i ≤ w.length → nameGo w i n = (w.length, n + (w.length - i)) := by
 intro d
 induction d with
 | zero =>
   intro i n hd hi;have : i = w.length := by omega
   subst this;rw [nameGo, if_neg (Nat.lt_irrefl _), Nat.sub_self, Nat.add_zero]
 | succ d ih =>
   intro i n hd hi;have hlt : i < w.length := by omega
   have hb : by_ w i = w[i].toNat := by
    unfold by_;rw [List.getD_eq_getElem?_getD, List.getElem?_eq_getElem hlt]
    rfl
   have hr := h w[i] (List.getElem_mem hlt);rw [yP hlt (y6 (by omega)), if_neg, ih (i + 1) (n + 1) (by omega) (by omega)]
   ·congr 1
    omega
   ·unfold stopP letterP;rw [decide_eq_true (by omega)]
    simp
theorem UI {w : List UInt8} (h : lowB w = true) : Word w := by
 unfold lowB at h;simp only [Bool.and_eq_true, List.all_eq_true, decide_eq_true_eq] at h;have hg := low_go h.1 _ 0 0 rfl (Nat.zero_le _);exact ⟨by rw [hg], by rw [hg]; dsimp only; omega, by rw [hg]; dsimp only; omega, by omega⟩
theorem yL {w : List UInt8} (h : lowB w = true := by decide) : Lay true w [mk1 w] := wP (UI h)
def sideK (w : Int) : Tok := mk1 (if w = 0 then sMe else sFoe)
def callK (s : List UInt8) (w : Int) : List Tok := [mk1 s, mk3 sOpen, sideK w, mk3 sClose]
def leafK (op n who : Int) : List Tok :=
 if op = 0 then [mk2 n] else if op = 1 then callK sLife who else if op = 2 then callK sHand who else if op = 3 then callK sDeck who else if op = 4 then callK sUnits who
 else if op = 5 then [mk1 sMana, mk3 sOpen, mk1 sMe, mk3 sClose] else if op = 6 then [mk1 sCost, mk3 sOpen, mk1 sTop, mk3 sOpen, mk1 sMe, mk3 sClose, mk3 sClose] else [mk1 sPower, mk3 sOpen, mk1 sTarget, mk3 sClose]
def brK (br : Bool) (K : List Tok) : List Tok := if br then mk3 sOpen :: (K ++ [mk3 sClose]) else K
def numK : NumT → List Tok
 | .mk op n who [] => leafK op n who
 | .mk op _ _ [a, b] =>
   if op = 11 then mk1 sMin :: mk3 sOpen :: (numK a ++ mk3 sComma :: (numK b ++ [mk3 sClose]))
   else if op = 12 then mk1 sMax :: mk3 sOpen :: (numK a ++ mk3 sComma :: (numK b ++ [mk3 sClose]))
   else if op = 10 then brK (isSum a) (numK a) ++ mk3 sStar :: brK (isSum b || decide (opN b = 10)) (numK b)
   else if op = 8 then numK a ++ mk3 sPlus :: brK (isSum b) (numK b)
   else numK a ++ mk3 sMinus :: brK (isSum b) (numK b)
 | _ => []
termination_by structural x => x
theorem uZ (op n who : Int) : numK (.mk op n who []) = leafK op n who := by rw [numK]
theorem kE (n who : Int) (a b : NumT) : numK (.mk 11 n who [a, b]) = mk1 sMin :: mk3 sOpen :: (numK a ++ mk3 sComma :: (numK b ++ [mk3 sClose])) := by rw [numK]; rfl
theorem kF (n who : Int) (a b : NumT) : numK (.mk 12 n who [a, b]) = mk1 sMax :: mk3 sOpen :: (numK a ++ mk3 sComma :: (numK b ++ [mk3 sClose])) := by rw [numK]; rfl
theorem kD (n who : Int) (a b : NumT) : numK (.mk 10 n who [a, b]) = brK (isSum a) (numK a) ++ mk3 sStar :: brK (isSum b || decide (opN b = 10)) (numK b) := by rw [numK]; rfl
theorem kG (n who : Int) (a b : NumT) : numK (.mk 8 n who [a, b]) = numK a ++ mk3 sPlus :: brK (isSum b) (numK b) := by rw [numK]; rfl
theorem kC (n who : Int) (a b : NumT) : numK (.mk 9 n who [a, b]) = numK a ++ mk3 sMinus :: brK (isSum b) (numK b) := by rw [numK]; rfl
theorem Y0 {w : Int} {s : List UInt8} (h : sideP w = some s) : Lay true s [sideK w] := by
 unfold sideP at h;unfold sideK
 split at h
 ·rename_i h0
  cases h;rw [if_pos h0];exact yL
 ·rename_i h0
  split at h
  ·cases h;rw [if_neg h0];exact yL
  ·cases h
theorem U6 {w : Int} {s c : List UInt8} (hc : lowB c = true) (h : sideP w = some s) : Lay true (c ++ sOpen ++ s ++ sClose) (callK c w) :=
 ((((yL hc).tm wA).fm (Y0 h)).tm xe).weak
theorem Uz {op n who : Int} {s : List UInt8} (h : leafP op n who = some s) : Lay true s (leafK op n who) := by
 have side : ∀ {c : List UInt8}, lowB c = true → ((sideP who).map fun s => c ++ sOpen ++ s ++ sClose) = some s → Lay true s (callK c who) := by
  intro c hc h;cases hs : sideP who with
  | none => rw [hs] at h; cases h
  | some t => rw [hs] at h; cases h; exact U6 hc hs
 unfold leafP at h;unfold leafK
 split at h
 ·rename_i h0
  rw [if_pos h0]
  split at h
  ·rename_i h1
   cases h;exact Wr h1.2.1 h1.2.2
  ·cases h
 rename_i h0
 rw [if_neg h0]
 split at h
 ·cases h
 split at h
 ·rename_i h1; rw [if_pos h1]; exact side (by decide) h
 rename_i h1
 rw [if_neg h1]
 split at h
 ·rename_i h1; rw [if_pos h1]; exact side (by decide) h
 rename_i h2
 rw [if_neg h2]
 split at h
 ·rename_i h1; rw [if_pos h1]; exact side (by decide) h
 rename_i h3
 rw [if_neg h3]
 split at h
 ·rename_i h1; rw [if_pos h1]; exact side (by decide) h
 rename_i h4
 rw [if_neg h4]
 split at h
 ·cases h
 split at h
 ·rename_i h5
  rw [if_pos h5];cases h;exact ((((yL (w := sMana)).tm wA).fm (yL (w := sMe))).tm xe).weak
 rename_i h5
 rw [if_neg h5]
 split at h
 ·rename_i h6
  rw [if_pos h6];cases h;exact (((((((yL (w := sCost)).tm wA).fm (yL (w := sTop))).tm wA).fm (yL (w := sMe))).tm xe).fm xe).weak
 rename_i h6
 rw [if_neg h6]
 split at h
 ·cases h;exact ((((yL (w := sPower)).tm wA).fm (yL (w := sTarget))).tm xe).weak
 ·cases h
theorem uI {br : Bool} {d : Nat} {f : Nat → Option (List UInt8)} {K : List Tok} {s : List UInt8} (hf : ∀ d s, f d = some s → Lay true s K) (h : brP br d f = some s) : Lay true s (brK br K) := by
 rcases wU h with ⟨rfl, h1⟩ | ⟨rfl, -, t, h1, rfl⟩
 ·exact hf _ _ h1
 ·exact ((wA.fm (hf _ _ h1)).tm xe).weak
theorem Zs {w s t : List UInt8} {a b : List Tok} (hs : Lay true s a) (hw : Lay false (32 :: w ++ [32]) [mk3 w]) (ht : Lay true t b) : Lay true (sgnT w s t) (a ++ mk3 w :: b) := by
 have e : sgnT w s t = s ++ (32 :: (w ++ [32])) ++ t := by simp [sgnT]
 exact ((hs.tm (x := 32) (t := w ++ [32]) hw).fm ht).congr e (by simp)
theorem kM {w : List UInt8} (h : Lay false w [mk3 w]) : Lay false (32 :: w ++ [32]) [mk3 w] := ((wQ (b := 32) (by decide)).fm h).fm (wQ (b := 32) (by decide))
theorem Wo {w s t : List UInt8} {a b : List Tok} (hw : lowB w = true) (hs : Lay true s a) (ht : Lay true t b) : Lay true (minT w s t) (mk1 w :: mk3 sOpen :: (a ++ mk3 sComma :: (b ++ [mk3 sClose]))) := by
 exact (((((((yL hw).tm wA).fm hs).tm jA).fm (wQ (b := 32) (by decide))).fm ht).tm xe).weak.congr rfl (by simp)
theorem uY : ∀ {x : NumT} {d : Nat} {s : List UInt8}, numP x d = some s → Lay true s (numK x)
 | .mk op n who k, d, s, h => by
   rcases vC h with ⟨hk, h3⟩ | ⟨a, b, hk, -, -, h3⟩
   ·subst hk;rw [uZ];exact Uz h3
   ·have ia : ∀ d s, numP a d = some s → Lay true s (numK a) := fun d s h => uY h;have ib : ∀ d s, numP b d = some s → Lay true s (numK b) := fun d s h => uY h;subst hk;unfold twoP at h3
    split at h3
    ·rename_i ho
     subst ho;obtain ⟨u, v, h1, h2, rfl⟩ := zr h3;rw [kE];exact Wo (by decide) (ia _ _ (yQ h1).2) (ib _ _ (yQ h2).2)
    split at h3
    ·rename_i ho
     subst ho;obtain ⟨u, v, h1, h2, rfl⟩ := zr h3;rw [kF];exact Wo (by decide) (ia _ _ (yQ h1).2) (ib _ _ (yQ h2).2)
    split at h3
    ·rename_i ho
     subst ho;obtain ⟨u, v, h1, h2, rfl⟩ := zr h3;rw [kD];exact Zs (uI ia h1) (kM U2) (uI ib h2)
    split at h3
    ·rename_i ho
     subst ho;obtain ⟨u, v, h1, h2, rfl⟩ := zr h3;rw [kG];exact Zs (ia _ _ h1) (kM U4) (uI ib h2)
    split at h3
    ·rename_i ho
     subst ho;obtain ⟨u, v, h1, h2, rfl⟩ := zr h3;rw [kC];exact Zs (ia _ _ h1) (kM VU) (uI ib h2)
    ·cases h3
termination_by x => SizeOf.sizeOf x
decreasing_by
 all_goals
  subst hk
  simp
  omega
end Tp
namespace Tp
open Go Go.Eng Wd Kd
theorem zK {ws : List Wrd} {k : Tok} {K : List Tok} (h : ws.map tok = k :: K) : ∃ a ws', ws = ⟨k.kind, k.text, k.n, a⟩ :: ws' ∧ ws'.map tok = K := by
 cases ws with
 | nil => cases h
 | cons w r =>
   rw [List.map_cons] at h
   injection h with h1 h2
   subst h1;exact ⟨w.at_, r, rfl, h2⟩
theorem yS {ws : List Wrd} (h : ws.map tok = []) : ws = [] := List.map_eq_nil_iff.1 h
theorem yi {ws : List Wrd} {A B : List Tok} (h : ws.map tok = A ++ B) : ∃ u v, ws = u ++ v ∧ u.map tok = A ∧ v.map tok = B := List.map_eq_append_iff.1 h
theorem isW1 (s t : List UInt8) (n a : Int) (ts : List Wrd) : isW s (⟨1, t, n, a⟩ :: ts) = decide (t = s) := by unfold isW hd; rfl
theorem isW3 (s t : List UInt8) (n a : Int) (ts : List Wrd) : isW s (⟨3, t, n, a⟩ :: ts) = decide (t = s) := by unfold isW hd; rfl
section
variable {α : Type} {one : List Wrd → R α} {signs : List (List UInt8 × Int)} {put : Int → α → α → α} {x : α} {ts : List Wrd}
theorem wK {n : Nat} (hn : 0 < n) (h : signs.find? (fun s => isW s.1 ts) = none) : pRest one signs put n x ts = .ok x ts := by
 obtain ⟨k, rfl⟩ : ∃ k, n = k + 1 := ⟨n - 1, by omega⟩;rw [pRest, h]
theorem uX {n : Nat} {sg : List UInt8 × Int} (h : signs.find? (fun s => isW s.1 ts) = some sg) : pRest one signs put (n + 1) x ts = (one ts.tail).bind fun y ts => pRest one signs put n (put sg.2 x y) ts := by
 rw [pRest, h]
end
theorem no_sum {ts : List Wrd} (h1 : isW sPlus ts = false) (h2 : isW sMinus ts = false) : sumSigns.find? (fun s => isW s.1 ts) = none := by
 unfold sumSigns;rw [List.find?_cons, h1, List.find?_cons, h2]
 rfl
theorem Ur {ts : List Wrd} (h1 : isW sStar ts = false) : mulSigns.find? (fun s => isW s.1 ts) = none := by
 unfold mulSigns;rw [List.find?_cons, h1]
 rfl
structure NumPar (x : NumT) (d : Nat) : Prop where
 S : ∀ (ws rest : List Wrd) (n : Nat), ws.map tok = numK x → isW sStar rest = false → (ws ++ rest).length ≤ n → ∃ n', rest.length < n' ∧ pSum (n + 1) d (ws ++ rest) = pRest (pTerm (pSum n) (n + 1) d) sumSigns putN n' x rest
 T : isSum x = false → ∀ (ws rest : List Wrd) (N m : Nat), ws.map tok = numK x → (ws ++ rest).length < N → (ws ++ rest).length ≤ m → ∃ n', rest.length < n' ∧ pRow (pOne (pSum m) d) mulSigns putN N (ws ++ rest) = pRest (pOne (pSum m) d) mulSigns putN n' x rest
 O : isSum x = false → opN x ≠ 10 → ∀ (ws rest : List Wrd) (m : Nat), ws.map tok = numK x → (ws ++ rest).length ≤ m → pOne (pSum m) d (ws ++ rest) = .ok x rest
theorem jl {x : NumT} {d : Nat} (h : NumPar x d) {ws rest : List Wrd} {n : Nat} (hw : ws.map tok = numK x) (h1 : isW sStar rest = false) (h2 : isW sPlus rest = false) (h3 : isW sMinus rest = false) (hn : (ws ++ rest).length ≤ n) : pSum (n + 1) d (ws ++ rest) = .ok x rest := by
 obtain ⟨n', hl, e⟩ := h.S ws rest n hw h1 hn;rw [e, wK (by omega) (no_sum h2 h3)]
theorem br_one {x : NumT} {d : Nat} (h : NumPar x (d + 1)) (hd : d + 1 ≤ 8) {ws rest : List Wrd} {m : Nat} (hw : ws.map tok = brK true (numK x)) (hn : (ws ++ rest).length ≤ m) : pOne (pSum m) d (ws ++ rest) = .ok x rest := by
 obtain ⟨a, v, rfl, hv⟩ := zK hw;obtain ⟨u, c, rfl, hu, hc⟩ := yi hv;obtain ⟨b, c', rfl, hc'⟩ := zK hc;obtain rfl := yS hc';simp only [List.cons_append, List.length_cons, List.length_append, List.length_nil] at hn;obtain ⟨k, rfl⟩ : ∃ k, m = k + 1 := ⟨m - 1, by omega⟩;have hs := jl h (rest := ⟨3, sClose, 0, b⟩ :: rest) (n := k) hu rfl rfl rfl (by simp; omega)
 have e1 : pOne (pSum (k + 1)) d (⟨3, sOpen, 0, a⟩ :: (u ++ (⟨3, sClose, 0, b⟩ :: rest))) = (pBr (pSum (k + 1)) false d (⟨3, sOpen, 0, a⟩ :: (u ++ (⟨3, sClose, 0, b⟩ :: rest)))).bind fun x ts => .ok x.1 ts := by
  rfl
 have e2 : pBr (pSum (k + 1)) false d (⟨3, sOpen, 0, a⟩ :: (u ++ (⟨3, sClose, 0, b⟩ :: rest))) = .ok (x, plainN 0 0 0) rest := by
  rw [pBr, if_pos (show isW sOpen _ = true from rfl)];have e3 : pIn d (⟨3, sOpen, 0, a⟩ :: (u ++ (⟨3, sClose, 0, b⟩ :: rest))) = .ok () (⟨3, sOpen, 0, a⟩ :: (u ++ (⟨3, sClose, 0, b⟩ :: rest))) := by rw [pIn, if_neg (by omega)]
  rw [e3, R.bind];have e4 : must sOpen (⟨3, sOpen, 0, a⟩ :: (u ++ (⟨3, sClose, 0, b⟩ :: rest))) = .ok () (u ++ (⟨3, sClose, 0, b⟩ :: rest)) := by rfl
  rw [e4, R.bind, hs, R.bind, if_neg (by decide)];have e5 : must sClose (⟨3, sClose, 0, b⟩ :: rest) = .ok () rest := by rfl
  rw [e5, R.bind]
 show pOne (pSum (k + 1)) d (⟨3, sOpen, 0, a⟩ :: ((u ++ [⟨3, sClose, 0, b⟩]) ++ rest)) = _;rw [List.append_assoc];show pOne (pSum (k + 1)) d (⟨3, sOpen, 0, a⟩ :: (u ++ (⟨3, sClose, 0, b⟩ :: rest))) = _;rw [e1, e2, R.bind]
theorem Ws {x : NumT} {d : Nat} {br : Bool} {s : List UInt8} (h : ∀ d s, numP x d = some s → NumPar x d) (hb : brP br d (numP x) = some s) (hbr : br = false → isSum x = false ∧ opN x ≠ 10) {ws rest : List Wrd} {m : Nat} (hw : ws.map tok = brK br (numK x)) (hn : (ws ++ rest).length ≤ m) : pOne (pSum m) d (ws ++ rest) = .ok x rest := by
 rcases wU hb with ⟨rfl, h1⟩ | ⟨rfl, hd, t, h1, rfl⟩
 ·exact (h _ _ h1).O (hbr rfl).1 (hbr rfl).2 ws rest m hw hn
 ·exact br_one (h _ _ h1) hd hw hn
theorem We {one : List Wrd → R NumT} {N : Nat} {x : NumT} {ts rest : List Wrd} (h : one ts = .ok x rest) : pRow one mulSigns putN N ts = pRest one mulSigns putN N x rest := by
 rw [pRow, h, R.bind]
theorem Y3 {x : NumT} {d : Nat} {s : List UInt8} (h : ∀ d s, numP x d = some s → NumPar x d) (hb : brP (isSum x) d (numP x) = some s) {ws rest : List Wrd} {N m : Nat} (hw : ws.map tok = brK (isSum x) (numK x)) (hN : (ws ++ rest).length < N) (hn : (ws ++ rest).length ≤ m) :
  ∃ n', rest.length < n' ∧ pRow (pOne (pSum m) d) mulSigns putN N (ws ++ rest) = pRest (pOne (pSum m) d) mulSigns putN n' x rest := by
 cases hs : isSum x with
 | true =>
   rw [hs] at hb hw;refine ⟨N, by rw [List.length_append] at hN; omega, We (Ws h hb (fun e => by cases e) hw hn)⟩
 | false =>
   rw [hs] at hb hw;exact (h _ _ hb).T hs ws rest N m hw hN hn
theorem VV {x : NumT} {d : Nat} {s : List UInt8} (h : ∀ d s, numP x d = some s → NumPar x d) (hb : brP (isSum x) d (numP x) = some s) {ws rest : List Wrd} {n : Nat} (hw : ws.map tok = brK (isSum x) (numK x)) (h1 : isW sStar rest = false) (hn : (ws ++ rest).length ≤ n) : pTerm (pSum n) (n + 1) d (ws ++ rest) = .ok x rest := by
 obtain ⟨n', hl, e⟩ := Y3 (N := n + 1) h hb hw (by omega) hn;rw [pTerm, e, wK (by omega) (Ur h1)]
theorem Uy {op n who : Int} {s : List UInt8} (h : leafP op n who = some s) (d m : Nat) {ws : List Wrd} (rest : List Wrd) (hw : ws.map tok = leafK op n who) : pOne (pSum m) d (ws ++ rest) = .ok (.mk op n who []) rest := by
 have side : ∀ {c : List UInt8} {o : Int}, (sideP who).map (fun s => c ++ sOpen ++ s ++ sClose) = some s → who = 0 ∨ who = 1 := by
  intro c o h;unfold sideP at h
  split at h
  ·exact .inl ‹_›
  ·split at h
   ·exact .inr ‹_›
   ·cases h
 have four : ∀ {k : List UInt8}, who = 0 ∨ who = 1 → ws.map tok = callK k who → ∃ a b c e, ws = [⟨1, k, 0, a⟩, ⟨3, sOpen, 0, b⟩, ⟨1, if who = 0 then sMe else sFoe, 0, c⟩, ⟨3, sClose, 0, e⟩] := by
  intro k _ hw;obtain ⟨a, w1, rfl, g1⟩ := zK hw;obtain ⟨b, w2, rfl, g2⟩ := zK g1;obtain ⟨c, w3, rfl, g3⟩ := zK g2;obtain ⟨e, w4, rfl, g4⟩ := zK g3;obtain rfl := yS g4;exact ⟨a, b, c, e, rfl⟩
 unfold leafP at h;unfold leafK at hw
 split at h
 ·rename_i h0
  subst h0;rw [if_pos rfl] at hw
  split at h
  ·rename_i h1
   obtain ⟨rfl, -, -⟩ := h1;obtain ⟨a, w1, rfl, g1⟩ := zK hw;obtain rfl := yS g1
   rfl
  ·cases h
 rename_i h0
 rw [if_neg h0] at hw
 split at h
 ·cases h
 rename_i hn
 have hn : n = 0 := by omega
 subst hn
 split at h
 ·rename_i h1
  subst h1;rw [if_pos rfl] at hw;have hs := side (o := 1) h;obtain ⟨a, b, c, e, rfl⟩ := four hs hw;rcases hs with rfl | rfl <;> rfl
 rename_i h1
 rw [if_neg h1] at hw
 split at h
 ·rename_i h1
  subst h1;rw [if_pos rfl] at hw;have hs := side (o := 1) h;obtain ⟨a, b, c, e, rfl⟩ := four hs hw;rcases hs with rfl | rfl <;> rfl
 rename_i h2
 rw [if_neg h2] at hw
 split at h
 ·rename_i h1
  subst h1;rw [if_pos rfl] at hw;have hs := side (o := 1) h;obtain ⟨a, b, c, e, rfl⟩ := four hs hw;rcases hs with rfl | rfl <;> rfl
 rename_i h3
 rw [if_neg h3] at hw
 split at h
 ·rename_i h1
  subst h1;rw [if_pos rfl] at hw;have hs := side (o := 1) h;obtain ⟨a, b, c, e, rfl⟩ := four hs hw;rcases hs with rfl | rfl <;> rfl
 rename_i h4
 rw [if_neg h4] at hw
 split at h
 ·cases h
 rename_i hwho
 have hwho : who = 0 := by omega
 subst hwho
 split at h
 ·rename_i h5
  subst h5;rw [if_pos rfl] at hw;obtain ⟨a, w1, rfl, g1⟩ := zK hw;obtain ⟨b, w2, rfl, g2⟩ := zK g1;obtain ⟨c, w3, rfl, g3⟩ := zK g2;obtain ⟨e, w4, rfl, g4⟩ := zK g3;obtain rfl := yS g4
  rfl
 rename_i h5
 rw [if_neg h5] at hw
 split at h
 ·rename_i h6
  subst h6;rw [if_pos rfl] at hw;obtain ⟨a, w1, rfl, g1⟩ := zK hw;obtain ⟨b, w2, rfl, g2⟩ := zK g1;obtain ⟨c, w3, rfl, g3⟩ := zK g2;obtain ⟨e, w4, rfl, g4⟩ := zK g3;obtain ⟨f, w5, rfl, g5⟩ := zK g4;obtain ⟨g, w6, rfl, g6⟩ := zK g5;obtain ⟨i, w7, rfl, g7⟩ := zK g6;obtain rfl := yS g7
  rfl
 rename_i h6
 rw [if_neg h6] at hw
 split at h
 ·rename_i h7
  subst h7;obtain ⟨a, w1, rfl, g1⟩ := zK hw;obtain ⟨b, w2, rfl, g2⟩ := zK g1;obtain ⟨c, w3, rfl, g3⟩ := zK g2;obtain ⟨e, w4, rfl, g4⟩ := zK g3;obtain rfl := yS g4
  rfl
 ·cases h
theorem Wk {w : List UInt8} {op : Int} {a b : NumT} {d : Nat} (hw0 : (w = sMin ∧ op = 11) ∨ (w = sMax ∧ op = 12)) (ha : NumPar a (d + 1)) (hb : NumPar b (d + 1)) (hd : d + 1 ≤ 8) {ws rest : List Wrd} {m : Nat} (hw : ws.map tok = mk1 w :: mk3 sOpen :: (numK a ++ mk3 sComma :: (numK b ++ [mk3 sClose]))) (hn : (ws ++ rest).length ≤ m) : pOne (pSum m) d (ws ++ rest) = .ok (putN op a b) rest := by
 obtain ⟨p1, w1, rfl, g1⟩ := zK hw;obtain ⟨p2, w2, rfl, g2⟩ := zK g1;obtain ⟨u, w3, rfl, hu, g3⟩ := yi g2;obtain ⟨p3, w4, rfl, g4⟩ := zK g3;obtain ⟨v, w5, rfl, hv, g5⟩ := yi g4;obtain ⟨p4, w6, rfl, g6⟩ := zK g5;obtain rfl := yS g6;simp only [List.cons_append, List.length_cons, List.length_append, List.length_nil] at hn
 obtain ⟨k, rfl⟩ : ∃ k, m = k + 1 := ⟨m - 1, by omega⟩;have h1 := jl ha (rest := ⟨3, sComma, 0, p3⟩ :: (v ++ (⟨3, sClose, 0, p4⟩ :: rest))) (n := k) hu rfl rfl rfl (by simp; omega);have h2 := jl hb (rest := ⟨3, sClose, 0, p4⟩ :: rest) (n := k) hv rfl rfl rfl (by simp; omega);generalize hZ : u ++ (⟨3, sComma, 0, p3⟩ :: (v ++ (⟨3, sClose, 0, p4⟩ :: rest))) = Z at h1
 have hfull : (⟨1, w, 0, p1⟩ :: ⟨3, sOpen, 0, p2⟩ :: (u ++ (⟨3, sComma, 0, p3⟩ :: (v ++ [⟨3, sClose, 0, p4⟩])))) ++ rest = ⟨1, w, 0, p1⟩ :: ⟨3, sOpen, 0, p2⟩ :: Z := by rw [← hZ]; simp
 have e2 : pBr (pSum (k + 1)) true d (⟨3, sOpen, 0, p2⟩ :: Z) = .ok (a, b) rest := by
  rw [pBr, if_pos (show isW sOpen _ = true from rfl)];have e3 : pIn d (⟨3, sOpen, 0, p2⟩ :: Z) = .ok () (⟨3, sOpen, 0, p2⟩ :: Z) := by rw [pIn, if_neg (by omega)]
  have e4 : must sOpen (⟨3, sOpen, 0, p2⟩ :: Z) = .ok () Z := by rfl
  have e5 : ∀ ts, must sComma (⟨3, sComma, 0, p3⟩ :: ts) = .ok () ts := fun ts => by rfl
  have e6 : must sClose (⟨3, sClose, 0, p4⟩ :: rest) = .ok () rest := by rfl
  rw [e3, R.bind, e4, R.bind, h1, R.bind, if_pos rfl, e5, R.bind, h2, R.bind, e6, R.bind]
 show pOne (pSum (k + 1)) d ((⟨1, w, 0, p1⟩ :: ⟨3, sOpen, 0, p2⟩ :: (u ++ (⟨3, sComma, 0, p3⟩ :: (v ++ [⟨3, sClose, 0, p4⟩])))) ++ rest) = _;rw [hfull];rcases hw0 with ⟨rfl, rfl⟩ | ⟨rfl, rfl⟩
 ·have e1 : pOne (pSum (k + 1)) d (⟨1, sMin, 0, p1⟩ :: ⟨3, sOpen, 0, p2⟩ :: Z) = (pBr (pSum (k + 1)) true d (⟨3, sOpen, 0, p2⟩ :: Z)).bind fun x ts => .ok (putN 11 x.1 x.2) ts := rfl;rw [e1, e2, R.bind]
 ·have e1 : pOne (pSum (k + 1)) d (⟨1, sMax, 0, p1⟩ :: ⟨3, sOpen, 0, p2⟩ :: Z) = (pBr (pSum (k + 1)) true d (⟨3, sOpen, 0, p2⟩ :: Z)).bind fun x ts => .ok (putN 12 x.1 x.2) ts := rfl;rw [e1, e2, R.bind]
end Tp
namespace Tp
open Go Go.Eng Wd Kd
theorem Qw {x : NumT} {d : Nat} (hO : ∀ (ws rest : List Wrd) (m : Nat), ws.map tok = numK x → (ws ++ rest).length ≤ m → pOne (pSum m) d (ws ++ rest) = .ok x rest) (ws rest : List Wrd) (N m : Nat) (hw : ws.map tok = numK x) (hN : (ws ++ rest).length < N) (hm : (ws ++ rest).length ≤ m) :
  ∃ n', rest.length < n' ∧ pRow (pOne (pSum m) d) mulSigns putN N (ws ++ rest) = pRest (pOne (pSum m) d) mulSigns putN n' x rest :=
 ⟨N, by rw [List.length_append] at hN; omega, We (hO ws rest m hw hm)⟩
theorem Q5 {x : NumT} {d : Nat} (hT : ∀ (ws rest : List Wrd) (N m : Nat), ws.map tok = numK x → (ws ++ rest).length < N → (ws ++ rest).length ≤ m → ∃ n', rest.length < n' ∧ pRow (pOne (pSum m) d) mulSigns putN N (ws ++ rest) = pRest (pOne (pSum m) d) mulSigns putN n' x rest)
  (ws rest : List Wrd) (n : Nat) (hw : ws.map tok = numK x) (h1 : isW sStar rest = false) (hn : (ws ++ rest).length ≤ n) : ∃ n', rest.length < n' ∧ pSum (n + 1) d (ws ++ rest) = pRest (pTerm (pSum n) (n + 1) d) sumSigns putN n' x rest := by
 obtain ⟨k, hk, e⟩ := hT ws rest (n + 1) n hw (by omega) hn;refine ⟨n + 1, by rw [List.length_append] at hn; omega, ?_⟩;have e2 : pTerm (pSum n) (n + 1) d (ws ++ rest) = .ok x rest := by rw [pTerm, e, wK (by omega) (Ur h1)]
 rw [pSum, pRow, e2, R.bind]
theorem Zo {x : NumT} {d : Nat} (hO : ∀ (ws rest : List Wrd) (m : Nat), ws.map tok = numK x → (ws ++ rest).length ≤ m → pOne (pSum m) d (ws ++ rest) = .ok x rest) : NumPar x d :=
 ⟨Q5 (Qw hO), fun _ => Qw hO, fun _ _ => hO⟩
theorem par_mul {a b : NumT} {d : Nat} {u v : List UInt8} (ha : ∀ d s, numP a d = some s → NumPar a d) (hb : ∀ d s, numP b d = some s → NumPar b d) (h1 : brP (isSum a) d (numP a) = some u) (h2 : brP (isSum b || decide (opN b = 10)) d (numP b) = some v) : NumPar (putN 10 a b) d := by
 have hT : ∀ (ws rest : List Wrd) (N m : Nat), ws.map tok = numK (putN 10 a b) → (ws ++ rest).length < N → (ws ++ rest).length ≤ m → ∃ n', rest.length < n' ∧ pRow (pOne (pSum m) d) mulSigns putN N (ws ++ rest) = pRest (pOne (pSum m) d) mulSigns putN n' (putN 10 a b) rest := by
  intro ws rest N m hw hN hm;rw [show putN 10 a b = .mk 10 0 0 [a, b] from rfl, kD] at hw;obtain ⟨x, w1, rfl, hx, g1⟩ := yi hw;obtain ⟨p, y, rfl, hy⟩ := zK g1;rw [List.append_assoc, List.cons_append] at hN hm ⊢;obtain ⟨n1, hl, e⟩ := Y3 (rest := ⟨3, sStar, 0, p⟩ :: (y ++ rest)) ha h1 hx hN hm;obtain ⟨k, rfl⟩ : ∃ k, n1 = k + 1 := ⟨n1 - 1, by omega⟩
  simp only [List.length_cons, List.length_append] at hl hm
  have e2 := Ws (rest := rest) (m := m) hb h2 (fun e => by
   rw [Bool.or_eq_false_iff] at e
   exact ⟨e.1, of_decide_eq_false e.2⟩) hy (by rw [List.length_append]; omega)
  refine ⟨k, by omega, ?_⟩;show pRow (pOne (pSum m) d) mulSigns putN N (x ++ (⟨3, sStar, 0, p⟩ :: (y ++ rest))) = _;rw [e, uX (sg := (sStar, 10)) rfl];show (pOne (pSum m) d (y ++ rest)).bind _ = _;rw [e2, R.bind]
 exact ⟨Q5 hT, fun _ => hT, fun _ h => absurd rfl h⟩
theorem Wh {w : List UInt8} {o : Int} (hw0 : (w = sPlus ∧ o = 8) ∨ (w = sMinus ∧ o = 9)) {a b : NumT} {d : Nat} {v : List UInt8} (ha : NumPar a d) (hb : ∀ d s, numP b d = some s → NumPar b d) (h2 : brP (isSum b) d (numP b) = some v) : NumPar (putN o a b) d := by
 have hs : isSum (putN o a b) = true := by rcases hw0 with ⟨-, rfl⟩ | ⟨-, rfl⟩ <;> rfl
 refine ⟨fun ws rest n hw hst hn => ?_, fun h => (by rw [hs] at h; cases h), fun h => (by rw [hs] at h; cases h)⟩
 have hK : numK (putN o a b) = numK a ++ mk3 w :: brK (isSum b) (numK b) := by
  rcases hw0 with ⟨rfl, rfl⟩ | ⟨rfl, rfl⟩
  ·exact kG 0 0 a b
  ·exact kC 0 0 a b
 rw [hK] at hw;obtain ⟨x, w1, rfl, hx, g1⟩ := yi hw;obtain ⟨p, y, rfl, hy⟩ := zK g1;rw [List.append_assoc, List.cons_append] at hn ⊢;have hst2 : isW sStar ((⟨3, w, 0, p⟩ : Wrd) :: (y ++ rest)) = false := by rcases hw0 with ⟨rfl, -⟩ | ⟨rfl, -⟩ <;> rfl
 obtain ⟨n1, hl, e⟩ := ha.S x (⟨3, w, 0, p⟩ :: (y ++ rest)) n hx hst2 hn;obtain ⟨k, rfl⟩ : ∃ k, n1 = k + 1 := ⟨n1 - 1, by omega⟩;simp only [List.length_cons, List.length_append] at hl hn;have e2 := VV (rest := rest) (n := n) hb h2 hy hst (by rw [List.length_append]; omega)
 have hf : sumSigns.find? (fun s => isW s.1 ((⟨3, w, 0, p⟩ : Wrd) :: (y ++ rest))) = some (w, o) := by rcases hw0 with ⟨rfl, rfl⟩ | ⟨rfl, rfl⟩ <;> rfl
 refine ⟨k, by omega, ?_⟩;show pSum (n + 1) d (x ++ (⟨3, w, 0, p⟩ :: (y ++ rest))) = _;rw [e, uX hf];show (pTerm (pSum n) (n + 1) d (y ++ rest)).bind _ = _;rw [e2, R.bind]
theorem Zp : ∀ (x : NumT) (d : Nat) (s : List UInt8), numP x d = some s → NumPar x d
 | .mk op n who k, d, s, h => by
   rcases vC h with ⟨hk, h3⟩ | ⟨a, b, hk, hn0, hw0, h3⟩
   ·subst hk;exact Zo fun ws rest m hw _ => Uy h3 d m rest (by rw [← uZ]; exact hw)
   ·have ia : ∀ d s, numP a d = some s → NumPar a d := fun d s h => Zp a d s h;have ib : ∀ d s, numP b d = some s → NumPar b d := fun d s h => Zp b d s h;subst hk hn0 hw0;unfold twoP at h3
    split at h3
    ·rename_i ho
     subst ho;obtain ⟨u, v, h1, h2, rfl⟩ := zr h3;exact Zo fun ws rest m hw hm => Wk (.inl ⟨rfl, rfl⟩) (ia _ _ (yQ h1).2) (ib _ _ (yQ h2).2) (yQ h1).1 (by rw [← kE 0 0 a b]; exact hw) hm
    split at h3
    ·rename_i ho
     subst ho;obtain ⟨u, v, h1, h2, rfl⟩ := zr h3;exact Zo fun ws rest m hw hm => Wk (.inr ⟨rfl, rfl⟩) (ia _ _ (yQ h1).2) (ib _ _ (yQ h2).2) (yQ h1).1 (by rw [← kF 0 0 a b]; exact hw) hm
    split at h3
    ·rename_i ho
     subst ho;obtain ⟨u, v, h1, h2, rfl⟩ := zr h3;exact par_mul ia ib h1 h2
    split at h3
    ·rename_i ho
     subst ho;obtain ⟨u, v, h1, h2, rfl⟩ := zr h3;exact Wh (.inl ⟨rfl, rfl⟩) (ia _ _ h1) ib h2
    split at h3
    ·rename_i ho
     subst ho;obtain ⟨u, v, h1, h2, rfl⟩ := zr h3;exact Wh (.inr ⟨rfl, rfl⟩) (ia _ _ h1) ib h2
    ·cases h3
termination_by x => SizeOf.sizeOf x
decreasing_by
 all_goals
  subst hk
  simp
  omega
theorem qU {x : NumT} {d : Nat} {s : List UInt8} (h : numP x d = some s) {ws rest : List Wrd} {n : Nat} (hw : ws.map tok = numK x) (h1 : isW sStar rest = false) (h2 : isW sPlus rest = false) (h3 : isW sMinus rest = false) (hn : (ws ++ rest).length ≤ n) : pSum (n + 1) d (ws ++ rest) = .ok x rest :=
 jl (Zp x d s h) hw h1 h2 h3 hn
end Tp
namespace Tp
open Go Go.Eng Wd Kd
def cmpS (op : Int) : List UInt8 := if op = 0 then sLt else if op = 1 then sLe else sEq
def condK : CondT → List Tok
 | .mk op _ _ [a, b] [] => numK a ++ mk3 (cmpS op) :: numK b
 | .mk _ who name [] [] => [mk1 sHolds, mk3 sOpen, sideK who, mk3 sComma, mk1 name, mk3 sClose]
 | .mk _ _ _ [] [k] => mk1 sNot :: brK (decide (opC k = 4) || decide (opC k = 5)) (condK k)
 | .mk op _ _ [] [a, b] =>
   if op = 5 then condK a ++ mk1 sOr :: brK (decide (opC b = 5)) (condK b)
   else brK (decide (opC a = 5)) (condK a) ++ mk1 sAnd :: brK (decide (opC b = 5) || decide (opC b = 4)) (condK b)
 | _ => []
termination_by structural x => x
theorem jO (op who : Int) (name : List UInt8) (a b : NumT) : condK (.mk op who name [a, b] []) = numK a ++ mk3 (cmpS op) :: numK b := by rw [condK]
theorem uG (op who : Int) (name : List UInt8) : condK (.mk op who name [] []) = [mk1 sHolds, mk3 sOpen, sideK who, mk3 sComma, mk1 name, mk3 sClose] := by rw [condK]
theorem jN (op who : Int) (name : List UInt8) (k : CondT) : condK (.mk op who name [] [k]) = mk1 sNot :: brK (decide (opC k = 4) || decide (opC k = 5)) (condK k) := by rw [condK]
theorem kZ (who : Int) (name : List UInt8) (a b : CondT) : condK (.mk 5 who name [] [a, b]) = condK a ++ mk1 sOr :: brK (decide (opC b = 5)) (condK b) := by rw [condK]; rfl
theorem jP (who : Int) (name : List UInt8) (a b : CondT) : condK (.mk 4 who name [] [a, b]) = brK (decide (opC a = 5)) (condK a) ++ mk1 sAnd :: brK (decide (opC b = 5) || decide (opC b = 4)) (condK b) := by rw [condK]; rfl
theorem kK {w s t : List UInt8} {k : Tok} {a b : List Tok} (hs : Lay true s a) (hw : Lay false (32 :: w ++ [32]) [k]) (ht : Lay true t b) : Lay true (sgnT w s t) (a ++ k :: b) := by
 have e : sgnT w s t = s ++ (32 :: (w ++ [32])) ++ t := by simp [sgnT]
 exact ((hs.tm (x := 32) (t := w ++ [32]) hw).fm ht).congr e (by simp)
theorem Wp {w : List UInt8} (h : lowB w = true) : Lay false (32 :: w ++ [32]) [mk1 w] := ((wQ (b := 32) (by decide)).fm (yL h)).tm (wQ (b := 32) (by decide))
theorem lay_cmp {op : Int} {w : List UInt8} (hw : (op = 0 ∧ w = sLt) ∨ (op = 1 ∧ w = sLe) ∨ (op = 2 ∧ w = sEq)) : Lay false (32 :: w ++ [32]) [mk3 (cmpS op)] := by
 rcases hw with ⟨rfl, rfl⟩ | ⟨rfl, rfl⟩ | ⟨rfl, rfl⟩
 ·exact ((wQ (b := 32) (by decide)).fm lay_lt).congr rfl rfl
 ·exact (kM lay_le).congr rfl rfl
 ·exact (kM lay_eq).congr rfl rfl
theorem XG : ∀ {x : CondT} {d : Nat} {s : List UInt8}, condP x d = some s → Lay true s (condK x)
 | .mk op who name ns ks, d, s, h => by
   have hk : ∀ k ∈ ks, ∀ d s, condP k d = some s → Lay true s (condK k) := fun k _ d s h => XG h;have hc := xm h;clear h;generalize hx : CondT.mk op who name ns ks = x at hc;cases hc with
   | cmp hw ha hb =>
     cases hx;rw [jO];exact kK (uY ha) (lay_cmp hw) (uY hb)
   | holds hn hs =>
     cases hx;rw [uG];exact (((((((yL (w := sHolds)).tm wA).fm (Y0 hs)).tm jA).fm (wQ (b := 32) (by decide))).fm (wP (xF hn))).tm xe).weak
   | not hd h1 =>
     cases hx;rw [jN];exact ((yL (w := sNot)).tm (wQ (b := 32) (by decide))).fm (uI (hk _ (.head _)) h1)
   | or ha hb =>
     cases hx;rw [kZ];exact kK (hk _ (.head _) _ _ ha) (Wp (by decide)) (uI (hk _ (.tail _ (.head _))) hb)
   | and ha hb =>
     cases hx;rw [jP];exact kK (uI (hk _ (.head _)) ha) (Wp (by decide)) (uI (hk _ (.tail _ (.head _))) hb)
termination_by x => SizeOf.sizeOf x
decreasing_by
 have := List.sizeOf_lt_of_mem ‹k ∈ ks›
 simp
 omega
def Bal (K : List Tok) : Prop := ∀ (d : Int) (ws rest : List Wrd), 1 ≤ d → ws.map tok = K → outer d (ws ++ rest) = outer d rest
theorem Bal.nil : Bal [] := fun d ws rest _ hw => by obtain rfl := yS hw; rfl
theorem Bal.app {a b : List Tok} (h : Bal a) (k : Bal b) : Bal (a ++ b) := fun d ws rest hd hw => by
 obtain ⟨u, v, rfl, hu, hv⟩ := yi hw;rw [List.append_assoc, h d u _ hd hu, k d v _ hd hv]
theorem X0 {d : Int} {t : List UInt8} {n a : Int} {k : Int} {ts : List Wrd} (hk : k ≠ 3) : outer d (⟨k, t, n, a⟩ :: ts) = outer d ts := by
 rw [outer, if_pos hk]
theorem xU {d : Int} {t : List UInt8} {n a : Int} {ts : List Wrd} : outer d (⟨3, t, n, a⟩ :: ts) = if 0 < (if t = sOpen then d + 1 else if t = sClose then d - 1 else d) then outer (if t = sOpen then d + 1 else if t = sClose then d - 1 else d) ts else if (hd ts).kind ≠ 3 then true else !decide ((hd ts).text ∈ [sLt, sLe, sEq, sPlus, sMinus, sStar]) := by
 rw [outer, if_neg (fun h => h rfl)]
theorem wF : (1 : Int) ≠ 3 := by decide
theorem k2_ne : (2 : Int) ≠ 3 := by decide
theorem Bal.word (k : Tok) (hk : k.kind ≠ 3) : Bal [k] := fun d ws rest _ hw => by
 obtain ⟨a, w1, rfl, g1⟩ := zK hw;obtain rfl := yS g1;exact X0 hk
theorem Bal.mark {m : List UInt8} (h1 : m ≠ sOpen) (h2 : m ≠ sClose) : Bal [mk3 m] := fun d ws rest hd hw => by
 obtain ⟨a, w1, rfl, g1⟩ := zK hw;obtain rfl := yS g1;show outer d (⟨3, m, 0, a⟩ :: rest) = _;rw [xU, if_neg h1, if_neg h2, if_pos (by omega)]
theorem Bal.cons {k : Tok} {K : List Tok} (h : Bal [k]) (h' : Bal K) : Bal (k :: K) := h.app h'
theorem Bal.br {K : List Tok} (h : Bal K) : Bal (mk3 sOpen :: (K ++ [mk3 sClose])) := fun d ws rest hd hw => by
 obtain ⟨a, w1, rfl, g1⟩ := zK hw;obtain ⟨u, v, rfl, hu, g2⟩ := yi g1;obtain ⟨b, w2, rfl, g3⟩ := zK g2;obtain rfl := yS g3;show outer d (⟨3, sOpen, 0, a⟩ :: ((u ++ [⟨3, sClose, 0, b⟩]) ++ rest)) = _;rw [xU, if_pos rfl, if_pos (by omega), List.append_assoc, h (d + 1) u _ (by omega) hu];show outer (d + 1) (⟨3, sClose, 0, b⟩ :: rest) = _
 rw [xU, if_neg (show ¬ sClose = sOpen by decide), if_pos (show sClose = sClose from rfl), show d + 1 - 1 = d by omega, if_pos (by omega)]
theorem Bal.brK {br : Bool} {K : List Tok} (h : Bal K) : Bal (brK br K) := by
 cases br with
 | true => exact h.br
 | false => exact h
theorem Bal.call (s : List UInt8) (w : Int) : Bal (callK s w) := (Bal.word (mk1 s) wF).cons ((Bal.word (sideK w) wF).br)
theorem U1 (op n who : Int) : Bal (leafK op n who) := by
 unfold leafK
 split
 ·exact Bal.word _ k2_ne
 split
 ·exact Bal.call _ _
 split
 ·exact Bal.call _ _
 split
 ·exact Bal.call _ _
 split
 ·exact Bal.call _ _
 split
 ·exact (Bal.word (mk1 sMana) wF).cons ((Bal.word (mk1 sMe) wF).br)
 split
 ·exact (Bal.word (mk1 sCost) wF).cons ((((Bal.word (mk1 sTop) wF).cons ((Bal.word (mk1 sMe) wF).br))).br)
 ·exact (Bal.word (mk1 sPower) wF).cons ((Bal.word (mk1 sTarget) wF).br)
theorem jm : ∀ (x : NumT), Bal (numK x)
 | .mk op n who k => by
   have ih : ∀ a ∈ k, Bal (numK a) := fun a _ => jm a
   match k, ih with
   | [], _ => rw [uZ]; exact U1 op n who
   | [a, b], ih =>
     have ha := ih a (.head _);have hb := ih b (.tail _ (.head _))
     have hm : ∀ w, Bal (mk1 w :: mk3 sOpen :: (numK a ++ mk3 sComma :: (numK b ++ [mk3 sClose]))) := fun w => by
      have h1 := (ha.app ((Bal.mark (m := sComma) (by decide) (by decide)).cons hb)).br;rw [List.append_assoc, List.cons_append] at h1;exact (Bal.word (mk1 w) wF).cons h1
     rw [numK]
     split
     ·exact hm _
     split
     ·exact hm _
     split
     ·exact ha.brK.app ((Bal.mark (by decide) (by decide)).cons hb.brK)
     split
     ·exact ha.app ((Bal.mark (by decide) (by decide)).cons hb.brK)
     ·exact ha.app ((Bal.mark (by decide) (by decide)).cons hb.brK)
   | [a], _ => rw [numK]; exact Bal.nil; all_goals (intros; simp_all)
   | a :: b :: c :: r, _ => rw [numK]; exact Bal.nil; all_goals (intros; simp_all)
termination_by x => SizeOf.sizeOf x
decreasing_by
 have := List.sizeOf_lt_of_mem ‹a ∈ k›
 simp
 omega
theorem XH : ∀ {x : CondT} {d : Nat} {s : List UInt8}, condP x d = some s → Bal (condK x)
 | .mk op who name ns ks, d, s, h => by
   have hk : ∀ k ∈ ks, ∀ d s, condP k d = some s → Bal (condK k) := fun k _ d s h => XH h
   have hb : ∀ {br : Bool} {k : CondT} {d : Nat} {s : List UInt8}, k ∈ ks → brP br d (condP k) = some s → Bal (brK br (condK k)) := fun {br k d s} hm h => by
    rcases wU h with ⟨rfl, h1⟩ | ⟨rfl, -, t, h1, rfl⟩
    ·exact hk _ hm _ _ h1
    ·exact (hk _ hm _ _ h1).br
   have hc := xm h;clear h;generalize hx : CondT.mk op who name ns ks = x at hc;cases hc with
   | @cmp o w a b d u v hw _ _ =>
     cases hx;rw [jO];refine (jm a).app ((Bal.mark ?_ ?_).cons (jm b))
     ·rcases hw with ⟨rfl, -⟩ | ⟨rfl, -⟩ | ⟨rfl, -⟩ <;> decide
     ·rcases hw with ⟨rfl, -⟩ | ⟨rfl, -⟩ | ⟨rfl, -⟩ <;> decide
   | holds hn hs =>
     cases hx;rw [uG];exact (Bal.word (mk1 sHolds) wF).cons (((Bal.word (sideK who) wF).cons ((Bal.mark (m := sComma) (by decide) (by decide)).cons (Bal.word (mk1 name) wF))).br)
   | not hd h1 =>
     cases hx;rw [jN];exact (Bal.word (mk1 sNot) wF).cons (hb (.head _) h1)
   | or ha hb2 =>
     cases hx;rw [kZ];exact (hk _ (.head _) _ _ ha).app ((Bal.word (mk1 sOr) wF).cons (hb (.tail _ (.head _)) hb2))
   | and ha hb2 =>
     cases hx;rw [jP];exact (hb (.head _) ha).app ((Bal.word (mk1 sAnd) wF).cons (hb (.tail _ (.head _)) hb2))
termination_by x => SizeOf.sizeOf x
decreasing_by
 have := List.sizeOf_lt_of_mem ‹k ∈ ks›
 simp
 omega
end Tp
namespace Tp
open Go Go.Eng Wd Kd
def folC (ts : List Wrd) : Prop := ∀ s ∈ [sLt, sLe, sEq, sPlus, sMinus, sStar], isW s ts = false
theorem folC.mark {t : List UInt8} {n a : Int} {ts : List Wrd} (h : t ∉ [sLt, sLe, sEq, sPlus, sMinus, sStar]) : folC (⟨3, t, n, a⟩ :: ts) := fun s hs => by
 rw [isW3];exact decide_eq_false (fun e => h (e ▸ hs))
theorem folC.word {t : List UInt8} {n a : Int} {ts : List Wrd} (h : t ∉ [sLt, sLe, sEq, sPlus, sMinus, sStar]) : folC (⟨1, t, n, a⟩ :: ts) := fun s hs => by
 rw [isW1];exact decide_eq_false (fun e => h (e ▸ hs))
theorem Ul {K : List Tok} {u rest : List Wrd} {a b : Int} (hK : Bal K) (hu : u.map tok = K) (hf : folC rest) : outer 0 (⟨3, sOpen, 0, a⟩ :: (u ++ (⟨3, sClose, 0, b⟩ :: rest))) = true := by
 rw [xU, if_pos (show sOpen = sOpen from rfl), if_pos (by omega), hK (0 + 1) u _ (by omega) hu, xU, if_neg (show ¬ sClose = sOpen by decide), if_pos (show sClose = sClose from rfl), if_neg (by omega)];by_cases h3 : (hd rest).kind ≠ 3
 ·rw [if_pos h3]
 ·rw [if_neg h3];have h3 : (hd rest).kind = 3 := by omega
  rw [decide_eq_false]
  ·rfl
  ·intro hm;have := hf _ hm;unfold isW at this;rw [h3, decide_eq_true (show (hd rest).text = (hd rest).text from rfl)] at this;exact absurd this (by decide)
theorem VM {K1 : List Tok} {u r : List Wrd} {a b c : Int} (hK : Bal K1) (hu : u.map tok = K1) : outer 0 (⟨3, sOpen, 0, a⟩ :: (u ++ (⟨3, sClose, 0, b⟩ :: ⟨3, sStar, 0, c⟩ :: r))) = false := by
 rw [xU, if_pos (show sOpen = sOpen from rfl), if_pos (by omega), hK (0 + 1) u _ (by omega) hu, xU, if_neg (show ¬ sClose = sOpen by decide), if_pos (show sClose = sClose from rfl), if_neg (by omega)]
 rfl
inductive HeadN : List Tok → Prop
 | num (n : Int) (K : List Tok) : HeadN (mk2 n :: K)
 | word (t : List UInt8) (K : List Tok) (h : t ≠ sNot ∧ t ≠ sHolds ∧ t ≠ sOpen) : HeadN (mk1 t :: K)
 | br (K1 K2 : List Tok) (h : Bal K1) : HeadN (mk3 sOpen :: (K1 ++ mk3 sClose :: mk3 sStar :: K2))
theorem HeadN.app {K : List Tok} (h : HeadN K) (X : List Tok) : HeadN (K ++ X) := by
 cases h with
 | num n K => exact .num n _
 | word t K h => exact .word t _ h
 | br K1 K2 h =>
   have : mk3 sOpen :: (K1 ++ mk3 sClose :: mk3 sStar :: K2) ++ X = mk3 sOpen :: (K1 ++ mk3 sClose :: mk3 sStar :: (K2 ++ X)) := by simp
   rw [this];exact .br K1 _ h
theorem VQ (op n who : Int) : HeadN (leafK op n who) := by
 unfold leafK
 split
 ·exact .num _ _
 split
 ·exact .word _ _ (by decide)
 split
 ·exact .word _ _ (by decide)
 split
 ·exact .word _ _ (by decide)
 split
 ·exact .word _ _ (by decide)
 split
 ·exact .word _ _ (by decide)
 split
 ·exact .word _ _ (by decide)
 ·exact .word _ _ (by decide)
theorem Yu : ∀ {x : NumT} {d : Nat} {s : List UInt8}, numP x d = some s → HeadN (numK x)
 | .mk op n who k, d, s, h => by
   rcases vC h with ⟨hk, h3⟩ | ⟨a, b, hk, hn0, hw0, h3⟩
   ·subst hk;rw [uZ];exact VQ _ _ _
   ·have ia : ∀ d s, numP a d = some s → HeadN (numK a) := fun d s h => Yu h;subst hk hn0 hw0;unfold twoP at h3
    split at h3
    ·rename_i ho
     subst ho;rw [kE];exact .word _ _ (by decide)
    split at h3
    ·rename_i ho
     subst ho;rw [kF];exact .word _ _ (by decide)
    split at h3
    ·rename_i ho
     subst ho;obtain ⟨u, v, h1, h2, rfl⟩ := zr h3;rw [kD];cases hs : isSum a with
     | true =>
       have e : brK true (numK a) ++ mk3 sStar :: brK (isSum b || decide (opN b = 10)) (numK b) = mk3 sOpen :: (numK a ++ mk3 sClose :: mk3 sStar :: brK (isSum b || decide (opN b = 10)) (numK b)) := by simp [brK]
       rw [e];exact .br _ _ (jm a)
     | false =>
       rw [hs] at h1;exact (ia _ _ h1).app _
    split at h3
    ·rename_i ho
     subst ho;obtain ⟨u, v, h1, h2, rfl⟩ := zr h3;rw [kG];exact (ia _ _ h1).app _
    split at h3
    ·rename_i ho
     subst ho;obtain ⟨u, v, h1, h2, rfl⟩ := zr h3;rw [kC];exact (ia _ _ h1).app _
    ·cases h3
termination_by x => SizeOf.sizeOf x
decreasing_by
 subst hk
 simp
 omega
theorem HeadN.test {K : List Tok} (h : HeadN K) {ws : List Wrd} (hw : ws.map tok = K) (r : List Wrd) : isW sNot (ws ++ r) = false ∧ isW sHolds (ws ++ r) = false ∧ (isW sOpen (ws ++ r) && outer 0 (ws ++ r)) = false := by
 cases h with
 | num n K =>
   obtain ⟨a, w1, rfl, g1⟩ := zK hw;exact ⟨rfl, rfl, rfl⟩
 | word t K h =>
   obtain ⟨a, w1, rfl, g1⟩ := zK hw;refine ⟨?_, ?_, ?_⟩
   ·show isW sNot (⟨1, t, 0, a⟩ :: (w1 ++ r)) = false;rw [isW1]; exact decide_eq_false h.1
   ·show isW sHolds (⟨1, t, 0, a⟩ :: (w1 ++ r)) = false;rw [isW1]; exact decide_eq_false h.2.1
   ·show (isW sOpen (⟨1, t, 0, a⟩ :: (w1 ++ r)) && _) = false;rw [isW1, decide_eq_false h.2.2]; rfl
 | br K1 K2 h =>
   obtain ⟨a, w1, rfl, g1⟩ := zK hw;obtain ⟨u, w2, rfl, hu, g2⟩ := yi g1;obtain ⟨b, w3, rfl, g3⟩ := zK g2;obtain ⟨c, w4, rfl, g4⟩ := zK g3;refine ⟨rfl, rfl, ?_⟩;have e := VM (a := a) (b := b) (c := c) (r := w4 ++ r) h hu;show (isW sOpen _ && outer 0 (⟨3, sOpen, 0, a⟩ :: ((u ++ (⟨3, sClose, 0, b⟩ :: ⟨3, sStar, 0, c⟩ :: w4)) ++ r))) = false;rw [List.append_assoc]
   show (isW sOpen _ && outer 0 (⟨3, sOpen, 0, a⟩ :: (u ++ (⟨3, sClose, 0, b⟩ :: ⟨3, sStar, 0, c⟩ :: (w4 ++ r))))) = false;rw [e, Bool.and_false]
structure CondPar (x : CondT) (d : Nat) : Prop where
 C : ∀ (ws rest : List Wrd) (n : Nat), ws.map tok = condK x → folC rest → isW sAnd rest = false → (ws ++ rest).length ≤ n → ∃ n', rest.length < n' ∧ pCond (n + 1) d (ws ++ rest) = pRest (pBoth (pCond n) (n + 1) d) orSigns putC n' x rest
 B : opC x ≠ 5 → ∀ (ws rest : List Wrd) (N K m : Nat), ws.map tok = condK x → folC rest → (ws ++ rest).length < N → (ws ++ rest).length ≤ m → (ws ++ rest).length < K → ∃ n', rest.length < n' ∧ pRow (pTest (pSum K) (pCond m) K d) andSigns putC N (ws ++ rest) = pRest (pTest (pSum K) (pCond m) K d) andSigns putC n' x rest
 O : opC x ≠ 5 → opC x ≠ 4 → ∀ (ws rest : List Wrd) (K m j : Nat), ws.map tok = condK x → folC rest → (ws ++ rest).length < j → (ws ++ rest).length ≤ m → (ws ++ rest).length < K → pTest (pSum K) (pCond m) j d (ws ++ rest) = .ok x rest
theorem no_or {ts : List Wrd} (h1 : isW sOr ts = false) : orSigns.find? (fun s => isW s.1 ts) = none := by
 unfold orSigns;rw [List.find?_cons, h1]
 rfl
theorem Us {ts : List Wrd} (h1 : isW sAnd ts = false) : andSigns.find? (fun s => isW s.1 ts) = none := by
 unfold andSigns;rw [List.find?_cons, h1]
 rfl
theorem ZO {x : CondT} {d : Nat} (h : CondPar x d) {ws rest : List Wrd} {n : Nat} (hw : ws.map tok = condK x) (hf : folC rest) (h1 : isW sAnd rest = false) (h2 : isW sOr rest = false) (hn : (ws ++ rest).length ≤ n) : pCond (n + 1) d (ws ++ rest) = .ok x rest := by
 obtain ⟨n', hl, e⟩ := h.C ws rest n hw hf h1 hn;rw [e, wK (by omega) (no_or h2)]
theorem xu (s : List UInt8) (a : Int) (ts : List Wrd) : must s (⟨3, s, 0, a⟩ :: ts) = .ok () ts := by
 rw [must, isW3, decide_eq_true (show s = s from rfl), if_pos rfl]
 rfl
theorem Uv (s : List UInt8) (a : Int) (ts : List Wrd) : must s (⟨1, s, 0, a⟩ :: ts) = .ok () ts := by
 rw [must, isW1, decide_eq_true (show s = s from rfl), if_pos rfl]
 rfl
theorem Xz {d : Nat} (h : d + 1 ≤ 8) (ts : List Wrd) : pIn d ts = .ok () ts := by rw [pIn, if_neg (by omega)]
theorem br_test {x : CondT} {d : Nat} (h : CondPar x (d + 1)) (hb : Bal (condK x)) (hd : d + 1 ≤ 8) {ws rest : List Wrd} {K m j : Nat} (hw : ws.map tok = brK true (condK x)) (hf : folC rest) (hj : (ws ++ rest).length < j) (hm : (ws ++ rest).length ≤ m) : pTest (pSum K) (pCond m) j d (ws ++ rest) = .ok x rest := by
 obtain ⟨a, v, rfl, hv⟩ := zK hw;obtain ⟨u, c, rfl, hu, hc⟩ := yi hv;obtain ⟨b, c', rfl, hc'⟩ := zK hc;obtain rfl := yS hc';simp only [List.cons_append, List.length_cons, List.length_append, List.length_nil] at hm hj;obtain ⟨k, rfl⟩ : ∃ k, m = k + 1 := ⟨m - 1, by omega⟩;obtain ⟨i, rfl⟩ : ∃ i, j = i + 1 := ⟨j - 1, by omega⟩
 have hs := ZO h (rest := ⟨3, sClose, 0, b⟩ :: rest) (n := k) hu (folC.mark (by decide)) rfl rfl (by simp; omega);have ho := Ul (a := a) (b := b) hb hu hf;generalize hZ : u ++ (⟨3, sClose, 0, b⟩ :: rest) = Z at hs ho;have e0 : (⟨3, sOpen, 0, a⟩ :: (u ++ [⟨3, sClose, 0, b⟩])) ++ rest = (⟨3, sOpen, 0, a⟩ :: Z : List Wrd) := by rw [← hZ]; simp
 show pTest (pSum K) (pCond (k + 1)) (i + 1) d ((⟨3, sOpen, 0, a⟩ :: (u ++ [⟨3, sClose, 0, b⟩])) ++ rest) = _;rw [e0, pTest, if_neg (by rw [show isW sNot (⟨3, sOpen, 0, a⟩ :: Z) = false from rfl]; decide), ho, show isW sOpen (⟨3, sOpen, 0, a⟩ :: Z) = true from rfl, if_pos (show (true && true) = true from rfl), Xz hd, R.bind];show (pCond (k + 1) (d + 1) Z).bind _ = _
 rw [hs, R.bind, xu, R.bind]
theorem kN {x : CondT} {d : Nat} {br : Bool} {s : List UInt8} (h : ∀ d s, condP x d = some s → CondPar x d) (hb : brP br d (condP x) = some s) (hbr : br = false → opC x ≠ 5 ∧ opC x ≠ 4) {ws rest : List Wrd} {K m j : Nat} (hw : ws.map tok = brK br (condK x)) (hf : folC rest) (hj : (ws ++ rest).length < j) (hm : (ws ++ rest).length ≤ m) (hK : (ws ++ rest).length < K) : pTest (pSum K) (pCond m) j d (ws ++ rest) = .ok x rest := by
 rcases wU hb with ⟨rfl, h1⟩ | ⟨rfl, hd, t, h1, rfl⟩
 ·exact (h _ _ h1).O (hbr rfl).1 (hbr rfl).2 ws rest K m j hw hf hj hm hK
 ·exact br_test (h _ _ h1) (XH h1) hd hw hf hj hm
theorem Y4 {x : CondT} {d : Nat} {s : List UInt8} (h : ∀ d s, condP x d = some s → CondPar x d) (hb : brP (decide (opC x = 5)) d (condP x) = some s) {ws rest : List Wrd} {N K m : Nat} (hw : ws.map tok = brK (decide (opC x = 5)) (condK x)) (hf : folC rest) (hN : (ws ++ rest).length < N) (hm : (ws ++ rest).length ≤ m) (hK : (ws ++ rest).length < K) :
  ∃ n', rest.length < n' ∧ pRow (pTest (pSum K) (pCond m) K d) andSigns putC N (ws ++ rest) = pRest (pTest (pSum K) (pCond m) K d) andSigns putC n' x rest := by
 by_cases h5 : opC x = 5
 ·rw [decide_eq_true h5] at hb hw;refine ⟨N, by rw [List.length_append] at hN; omega, ?_⟩;rw [pRow, kN h hb (fun e => by cases e) hw hf hK hm hK, R.bind]
 ·rw [decide_eq_false h5] at hb hw;exact (h _ _ hb).B h5 ws rest N K m hw hf hN hm hK
theorem VW {x : CondT} {d : Nat} {s : List UInt8} (h : ∀ d s, condP x d = some s → CondPar x d) (hb : brP (decide (opC x = 5)) d (condP x) = some s) {ws rest : List Wrd} {n : Nat} (hw : ws.map tok = brK (decide (opC x = 5)) (condK x)) (hf : folC rest) (h1 : isW sAnd rest = false) (hn : (ws ++ rest).length ≤ n) : pBoth (pCond n) (n + 1) d (ws ++ rest) = .ok x rest := by
 obtain ⟨n', hl, e⟩ := Y4 (N := n + 1) (K := n + 1) h hb hw hf (by omega) hn (by omega);rw [pBoth, e, wK (by omega) (Us h1)]
theorem JE {x : CondT} {d : Nat} (hO : ∀ (ws rest : List Wrd) (K m j : Nat), ws.map tok = condK x → folC rest → (ws ++ rest).length < j → (ws ++ rest).length ≤ m → (ws ++ rest).length < K → pTest (pSum K) (pCond m) j d (ws ++ rest) = .ok x rest)
  (ws rest : List Wrd) (N K m : Nat) (hw : ws.map tok = condK x) (hf : folC rest) (hN : (ws ++ rest).length < N) (hm : (ws ++ rest).length ≤ m) (hK : (ws ++ rest).length < K) : ∃ n', rest.length < n' ∧ pRow (pTest (pSum K) (pCond m) K d) andSigns putC N (ws ++ rest) = pRest (pTest (pSum K) (pCond m) K d) andSigns putC n' x rest :=
 ⟨N, by rw [List.length_append] at hN; omega, by rw [pRow, hO ws rest K m K hw hf hK hm hK, R.bind]⟩
theorem JD {x : CondT} {d : Nat} (hB : ∀ (ws rest : List Wrd) (N K m : Nat), ws.map tok = condK x → folC rest → (ws ++ rest).length < N → (ws ++ rest).length ≤ m → (ws ++ rest).length < K → ∃ n', rest.length < n' ∧ pRow (pTest (pSum K) (pCond m) K d) andSigns putC N (ws ++ rest) = pRest (pTest (pSum K) (pCond m) K d) andSigns putC n' x rest)
  (ws rest : List Wrd) (n : Nat) (hw : ws.map tok = condK x) (hf : folC rest) (h1 : isW sAnd rest = false) (hn : (ws ++ rest).length ≤ n) : ∃ n', rest.length < n' ∧ pCond (n + 1) d (ws ++ rest) = pRest (pBoth (pCond n) (n + 1) d) orSigns putC n' x rest := by
 obtain ⟨k, hk, e⟩ := hB ws rest (n + 1) (n + 1) n hw hf (by omega) hn (by omega);refine ⟨n + 1, by rw [List.length_append] at hn; omega, ?_⟩;have e2 : pBoth (pCond n) (n + 1) d (ws ++ rest) = .ok x rest := by rw [pBoth, e, wK (by omega) (Us h1)]
 rw [pCond, pRow, e2, R.bind]
theorem kY {x : CondT} {d : Nat} (hO : ∀ (ws rest : List Wrd) (K m j : Nat), ws.map tok = condK x → folC rest → (ws ++ rest).length < j → (ws ++ rest).length ≤ m → (ws ++ rest).length < K → pTest (pSum K) (pCond m) j d (ws ++ rest) = .ok x rest) : CondPar x d :=
 ⟨JD (JE hO), fun _ => JE hO, fun _ _ => hO⟩
theorem QZ {op : Int} {w : List UInt8} {a b : NumT} {d : Nat} {u v : List UInt8} (hw0 : (op = 0 ∧ w = sLt) ∨ (op = 1 ∧ w = sLe) ∨ (op = 2 ∧ w = sEq)) (ha : numP a d = some u) (hb : numP b d = some v) : CondPar (.mk op 0 [] [a, b] []) d := kY fun ws rest K m j hw hf hj hm hK => by
 rw [jO] at hw;obtain ⟨x, w1, rfl, hx, g1⟩ := yi hw;obtain ⟨p, y, rfl, hy⟩ := zK g1;rw [List.append_assoc, List.cons_append] at hj hm hK ⊢;obtain ⟨i, rfl⟩ : ∃ i, j = i + 1 := ⟨j - 1, by omega⟩;obtain ⟨k, rfl⟩ : ∃ k, K = k + 1 := ⟨K - 1, by omega⟩;have hd := (Yu ha).test hx (⟨3, cmpS op, 0, p⟩ :: (y ++ rest))
 have hsg : lessSigns.find? (fun s => isW s.1 ((⟨3, cmpS op, 0, p⟩ : Wrd) :: (y ++ rest))) = some (cmpS op, op) := by
  rcases hw0 with ⟨rfl, -⟩ | ⟨rfl, -⟩ | ⟨rfl, -⟩ <;> rfl
 have hns : isW sStar ((⟨3, cmpS op, 0, p⟩ : Wrd) :: (y ++ rest)) = false ∧ isW sPlus ((⟨3, cmpS op, 0, p⟩ : Wrd) :: (y ++ rest)) = false ∧ isW sMinus ((⟨3, cmpS op, 0, p⟩ : Wrd) :: (y ++ rest)) = false := by
  rcases hw0 with ⟨rfl, -⟩ | ⟨rfl, -⟩ | ⟨rfl, -⟩ <;> exact ⟨rfl, rfl, rfl⟩
 have h1 := qU ha (rest := ⟨3, cmpS op, 0, p⟩ :: (y ++ rest)) (n := k) hx hns.1 hns.2.1 hns.2.2 (Nat.le_of_lt_succ hK);simp only [List.length_cons, List.length_append] at hK;have h2 := qU hb (rest := rest) (n := k) hy (hf _ (by simp)) (hf _ (by simp)) (hf _ (by simp)) (by rw [List.length_append]; omega)
 show pTest (pSum (k + 1)) (pCond m) (i + 1) d (x ++ (⟨3, cmpS op, 0, p⟩ :: (y ++ rest))) = _;rw [pTest, if_neg (by rw [hd.1]; decide), if_neg (by rw [hd.2.2]; decide), if_neg (by rw [hd.2.1]; decide), h1, R.bind, hsg];show (pSum (k + 1) d (y ++ rest)).bind _ = _;rw [h2, R.bind]
theorem WI {who : Int} {name s : List UInt8} {d : Nat} (hn : nameP name = true) (hs : sideP who = some s) : CondPar (.mk 6 who name [] []) d := kY fun ws rest K m j hw hf hj hm hK => by
 rw [uG] at hw
 have hown : ownP name = false := by
  unfold nameP at hn;rw [Bool.and_eq_true] at hn
  simpa using hn.2
 have hwho : who = 0 ∨ who = 1 := by
  unfold sideP at hs
  split at hs
  ·exact .inl ‹_›
  ·split at hs
   ·exact .inr ‹_›
   ·cases hs
 obtain ⟨p1, w1, rfl, g1⟩ := zK hw;obtain ⟨p2, w2, rfl, g2⟩ := zK g1;obtain ⟨p3, w3, rfl, g3⟩ := zK g2;obtain ⟨p4, w4, rfl, g4⟩ := zK g3;obtain ⟨p5, w5, rfl, g5⟩ := zK g4;obtain ⟨p6, w6, rfl, g6⟩ := zK g5;obtain rfl := yS g6;obtain ⟨i, rfl⟩ : ∃ i, j = i + 1 := ⟨j - 1, by omega⟩
 have hside : ∀ ts, pSide (⟨1, if who = 0 then sMe else sFoe, 0, p3⟩ :: ts) = .ok who ts := fun ts => by rcases hwho with rfl | rfl <;> rfl
 have hname : ∀ ts, pName (⟨1, name, 0, p5⟩ :: ts) = .ok name ts := fun ts => by rw [pName, if_pos ⟨rfl, hown⟩]; rfl
 show pTest (pSum K) (pCond m) (i + 1) d (⟨1, sHolds, 0, p1⟩ :: ⟨3, sOpen, 0, p2⟩ :: ⟨1, if who = 0 then sMe else sFoe, 0, p3⟩ :: ⟨3, sComma, 0, p4⟩ :: ⟨1, name, 0, p5⟩ :: ⟨3, sClose, 0, p6⟩ :: rest) = _
 have e : pTest (pSum K) (pCond m) (i + 1) d (⟨1, sHolds, 0, p1⟩ :: ⟨3, sOpen, 0, p2⟩ :: ⟨1, if who = 0 then sMe else sFoe, 0, p3⟩ :: ⟨3, sComma, 0, p4⟩ :: ⟨1, name, 0, p5⟩ :: ⟨3, sClose, 0, p6⟩ :: rest) =
   (must sOpen (⟨3, sOpen, 0, p2⟩ :: ⟨1, if who = 0 then sMe else sFoe, 0, p3⟩ :: ⟨3, sComma, 0, p4⟩ :: ⟨1, name, 0, p5⟩ :: ⟨3, sClose, 0, p6⟩ :: rest)).bind fun _ ts => (pSide ts).bind fun w ts => (must sComma ts).bind fun _ ts => (pName ts).bind fun s ts => (must sClose ts).bind fun _ ts => .ok (.mk 6 w s [] []) ts := rfl
 rw [e, xu, R.bind, hside, R.bind, xu, R.bind, hname, R.bind, xu, R.bind]
theorem QY {k : CondT} {d : Nat} {s : List UInt8} (h : ∀ d s, condP k d = some s → CondPar k d) (hd : d + 1 ≤ 8) (hk : brP (decide (opC k = 4) || decide (opC k = 5)) (d + 1) (condP k) = some s) : CondPar (.mk 3 0 [] [] [k]) d := kY fun ws rest K m j hw hf hj hm hK => by
 rw [jN] at hw;obtain ⟨p, y, rfl, hy⟩ := zK hw;simp only [List.cons_append, List.length_cons] at hj hm hK;obtain ⟨i, rfl⟩ : ∃ i, j = i + 1 := ⟨j - 1, by omega⟩
 have h1 := kN (K := K) (m := m) (j := i) h hk (fun e => by
  rw [Bool.or_eq_false_iff] at e
  exact ⟨of_decide_eq_false e.2, of_decide_eq_false e.1⟩) hy hf (by omega) (by omega) (by omega)
 have e : pTest (pSum K) (pCond m) (i + 1) d (⟨1, sNot, 0, p⟩ :: (y ++ rest)) = (pIn d (⟨1, sNot, 0, p⟩ :: (y ++ rest))).bind fun _ ts => (pTest (pSum K) (pCond m) i (d + 1) ts.tail).bind fun k ts => .ok (.mk 3 0 [] [] [k]) ts := rfl;show pTest (pSum K) (pCond m) (i + 1) d (⟨1, sNot, 0, p⟩ :: (y ++ rest)) = _;rw [e, Xz hd, R.bind];show (pTest (pSum K) (pCond m) i (d + 1) (y ++ rest)).bind _ = _
 rw [h1, R.bind]
theorem Qa {a b : CondT} {d : Nat} {u v : List UInt8} (ha : ∀ d s, condP a d = some s → CondPar a d) (hb : ∀ d s, condP b d = some s → CondPar b d) (h1 : brP (decide (opC a = 5)) d (condP a) = some u) (h2 : brP (decide (opC b = 5) || decide (opC b = 4)) d (condP b) = some v) : CondPar (putC 4 a b) d := by
 have hB : ∀ (ws rest : List Wrd) (N K m : Nat), ws.map tok = condK (putC 4 a b) → folC rest → (ws ++ rest).length < N → (ws ++ rest).length ≤ m → (ws ++ rest).length < K → ∃ n', rest.length < n' ∧ pRow (pTest (pSum K) (pCond m) K d) andSigns putC N (ws ++ rest) = pRest (pTest (pSum K) (pCond m) K d) andSigns putC n' (putC 4 a b) rest := by
  intro ws rest N K m hw hf hN hm hK;rw [show putC 4 a b = .mk 4 0 [] [] [a, b] from rfl, jP] at hw;obtain ⟨x, w1, rfl, hx, g1⟩ := yi hw;obtain ⟨p, y, rfl, hy⟩ := zK g1;rw [List.append_assoc, List.cons_append] at hN hm hK ⊢;obtain ⟨n1, hl, e⟩ := Y4 (rest := ⟨1, sAnd, 0, p⟩ :: (y ++ rest)) ha h1 hx (folC.word (by decide)) hN hm hK
  obtain ⟨k, rfl⟩ : ∃ k, n1 = k + 1 := ⟨n1 - 1, by omega⟩;simp only [List.length_cons, List.length_append] at hl hm hK
  have e2 := kN (rest := rest) (K := K) (m := m) (j := K) hb h2 (fun e => by
   rw [Bool.or_eq_false_iff] at e
   exact ⟨of_decide_eq_false e.1, of_decide_eq_false e.2⟩) hy hf (by rw [List.length_append]; omega) (by rw [List.length_append]; omega) (by rw [List.length_append]; omega)
  refine ⟨k, by omega, ?_⟩;show pRow (pTest (pSum K) (pCond m) K d) andSigns putC N (x ++ (⟨1, sAnd, 0, p⟩ :: (y ++ rest))) = _;rw [e, uX (sg := (sAnd, 4)) rfl];show (pTest (pSum K) (pCond m) K d (y ++ rest)).bind _ = _;rw [e2, R.bind]
 exact ⟨JD hB, fun _ => hB, fun _ h => absurd rfl h⟩
theorem cpar_or {a b : CondT} {d : Nat} {v : List UInt8} (ha : CondPar a d) (hb : ∀ d s, condP b d = some s → CondPar b d) (h2 : brP (decide (opC b = 5)) d (condP b) = some v) : CondPar (putC 5 a b) d := by
 refine ⟨fun ws rest n hw hf h1 hn => ?_, fun h => absurd rfl h, fun h => absurd rfl h⟩;rw [show putC 5 a b = .mk 5 0 [] [] [a, b] from rfl, kZ] at hw;obtain ⟨x, w1, rfl, hx, g1⟩ := yi hw;obtain ⟨p, y, rfl, hy⟩ := zK g1;rw [List.append_assoc, List.cons_append] at hn ⊢;obtain ⟨n1, hl, e⟩ := ha.C x (⟨1, sOr, 0, p⟩ :: (y ++ rest)) n hx (folC.word (by decide)) rfl hn
 obtain ⟨k, rfl⟩ : ∃ k, n1 = k + 1 := ⟨n1 - 1, by omega⟩;simp only [List.length_cons, List.length_append] at hl hn;have e2 := VW (rest := rest) (n := n) hb h2 hy hf h1 (by rw [List.length_append]; omega);refine ⟨k, by omega, ?_⟩;show pCond (n + 1) d (x ++ (⟨1, sOr, 0, p⟩ :: (y ++ rest))) = _;rw [e, uX (sg := (sOr, 5)) rfl];show (pBoth (pCond n) (n + 1) d (y ++ rest)).bind _ = _
 rw [e2, R.bind]
theorem XF : ∀ (x : CondT) (d : Nat) (s : List UInt8), condP x d = some s → CondPar x d
 | .mk op who name ns ks, d, s, h => by
   have hk : ∀ k ∈ ks, ∀ d s, condP k d = some s → CondPar k d := fun k _ d s h => XF k d s h;have hc := xm h;clear h;generalize hx : CondT.mk op who name ns ks = x at hc;cases hc with
   | cmp hw ha hb => exact hx ▸ (by cases hx; exact QZ hw ha hb)
   | holds hn hs => cases hx; exact WI hn hs
   | not hd h1 => cases hx; exact QY (hk _ (.head _)) hd h1
   | or ha hb => cases hx; exact cpar_or (hk _ (.head _) _ _ ha) (hk _ (.tail _ (.head _))) hb
   | and ha hb => cases hx; exact Qa (hk _ (.head _)) (hk _ (.tail _ (.head _))) ha hb
termination_by x => SizeOf.sizeOf x
decreasing_by
 have := List.sizeOf_lt_of_mem ‹k ∈ ks›
 simp
 omega
theorem Vo {x : CondT} {d : Nat} {s : List UInt8} (h : condP x d = some s) {ws rest : List Wrd} {n : Nat} (hw : ws.map tok = condK x) (hf : folC rest) (h1 : isW sAnd rest = false) (h2 : isW sOr rest = false) (hn : (ws ++ rest).length ≤ n) : pCond (n + 1) d (ws ++ rest) = .ok x rest :=
 ZO (XF x d s h) hw hf h1 h2 hn
end Tp
namespace Tp
open Go Go.Eng Wd Kd
def whoK (w : Int) : Tok := mk1 (if w = 2 then sTarget else if w = 0 then sMe else sFoe)
def opS (op : Int) : List UInt8 := if op = 0 then sHarm else if op = 1 then sMend else if op = 2 then sDraw else if op = 3 then sGain else if op = 5 then sLook else if op = 4 then sDrop else sShow
mutual
def effK : EffT → List Tok
 | .mk op who n name c t e =>
   if op = 8 then mk1 sIf :: (condK c ++ mk3 sLb :: (blkK t ++ mk3 sRb :: mk1 sElse :: mk3 sLb :: (blkK e ++ [mk3 sRb])))
   else if op = 7 then [mk1 sSummon, mk1 name, mk3 sSemi]
   else if op = 0 ∨ op = 1 ∨ op = 2 then mk1 (opS op) :: whoK who :: (numK n ++ [mk3 sSemi])
   else if op = 3 ∨ op = 5 then mk1 (opS op) :: (numK n ++ [mk3 sSemi])
   else [mk1 (opS op), whoK who, mk3 sSemi]
termination_by structural x => x
def blkK : List EffT → List Tok
 | [] => []
 | x :: r => effK x ++ blkK r
termination_by structural x => x
end
theorem XP : blkK [] = [] := by rw [blkK]
theorem ZU (x : EffT) (r : List EffT) : blkK (x :: r) = effK x ++ blkK r := by rw [blkK]
theorem Wt (who : Int) (n : NumT) (name : List UInt8) (c : CondT) (t e : List EffT) : effK (.mk 8 who n name c t e) = mk1 sIf :: (condK c ++ mk3 sLb :: (blkK t ++ mk3 sRb :: mk1 sElse :: mk3 sLb :: (blkK e ++ [mk3 sRb]))) := by rw [effK]; rfl
theorem jd (who : Int) (n : NumT) (name : List UInt8) (c : CondT) (t e : List EffT) : effK (.mk 7 who n name c t e) = [mk1 sSummon, mk1 name, mk3 sSemi] := by rw [effK]; rfl
theorem ZK {op : Int} (h : op = 0 ∨ op = 1 ∨ op = 2) (who : Int) (n : NumT) (name : List UInt8) (c : CondT) (t e : List EffT) : effK (.mk op who n name c t e) = mk1 (opS op) :: whoK who :: (numK n ++ [mk3 sSemi]) := by
 rw [effK, if_neg (by omega), if_neg (by omega), if_pos h]
theorem XD {op : Int} (h : op = 3 ∨ op = 5) (who : Int) (n : NumT) (name : List UInt8) (c : CondT) (t e : List EffT) : effK (.mk op who n name c t e) = mk1 (opS op) :: (numK n ++ [mk3 sSemi]) := by
 rw [effK, if_neg (by omega), if_neg (by omega), if_neg (by omega), if_pos h]
theorem ZJ {op : Int} (h : op = 4 ∨ op = 6) (who : Int) (n : NumT) (name : List UInt8) (c : CondT) (t e : List EffT) : effK (.mk op who n name c t e) = [mk1 (opS op), whoK who, mk3 sSemi] := by
 rw [effK, if_neg (by omega), if_neg (by omega), if_neg (by omega), if_neg (by omega)]
theorem jw {n : NumT} (h : zeroN n = true) : n = num0 := by
 obtain ⟨op, m, who, k⟩ := n;unfold zeroN at h;simp only [Bool.and_eq_true, decide_eq_true_eq, List.isEmpty_iff] at h;obtain ⟨⟨⟨rfl, rfl⟩, rfl⟩, rfl⟩ := h
 rfl
theorem UF {c : CondT} (h : zeroC c = true) : c = cond0 := by
 obtain ⟨op, who, name, ns, k⟩ := c;unfold zeroC at h;simp only [Bool.and_eq_true, decide_eq_true_eq, List.isEmpty_iff] at h;obtain ⟨⟨⟨⟨rfl, rfl⟩, rfl⟩, rfl⟩, rfl⟩ := h
 rfl
theorem wq {c : CondT} {t e : List EffT} (h : bareE c t e) : c = cond0 ∧ t = [] ∧ e = [] :=
 ⟨UF h.1, List.eq_nil_of_length_eq_zero (by have := h.2; omega), List.eq_nil_of_length_eq_zero (by have := h.2; omega)⟩
theorem wM {w : Int} {u : List UInt8} (h : sideP w = some u) : (w = 0 ∧ u = sMe) ∨ (w = 1 ∧ u = sFoe) := by
 unfold sideP at h
 split at h
 ·cases h; exact .inl ⟨‹_›, rfl⟩
 ·split at h
  ·cases h; exact .inr ⟨‹_›, rfl⟩
  ·cases h
theorem uP {w : Int} {u : List UInt8} (h : whoP w = some u) : (w = 2 ∧ u = sTarget) ∨ (w = 0 ∧ u = sMe) ∨ (w = 1 ∧ u = sFoe) := by
 unfold whoP at h
 split at h
 ·cases h; exact .inl ⟨‹_›, rfl⟩
 ·exact .inr (wM h)
theorem Wn {w : Int} {u : List UInt8} (h : (w = 2 ∧ u = sTarget) ∨ (w = 0 ∧ u = sMe) ∨ (w = 1 ∧ u = sFoe)) : Lay true u [whoK w] := by
 rcases h with ⟨rfl, rfl⟩ | ⟨rfl, rfl⟩ | ⟨rfl, rfl⟩ <;> exact yL
theorem yC : Lay false [32] [] := wQ (by decide)
theorem qE {w : List UInt8} (h : lowB w = true) : Lay false (w ++ sSp) [mk1 w] := ((yL h).tm yC)
theorem YG {l : List EffT} {d : Nat} (hx : ∀ x ∈ l, ∀ d s, effP x d = some s → Lay false s (effK x)) : ∀ {s : List UInt8}, blkP l d = some s → Lay false s (blkK l) := by
 induction l with
 | nil =>
   intro s h;rw [vO] at h;cases h;rw [XP];exact Lay.nil
 | cons x r ih =>
   intro s h;rw [xo] at h;cases hs : effP x d with
   | none => rw [hs] at h; cases h
   | some u =>
     rw [hs] at h;cases hr : blkP r d with
     | none => rw [hr] at h; cases h
     | some v =>
       rw [hr] at h;cases h;rw [ZU];exact ((yC.fm (hx x (.head _) d u hs)).fm (ih (fun y hy => hx y (.tail _ hy)) hr)).congr rfl rfl
theorem Z7 : ∀ (x : EffT) (d : Nat) (s : List UInt8), effP x d = some s → Lay false s (effK x)
 | .mk op who n name c t e, d, s, h => by
   have ht : ∀ y ∈ t, ∀ d s, effP y d = some s → Lay false s (effK y) := fun y _ d s h => Z7 y d s h;have he : ∀ y ∈ e, ∀ d s, effP y d = some s → Lay false s (effK y) := fun y _ d s h => Z7 y d s h;have hc := ue h;clear h;generalize hx : EffT.mk op who n name c t e = x at hc;cases hc with
   | @line o w0 n0 c0 t0 e0 d0 w u v hop hb hn =>
     cases hx;have hop2 : op = 0 ∨ op = 1 ∨ op = 2 := by rcases hop with h | h | h <;> omega
     have hw : w = opS op ∧ lowB w = true ∧ ((who = 2 ∧ u = sTarget) ∨ (who = 0 ∧ u = sMe) ∨ (who = 1 ∧ u = sFoe)) := by
      rcases hop with ⟨rfl, rfl, h⟩ | ⟨rfl, rfl, h⟩ | ⟨rfl, rfl, h⟩
      ·exact ⟨rfl, by decide, uP h⟩
      ·exact ⟨rfl, by decide, uP h⟩
      ·exact ⟨rfl, by decide, .inr (wM h)⟩
     obtain ⟨rfl, hl, hwho⟩ := hw;rw [ZK hop2];exact (((((qE hl).fm (Wn hwho)).tm yC).fm (uY hn)).tm wR).congr rfl (by simp)
   | @num o n0 c0 t0 e0 d0 w v hop hb hn =>
     cases hx;have hop2 : op = 3 ∨ op = 5 := by rcases hop with h | h <;> omega
     have hw : w = opS op ∧ lowB w = true := by
      rcases hop with ⟨rfl, rfl⟩ | ⟨rfl, rfl⟩ <;> exact ⟨rfl, by decide⟩
     obtain ⟨rfl, hl⟩ := hw;rw [XD hop2];exact (((qE hl).fm (uY hn)).tm wR).congr rfl (by simp)
   | @side o w0 n0 c0 t0 e0 d0 w u hop hb hz hs =>
     cases hx;have hop2 : op = 4 ∨ op = 6 := by rcases hop with h | h <;> omega
     have hw : w = opS op ∧ lowB w = true := by
      rcases hop with ⟨rfl, rfl⟩ | ⟨rfl, rfl⟩ <;> exact ⟨rfl, by decide⟩
     obtain ⟨rfl, hl⟩ := hw;rw [ZJ hop2];exact (((qE hl).fm (Wn (.inr (wM hs)))).tm wR).congr rfl (by simp)
   | summon hb hz hn =>
     cases hx;rw [jd];exact (((qE (w := sSummon) (by decide)).fm (wP (xF hn))).tm wR).congr rfl (by simp)
   | @iff n0 c0 t0 e0 d0 s u v hz hd hc0 ht0 he0 =>
     cases hx;rw [Wt];have h1 := ((((((((((((qE (w := sIf) (by decide)).fm (XG hc0)).tm yC).fm Zv).fm (YG ht ht0)).fm yC).fm Zu).fm yC).fm (yL (w := sElse))).tm yC).fm Zv).fm (YG he he0)).fm yC;exact (h1.fm Zu).congr rfl (by simp)
termination_by x => SizeOf.sizeOf x
decreasing_by
 all_goals
  have := List.sizeOf_lt_of_mem ‹y ∈ _›;simp only [EffT.mk.sizeOf_spec];omega
def EffPar (x : EffT) (d : Nat) : Prop := ∀ (ws rest : List Wrd) (n : Nat), ws.map tok = effK x → (ws ++ rest).length ≤ n → pEff (pBlock n) (n + 1) d (ws ++ rest) = .ok x rest
def BlkPar (l : List EffT) (d : Nat) : Prop := ∀ (ws rest : List Wrd) (n : Nat), ws.map tok = mk3 sLb :: (blkK l ++ [mk3 sRb]) → (ws ++ rest).length ≤ n → pBlock (n + 1) d (ws ++ rest) = .ok l rest
theorem QQ (x : EffT) : ∃ w K, effK x = mk1 w :: K ∧ w ≠ sRb := by
 obtain ⟨op, who, n, name, c, t, e⟩ := x
 have ho : opS op ≠ sRb := by
  unfold opS
  split
  ·decide
  split
  ·decide
  split
  ·decide
  split
  ·decide
  split
  ·decide
  split
  ·decide
  ·decide
 rw [effK]
 split
 ·exact ⟨_, _, rfl, by decide⟩
 split
 ·exact ⟨_, _, rfl, by decide⟩
 split
 ·exact ⟨_, _, rfl, ho⟩
 split
 ·exact ⟨_, _, rfl, ho⟩
 ·exact ⟨_, _, rfl, ho⟩
theorem ZA {one : List Wrd → R EffT} {k : Nat} : ∀ (l acc : List EffT) (ws rest : List Wrd) (N : Nat), (∀ x ∈ l, ∀ ws rest, ws.map tok = effK x → (ws ++ rest).length ≤ k → one (ws ++ rest) = .ok x rest) → ws.map tok = blkK l ++ [mk3 sRb] → (ws ++ rest).length < N → (ws ++ rest).length ≤ k → pMany one N acc (ws ++ rest) = .ok (acc ++ l) rest
 | [], acc, ws, rest, N, _, hw, hN, _ => by
   rw [XP] at hw;obtain ⟨a, w1, rfl, g1⟩ := zK hw;obtain rfl := yS g1;obtain ⟨i, rfl⟩ : ∃ i, N = i + 1 := ⟨N - 1, by omega⟩;show pMany one (i + 1) acc (⟨3, sRb, 0, a⟩ :: rest) = _;rw [pMany, if_pos (show isW sRb (⟨3, sRb, 0, a⟩ :: rest) = true from rfl), List.append_nil]
   rfl
 | x :: r, acc, ws, rest, N, ho, hw, hN, hk => by
   rw [ZU, List.append_assoc] at hw;obtain ⟨u, v, rfl, hu, hv⟩ := yi hw;obtain ⟨i, rfl⟩ : ∃ i, N = i + 1 := ⟨N - 1, by omega⟩;rw [List.append_assoc] at hN hk ⊢;have h1 := ho x (.head _) u (v ++ rest) hu hk;obtain ⟨w, K, hK, hne⟩ := QQ x
   have hrb : isW sRb (u ++ (v ++ rest)) = false ∧ 1 ≤ u.length := by
    rw [hK] at hu;obtain ⟨a, w1, rfl, g1⟩ := zK hu;refine ⟨?_, by simp⟩;show isW sRb (⟨1, w, 0, a⟩ :: (w1 ++ (v ++ rest))) = false;rw [isW1];exact decide_eq_false hne
   rw [List.length_append] at hN hk;rw [pMany, if_neg (by rw [hrb.1]; decide), h1, R.bind, ZA r (acc ++ [x]) v rest i (fun y hy => ho y (.tail _ hy)) hv (by omega) (by omega), List.append_assoc]
   rfl
theorem YF {l : List EffT} {d : Nat} (hx : ∀ x ∈ l, EffPar x d) : BlkPar l d := by
 intro ws rest n hw hn;obtain ⟨a, v, rfl, hv⟩ := zK hw;simp only [List.cons_append, List.length_cons] at hn;show pBlock (n + 1) d (⟨3, sLb, 0, a⟩ :: (v ++ rest)) = _;rw [pBlock, xu, R.bind, ZA (k := n) l [] v rest (n + 1) (fun x hm ws rest h1 h2 => hx x hm ws rest n h1 h2) hv (by omega) (by omega)]
 rfl
theorem vP {l : List EffT} {d : Nat} : ∀ {s : List UInt8}, blkP l d = some s → ∀ x ∈ l, ∃ u, effP x d = some u := by
 induction l with
 | nil => intro s _ x hx; cases hx
 | cons y r ih =>
   intro s h x hx;rw [xo] at h;cases hs : effP y d with
   | none => rw [hs] at h; cases h
   | some u =>
     rw [hs] at h;cases hr : blkP r d with
     | none => rw [hr] at h; cases h
     | some v =>
       rcases List.mem_cons.1 hx with rfl | hx
       ·exact ⟨u, hs⟩
       ·exact ih hr x hx
theorem we (x : EffT) (a : Int) (ts : List Wrd) : pSemi x (⟨3, sSemi, 0, a⟩ :: ts) = .ok x ts := by rw [pSemi, xu, R.bind]
theorem UK {w : Int} (h : w = 2 ∨ w = 0 ∨ w = 1) (a : Int) (ts : List Wrd) : pWho (⟨1, if w = 2 then sTarget else if w = 0 then sMe else sFoe, 0, a⟩ :: ts) = .ok w ts := by
 rcases h with rfl | rfl | rfl <;> rfl
theorem Zh {w : Int} (h : w = 0 ∨ w = 1) (a : Int) (ts : List Wrd) : pSide (⟨1, if w = 2 then sTarget else if w = 0 then sMe else sFoe, 0, a⟩ :: ts) = .ok w ts := by
 rcases h with rfl | rfl <;> rfl
theorem ua {s : List UInt8} (h : nameP s = true) (a : Int) (ts : List Wrd) : pName (⟨1, s, 0, a⟩ :: ts) = .ok s ts := by
 have hown : ownP s = false := by
  unfold nameP at h;rw [Bool.and_eq_true] at h
  simpa using h.2
 rw [pName, if_pos ⟨rfl, hown⟩]
 rfl
theorem Z6 : ∀ (x : EffT) (d : Nat) (s : List UInt8), effP x d = some s → EffPar x d
 | .mk op who n name c t e, d, s, h => by
   have ht : ∀ y ∈ t, ∀ d s, effP y d = some s → EffPar y d := fun y _ d s h => Z6 y d s h;have he : ∀ y ∈ e, ∀ d s, effP y d = some s → EffPar y d := fun y _ d s h => Z6 y d s h;have hc := ue h;clear h;generalize hx : EffT.mk op who n name c t e = x at hc;intro ws rest m hw hm;cases hc with
   | @line o w0 n0 c0 t0 e0 d0 w u v hop hb hn =>
     cases hx;obtain ⟨rfl, rfl, rfl⟩ := wq hb;have hop2 : op = 0 ∨ op = 1 ∨ op = 2 := by rcases hop with h | h | h <;> omega
     rw [ZK hop2] at hw;obtain ⟨p1, w1, rfl, g1⟩ := zK hw;obtain ⟨p2, w2, rfl, g2⟩ := zK g1;obtain ⟨x, w3, rfl, hx, g3⟩ := yi g2;obtain ⟨p3, w4, rfl, g4⟩ := zK g3;obtain rfl := yS g4;simp only [List.cons_append, List.length_cons, List.length_append, List.length_nil] at hm
     have h1 := qU hn (rest := ⟨3, sSemi, 0, p3⟩ :: rest) (n := m) hx rfl rfl rfl (by simp; omega)
     have e0 : (⟨1, opS op, 0, p1⟩ :: ⟨1, if who = 2 then sTarget else if who = 0 then sMe else sFoe, 0, p2⟩ :: (x ++ [⟨3, sSemi, 0, p3⟩])) ++ rest = (⟨1, opS op, 0, p1⟩ :: ⟨1, if who = 2 then sTarget else if who = 0 then sMe else sFoe, 0, p2⟩ :: (x ++ (⟨3, sSemi, 0, p3⟩ :: rest)) : List Wrd) := by simp
     show pEff (pBlock m) (m + 1) d ((⟨1, opS op, 0, p1⟩ :: ⟨1, if who = 2 then sTarget else if who = 0 then sMe else sFoe, 0, p2⟩ :: (x ++ [⟨3, sSemi, 0, p3⟩])) ++ rest) = _;rw [e0];generalize x ++ (⟨3, sSemi, 0, p3⟩ :: rest) = Z at h1;rcases hop with ⟨rfl, rfl, hh⟩ | ⟨rfl, rfl, hh⟩ | ⟨rfl, rfl, hh⟩
     ·have hwho : who = 2 ∨ who = 0 ∨ who = 1 := by rcases uP hh with h | h | h <;> omega
      have e : ∀ ts, pEff (pBlock m) (m + 1) d (⟨1, opS 0, 0, p1⟩ :: ts) = (pWho ts).bind fun w ts => (pSum (m + 1) d ts).bind fun x ts => pSemi (eff0 0 w x []) ts := fun _ => rfl;rw [e, UK hwho, R.bind, h1, R.bind, we]
      rfl
     ·have hwho : who = 2 ∨ who = 0 ∨ who = 1 := by rcases uP hh with h | h | h <;> omega
      have e : ∀ ts, pEff (pBlock m) (m + 1) d (⟨1, opS 1, 0, p1⟩ :: ts) = (pWho ts).bind fun w ts => (pSum (m + 1) d ts).bind fun x ts => pSemi (eff0 1 w x []) ts := fun _ => rfl;rw [e, UK hwho, R.bind, h1, R.bind, we]
      rfl
     ·have hwho : who = 0 ∨ who = 1 := by rcases wM hh with h | h <;> omega
      have e : ∀ ts, pEff (pBlock m) (m + 1) d (⟨1, opS 2, 0, p1⟩ :: ts) = (pSide ts).bind fun w ts => (pSum (m + 1) d ts).bind fun x ts => pSemi (eff0 2 w x []) ts := fun _ => rfl;rw [e, Zh hwho, R.bind, h1, R.bind, we]
      rfl
   | @num o n0 c0 t0 e0 d0 w v hop hb hn =>
     cases hx;obtain ⟨rfl, rfl, rfl⟩ := wq hb;have hop2 : op = 3 ∨ op = 5 := by rcases hop with h | h <;> omega
     rw [XD hop2] at hw;obtain ⟨p1, w1, rfl, g1⟩ := zK hw;obtain ⟨x, w3, rfl, hx, g3⟩ := yi g1;obtain ⟨p3, w4, rfl, g4⟩ := zK g3;obtain rfl := yS g4;simp only [List.cons_append, List.length_cons, List.length_append, List.length_nil] at hm;have h1 := qU hn (rest := ⟨3, sSemi, 0, p3⟩ :: rest) (n := m) hx rfl rfl rfl (by simp; omega)
     have e0 : (⟨1, opS op, 0, p1⟩ :: (x ++ [⟨3, sSemi, 0, p3⟩])) ++ rest = (⟨1, opS op, 0, p1⟩ :: (x ++ (⟨3, sSemi, 0, p3⟩ :: rest)) : List Wrd) := by simp
     show pEff (pBlock m) (m + 1) d ((⟨1, opS op, 0, p1⟩ :: (x ++ [⟨3, sSemi, 0, p3⟩])) ++ rest) = _;rw [e0];generalize x ++ (⟨3, sSemi, 0, p3⟩ :: rest) = Z at h1;rcases hop2 with rfl | rfl
     ·have e : ∀ ts, pEff (pBlock m) (m + 1) d (⟨1, opS 3, 0, p1⟩ :: ts) = (pSum (m + 1) d ts).bind fun x ts => pSemi (eff0 3 0 x []) ts := fun _ => rfl;rw [e, h1, R.bind, we]
      rfl
     ·have e : ∀ ts, pEff (pBlock m) (m + 1) d (⟨1, opS 5, 0, p1⟩ :: ts) = (pSum (m + 1) d ts).bind fun x ts => pSemi (eff0 5 0 x []) ts := fun _ => rfl;rw [e, h1, R.bind, we]
      rfl
   | @side o w0 n0 c0 t0 e0 d0 w u hop hb hz hs =>
     cases hx;obtain ⟨rfl, rfl, rfl⟩ := wq hb;obtain rfl := jw hz;have hop2 : op = 4 ∨ op = 6 := by rcases hop with h | h <;> omega
     have hwho : who = 0 ∨ who = 1 := by rcases wM hs with h | h <;> omega
     rw [ZJ hop2] at hw;obtain ⟨p1, w1, rfl, g1⟩ := zK hw;obtain ⟨p2, w2, rfl, g2⟩ := zK g1;obtain ⟨p3, w3, rfl, g3⟩ := zK g2;obtain rfl := yS g3;show pEff (pBlock m) (m + 1) d (⟨1, opS op, 0, p1⟩ :: ⟨1, if who = 2 then sTarget else if who = 0 then sMe else sFoe, 0, p2⟩ :: ⟨3, sSemi, 0, p3⟩ :: rest) = _;rcases hop2 with rfl | rfl
     ·have e : ∀ ts, pEff (pBlock m) (m + 1) d (⟨1, opS 4, 0, p1⟩ :: ts) = (pSide ts).bind fun w ts => pSemi (eff0 4 w num0 []) ts := fun _ => rfl;rw [e, Zh hwho, R.bind, we]
      rfl
     ·have e : ∀ ts, pEff (pBlock m) (m + 1) d (⟨1, opS 6, 0, p1⟩ :: ts) = (pSide ts).bind fun w ts => pSemi (eff0 6 w num0 []) ts := fun _ => rfl;rw [e, Zh hwho, R.bind, we]
      rfl
   | summon hb hz hn =>
     cases hx;obtain ⟨rfl, rfl, rfl⟩ := wq hb;obtain rfl := jw hz;rw [jd] at hw;obtain ⟨p1, w1, rfl, g1⟩ := zK hw;obtain ⟨p2, w2, rfl, g2⟩ := zK g1;obtain ⟨p3, w3, rfl, g3⟩ := zK g2;obtain rfl := yS g3;show pEff (pBlock m) (m + 1) d (⟨1, sSummon, 0, p1⟩ :: ⟨1, name, 0, p2⟩ :: ⟨3, sSemi, 0, p3⟩ :: rest) = _
     have e : ∀ ts, pEff (pBlock m) (m + 1) d (⟨1, sSummon, 0, p1⟩ :: ts) = (pName ts).bind fun s ts => pSemi (eff0 7 0 num0 s) ts := fun _ => rfl;rw [e, ua hn, R.bind, we]
     rfl
   | @iff n0 c0 t0 e0 d0 s u v hz hd hc0 ht0 he0 =>
     cases hx;obtain rfl := jw hz;rw [Wt] at hw;obtain ⟨p1, w1, rfl, g1⟩ := zK hw;obtain ⟨x, w2, rfl, hx, g2⟩ := yi g1
     have hblk : ∃ y p2 z, w2 = y ++ ⟨1, sElse, 0, p2⟩ :: z ∧ y.map tok = mk3 sLb :: (blkK t ++ [mk3 sRb]) ∧ z.map tok = mk3 sLb :: (blkK e ++ [mk3 sRb]) := by
      have e1 : mk3 sLb :: (blkK t ++ mk3 sRb :: mk1 sElse :: mk3 sLb :: (blkK e ++ [mk3 sRb])) = (mk3 sLb :: (blkK t ++ [mk3 sRb])) ++ mk1 sElse :: (mk3 sLb :: (blkK e ++ [mk3 sRb])) := by simp
      rw [e1] at g2;obtain ⟨y, w3, rfl, hy, g3⟩ := yi g2;obtain ⟨p2, z, rfl, hz⟩ := zK g3;exact ⟨y, p2, z, rfl, hy, hz⟩
     obtain ⟨y, p2, z, rfl, hy, hz⟩ := hblk;simp only [List.cons_append, List.length_cons, List.length_append] at hm
     have hbt : BlkPar t (d + 1) := YF fun q hq => by
      obtain ⟨u, hu⟩ := vP ht0 q hq;exact ht q hq _ _ hu
     have hbe : BlkPar e (d + 1) := YF fun q hq => by
      obtain ⟨u, hu⟩ := vP he0 q hq;exact he q hq _ _ hu
     obtain ⟨k, rfl⟩ : ∃ k, m = k + 1 := ⟨m - 1, by omega⟩;have h3 := hbe z rest k hz (by rw [List.length_append]; omega);have h2 := hbt y (⟨1, sElse, 0, p2⟩ :: (z ++ rest)) k hy (by simp only [List.length_append, List.length_cons]; omega)
     have hyh : folC (y ++ (⟨1, sElse, 0, p2⟩ :: (z ++ rest))) ∧ isW sAnd (y ++ (⟨1, sElse, 0, p2⟩ :: (z ++ rest))) = false ∧ isW sOr (y ++ (⟨1, sElse, 0, p2⟩ :: (z ++ rest))) = false := by
      obtain ⟨a, y1, rfl, -⟩ := zK hy;exact ⟨folC.mark (by decide), rfl, rfl⟩
     have h1 := Vo hc0 (rest := y ++ (⟨1, sElse, 0, p2⟩ :: (z ++ rest))) (n := k + 1) hx hyh.1 hyh.2.1 hyh.2.2 (by simp only [List.length_append, List.length_cons]; omega);have e0 : (⟨1, sIf, 0, p1⟩ :: (x ++ (y ++ ⟨1, sElse, 0, p2⟩ :: z))) ++ rest = (⟨1, sIf, 0, p1⟩ :: (x ++ (y ++ (⟨1, sElse, 0, p2⟩ :: (z ++ rest)))) : List Wrd) := by simp
     show pEff (pBlock (k + 1)) (k + 1 + 1) d ((⟨1, sIf, 0, p1⟩ :: (x ++ (y ++ ⟨1, sElse, 0, p2⟩ :: z))) ++ rest) = _;rw [e0];generalize x ++ (y ++ (⟨1, sElse, 0, p2⟩ :: (z ++ rest))) = Z at h1
     have e : pEff (pBlock (k + 1)) (k + 1 + 1) d (⟨1, sIf, 0, p1⟩ :: Z) = (pIn d (⟨1, sIf, 0, p1⟩ :: Z)).bind fun _ ts => (pCond (k + 1 + 1) (d + 1) ts.tail).bind fun c ts => (pBlock (k + 1) (d + 1) ts).bind fun t ts => (must sElse ts).bind fun _ ts => (pBlock (k + 1) (d + 1) ts).bind fun e ts => .ok (.mk 8 0 num0 [] c t e) ts := rfl;rw [e, Xz hd, R.bind]
     show (pCond (k + 1 + 1) (d + 1) Z).bind _ = _;rw [h1, R.bind, h2, R.bind, Uv, R.bind, h3, R.bind]
termination_by x => SizeOf.sizeOf x
decreasing_by
 all_goals
  have := List.sizeOf_lt_of_mem ‹y ∈ _›;simp only [EffT.mk.sizeOf_spec];omega
theorem Qj {l : List EffT} {d : Nat} {s : List UInt8} (h : blkP l d = some s) : BlkPar l d := YF fun x hx => by
 obtain ⟨u, hu⟩ := vP h x hx;exact Z6 x d u hu
end Tp
namespace Tp
open Go Go.Eng Wd Kd
def headK (c : CardT) : List Tok := if c.unit = true then [mk1 sUnit, mk2 c.cost, mk2 c.power, mk3 sSlash, mk2 c.health] else [mk1 sCharm, mk2 c.cost]
def secK (w : List UInt8) (l : List EffT) : List Tok := if l.length = 0 then [] else mk1 w :: mk3 sLb :: (blkK l ++ [mk3 sRb])
def auraK (c : CardT) : List Tok := if c.apow = 0 ∧ c.aheal = 0 then [] else [mk1 sAura, mk2 c.apow, mk3 sSlash, mk2 c.aheal, mk3 sSemi]
def shldK (c : CardT) : List Tok := if c.shield = 0 then [] else [mk1 sShield, mk2 c.shield, mk3 sSemi]
def cardK (c : CardT) : List Tok := mk1 sCard :: mk1 c.name :: (headK c ++ mk3 sLb :: (secK sPlayed c.played ++ (secK sDead c.dead ++ (secK sDawn c.dawn ++ (auraK c ++ (shldK c ++ [mk3 sRb]))))))
theorem qz : Lay false [10] [] := wQ (by decide)
theorem kz {n : Int} (h : smallB n = true) : 0 ≤ n ∧ n ≤ 999 := of_decide_eq_true h
theorem xd {n : Int} (h : smallB n = true) : Lay true (decP n) [mk2 n] := Wr (kz h).1 (kz h).2
theorem jB : Lay false [32, 123, 10] [mk3 sLb] := ((yC.fm Zv).fm qz).congr rfl rfl
theorem kA {c : CardT} (h : numsB c = true) : smallB c.cost = true ∧ smallB c.power = true ∧ smallB c.health = true ∧ smallB c.shield = true ∧ smallB c.apow = true ∧ smallB c.aheal = true := by
 unfold numsB at h;simp only [Bool.and_eq_true] at h;obtain ⟨⟨⟨⟨⟨h1, h2⟩, h3⟩, h4⟩, h5⟩, h6⟩ := h;exact ⟨h1, h2, h3, h4, h5, h6⟩
theorem U5 {c : CardT} (h : numsB c = true) : Lay false (headT c) (headK c ++ [mk3 sLb]) := by
 obtain ⟨h1, h2, h3, -, -, -⟩ := kA h;unfold headT headK;by_cases hu : c.unit = true
 ·rw [if_pos hu, if_pos hu];exact ((((((((yC.fm (yL (w := sUnit))).tm yC).fm (xd h1)).tm yC).fm (xd h2)).tm ZD).fm (xd h3)).tm jB).congr rfl rfl
 ·rw [if_neg hu, if_neg hu];exact ((((yC.fm (yL (w := sCharm))).tm yC).fm (xd h1)).tm jB).congr rfl rfl
theorem QI (c : CardT) : ∃ x t, headT c = x :: t ∧ Fol (headT c) := by
 unfold headT
 split
 ·exact ⟨32, _, rfl, kQ (by decide)⟩
 ·exact ⟨32, _, rfl, kQ (by decide)⟩
theorem Zt {w : List UInt8} {l : List EffT} {s : List UInt8} (hw : lowB w = true) (h : secP w l = some s) : Lay false s (secK w l) := by
 unfold secP at h;unfold secK
 split at h
 ·rename_i h0
  cases h;rw [if_pos h0];exact Lay.nil
 ·rename_i h0
  rw [if_neg h0];cases hb : blkP l 0 with
  | none => rw [hb] at h; cases h
  | some t =>
    rw [hb] at h;cases h;have h1 : Lay false [32, 123] [mk3 sLb] := (yC.fm Zv).congr rfl rfl;have h2 : Lay false [32, 125, 10] [mk3 sRb] := ((yC.fm Zu).fm qz).congr rfl rfl;exact ((((yC.fm (yL hw)).tm h1).fm (YG (fun x _ d s h => Z7 x d s h) hb)).fm h2).congr rfl (by simp)
theorem U7 {c : CardT} (h : numsB c = true) : Lay false (auraT c) (auraK c) := by
 obtain ⟨-, -, -, -, h5, h6⟩ := kA h;unfold auraT auraK
 split
 ·exact Lay.nil
 ·have h2 : Lay false [59, 10] [mk3 sSemi] := (wR.fm qz).congr rfl rfl;exact ((((((yC.fm (yL (w := sAura))).tm yC).fm (xd h5)).tm ZD).fm (xd h6)).tm h2).congr rfl rfl
theorem U3 {c : CardT} (h : numsB c = true) : Lay false (shldT c) (shldK c) := by
 obtain ⟨-, -, -, h4, -, -⟩ := kA h;unfold shldT shldK
 split
 ·exact Lay.nil
 ·have h2 : Lay false [59, 10] [mk3 sSemi] := (wR.fm qz).congr rfl rfl;exact ((((yC.fm (yL (w := sShield))).tm yC).fm (xd h4)).tm h2).congr rfl rfl
theorem Wq : Lay false [125, 10] [mk3 sRb] := (Zu.fm qz).congr rfl rfl
theorem Qe {c : CardT} {s : List UInt8} (h : cardP c = some s) : Lay false s (cardK c) := by
 obtain ⟨hn, -, hm, -, a, b, e, h1, h2, h3, rfl⟩ := vi h;have g := ((((qE (w := sCard) (by decide)).fm (wP (xF hn))).app (U5 hm) (fun _ => QI c)).fm (((Zt (by decide) h1).fm (Zt (by decide) h2)).fm (Zt (by decide) h3)));exact (((g.fm (U7 hm)).fm (U3 hm)).fm Wq).congr rfl (by simp [cardK])
structure RIt (σ : Type) where
 key : List UInt8
 K : List Tok
 upd : σ → σ
def itK {σ : Type} (l : List (RIt σ)) : List Tok := l.flatMap fun i => mk1 i.key :: i.K
theorem u6 {σ : Type} {keys : List (List UInt8)} {read : List UInt8 → σ → List Wrd → R σ} {parts : σ → Nat} {k : Nat} : ∀ (its : List (RIt σ)) (seen : List (List UInt8)) (c : σ) (ws rest : List Wrd) (N : Nat),
  (∀ i ∈ its, i.key ∈ keys ∧ i.key ≠ sRb ∧ ∀ c ws rest, ws.map tok = i.K → (ws ++ rest).length ≤ k → read i.key c (ws ++ rest) = .ok (i.upd c) rest) → (∀ i ∈ its, i.key ∉ seen) → (its.map (·.key)).Nodup →
  ws.map tok = itK its ++ [mk3 sRb] → (ws ++ rest).length < N → (ws ++ rest).length ≤ k → parts (its.foldl (fun c i => i.upd c) c) ≤ 200 →
  pRules keys read parts N seen c (ws ++ rest) = .ok (its.foldl (fun c i => i.upd c) c) rest
 | [], seen, c, ws, rest, N, _, _, _, hw, hN, _, hp => by
   obtain ⟨a, w1, rfl, g1⟩ := zK hw;obtain rfl := yS g1;obtain ⟨i, rfl⟩ : ∃ i, N = i + 1 := ⟨N - 1, by omega⟩;show pRules keys read parts (i + 1) seen c (⟨3, sRb, 0, a⟩ :: rest) = _;have hp : parts c ≤ 200 := hp;rw [pRules, if_pos (show isW sRb (⟨3, sRb, 0, a⟩ :: rest) = true from rfl), if_neg (by omega)]
   rfl
 | it :: r, seen, c, ws, rest, N, hr, hs, hnd, hw, hN, hk, hp => by
   have e1 : itK (it :: r) ++ [mk3 sRb] = mk1 it.key :: (it.K ++ (itK r ++ [mk3 sRb])) := by simp [itK]
   rw [e1] at hw;obtain ⟨a, w1, rfl, g1⟩ := zK hw;obtain ⟨u, v, rfl, hu, hv⟩ := yi g1;obtain ⟨i, rfl⟩ : ∃ i, N = i + 1 := ⟨N - 1, by omega⟩;simp only [List.cons_append, List.length_cons, List.append_assoc, List.length_append] at hN hk;have h0 := hr it (.head _);have h1 := h0.2.2 c u (v ++ rest) hu (by simp only [List.length_append]; omega);rw [List.map_cons, List.nodup_cons] at hnd
   show pRules keys read parts (i + 1) seen c ((⟨1, it.key, 0, a⟩ :: (u ++ v)) ++ rest) = _;rw [List.cons_append, List.append_assoc, pRules, if_neg (by rw [isW1, decide_eq_false h0.2.1]; decide), if_pos ⟨rfl, h0.1⟩, if_neg (show ¬ (hd (⟨1, it.key, 0, a⟩ :: (u ++ (v ++ rest)))).text ∈ seen from hs it (.head _))];show (read it.key c (u ++ (v ++ rest))).bind _ = _;rw [h1, R.bind]
   refine u6 r (seen ++ [it.key]) (it.upd c) v rest i (fun j hj => hr j (.tail _ hj)) (fun j hj hm => ?_) hnd.2 hv (by rw [List.length_append]; omega) (by rw [List.length_append]; omega) hp;rcases List.mem_append.1 hm with hm | hm
   ·exact hs j (.tail _ hj) hm
   ·rw [List.mem_singleton] at hm;exact hnd.1 (hm ▸ List.mem_map_of_mem hj)
def optI {σ : Type} (b : Bool) (i : RIt σ) : List (RIt σ) := if b then [i] else []
theorem num_ok (n a : Int) (ts : List Wrd) : pNumber (⟨2, [], n, a⟩ :: ts) = .ok n ts := by rw [pNumber, if_pos (show (hd (⟨2, [], n, a⟩ :: ts)).kind = 2 from rfl)]; rfl
def cardI (c : CardT) : List (RIt CardT) :=
 optI (decide (c.played.length ≠ 0)) ⟨sPlayed, mk3 sLb :: (blkK c.played ++ [mk3 sRb]), fun x => { x with played := c.played }⟩ ++
 (optI (decide (c.dead.length ≠ 0)) ⟨sDead, mk3 sLb :: (blkK c.dead ++ [mk3 sRb]), fun x => { x with dead := c.dead }⟩ ++
 (optI (decide (c.dawn.length ≠ 0)) ⟨sDawn, mk3 sLb :: (blkK c.dawn ++ [mk3 sRb]), fun x => { x with dawn := c.dawn }⟩ ++
 (optI (decide (¬ (c.apow = 0 ∧ c.aheal = 0))) ⟨sAura, [mk2 c.apow, mk3 sSlash, mk2 c.aheal, mk3 sSemi], fun x => { x with apow := c.apow, aheal := c.aheal }⟩ ++
 optI (decide (c.shield ≠ 0)) ⟨sShield, [mk2 c.shield, mk3 sSemi], fun x => { x with shield := c.shield }⟩)))
theorem xv {σ : Type} (b : Bool) (i : RIt σ) : itK (optI b i) = if b then mk1 i.key :: i.K else [] := by
 cases b with
 | true => simp [optI, itK]
 | false => rfl
theorem wk {σ : Type} (a b : List (RIt σ)) : itK (a ++ b) = itK a ++ itK b := by simp [itK]
theorem cardI_K (c : CardT) : secK sPlayed c.played ++ (secK sDead c.dead ++ (secK sDawn c.dawn ++ (auraK c ++ (shldK c ++ [mk3 sRb])))) = itK (cardI c) ++ [mk3 sRb] := by
 unfold cardI;rw [wk, wk, wk, wk, xv, xv, xv, xv, xv];unfold secK auraK shldK;simp only [List.append_assoc]
 congr 1
 ·by_cases h : c.played.length = 0 <;> simp [h]
 congr 1
 ·by_cases h : c.dead.length = 0 <;> simp [h]
 congr 1
 ·by_cases h : c.dawn.length = 0 <;> simp [h]
 congr 1
 ·by_cases h : c.apow = 0 ∧ c.aheal = 0
  ·rw [if_pos h, decide_eq_false (fun hn => hn h)]; rfl
  ·rw [if_neg h, decide_eq_true h]; rfl
 congr 1
 ·by_cases h : c.shield = 0 <;> simp [h]
theorem xO {σ : Type} (b : Bool) (i : RIt σ) (x : σ) : (optI b i).foldl (fun c i => i.upd c) x = if b then i.upd x else x := by cases b <;> rfl
def card0 (c : CardT) (a : Int) : CardT := ⟨c.name, c.unit, c.cost, c.power, c.health, 0, 0, 0, [], [], [], a⟩
theorem ke (c : CardT) (a : Int) : (cardI c).foldl (fun c i => i.upd c) (card0 c a) = { c with at_ := a } := by
 obtain ⟨name, unit, cost, power, health, shield, apow, aheal, played, dead, dawn, at_⟩ := c;have e1 : ∀ (l : List EffT), ¬ l.length ≠ 0 → l = [] := fun l h => List.eq_nil_of_length_eq_zero (by omega)
 have g1 : ∀ K, (optI (decide (played.length ≠ 0)) (⟨sPlayed, K, fun x => { x with played := played }⟩ : RIt CardT)).foldl (fun c i => i.upd c) ⟨name, unit, cost, power, health, 0, 0, 0, [], [], [], a⟩ = ⟨name, unit, cost, power, health, 0, 0, 0, played, [], [], a⟩ := fun K => by
  rw [xO];by_cases h : played.length ≠ 0
  ·rw [decide_eq_true h, if_pos rfl]
  ·rw [decide_eq_false h, if_neg (by decide), e1 _ h]
 have g2 : ∀ K, (optI (decide (dead.length ≠ 0)) (⟨sDead, K, fun x => { x with dead := dead }⟩ : RIt CardT)).foldl (fun c i => i.upd c) ⟨name, unit, cost, power, health, 0, 0, 0, played, [], [], a⟩ = ⟨name, unit, cost, power, health, 0, 0, 0, played, dead, [], a⟩ := fun K => by
  rw [xO];by_cases h : dead.length ≠ 0
  ·rw [decide_eq_true h, if_pos rfl]
  ·rw [decide_eq_false h, if_neg (by decide), e1 _ h]
 have g3 : ∀ K, (optI (decide (dawn.length ≠ 0)) (⟨sDawn, K, fun x => { x with dawn := dawn }⟩ : RIt CardT)).foldl (fun c i => i.upd c) ⟨name, unit, cost, power, health, 0, 0, 0, played, dead, [], a⟩ = ⟨name, unit, cost, power, health, 0, 0, 0, played, dead, dawn, a⟩ := fun K => by
  rw [xO];by_cases h : dawn.length ≠ 0
  ·rw [decide_eq_true h, if_pos rfl]
  ·rw [decide_eq_false h, if_neg (by decide), e1 _ h]
 have g4 : ∀ K, (optI (decide (¬ (apow = 0 ∧ aheal = 0))) (⟨sAura, K, fun x => { x with apow := apow, aheal := aheal }⟩ : RIt CardT)).foldl (fun c i => i.upd c) ⟨name, unit, cost, power, health, 0, 0, 0, played, dead, dawn, a⟩ = ⟨name, unit, cost, power, health, 0, apow, aheal, played, dead, dawn, a⟩ := fun K => by
  rw [xO];by_cases h : apow = 0 ∧ aheal = 0
  ·rw [decide_eq_false (fun hn => hn h), if_neg (by decide), h.1, h.2]
  ·rw [decide_eq_true h, if_pos rfl]
 have g5 : ∀ K, (optI (decide (shield ≠ 0)) (⟨sShield, K, fun x => { x with shield := shield }⟩ : RIt CardT)).foldl (fun c i => i.upd c) ⟨name, unit, cost, power, health, 0, apow, aheal, played, dead, dawn, a⟩ = ⟨name, unit, cost, power, health, shield, apow, aheal, played, dead, dawn, a⟩ := fun K => by
  rw [xO];by_cases h : shield = 0
  ·rw [decide_eq_false (fun hn => hn h), if_neg (by decide), h]
  ·rw [decide_eq_true h, if_pos rfl]
 unfold cardI card0;dsimp only;rw [List.foldl_append, g1, List.foldl_append, g2, List.foldl_append, g3, List.foldl_append, g4, g5]
theorem xq {σ : Type} {b : Bool} {i j : RIt σ} (h : j ∈ optI b i) : b = true ∧ j = i := by
 cases b with
 | true => exact ⟨rfl, List.mem_singleton.1 h⟩
 | false => cases h
theorem xr {σ : Type} (b : Bool) (i : RIt σ) : ((optI b i).map (·.key)).Sublist [i.key] := by cases b <;> simp [optI]
theorem XM (c : CardT) : ((cardI c).map (·.key)).Nodup := by
 have h : ((cardI c).map (·.key)).Sublist ([sPlayed] ++ ([sDead] ++ ([sDawn] ++ ([sAura] ++ [sShield])))) := by
  unfold cardI;rw [List.map_append, List.map_append, List.map_append, List.map_append];exact (xr _ _).append ((xr _ _).append ((xr _ _).append ((xr _ _).append (xr _ _))))
 exact h.nodup (by decide)
theorem j2 {l : List EffT} {s : List UInt8} {n : Nat} (h : blkP l 0 = some s) {ws rest : List Wrd} (hw : ws.map tok = mk3 sLb :: (blkK l ++ [mk3 sRb])) (hn : (ws ++ rest).length < n) : pBlock n 0 (ws ++ rest) = .ok l rest := by
 obtain ⟨k, rfl⟩ : ∃ k, n = k + 1 := ⟨n - 1, by omega⟩;exact Qj h ws rest k hw (by omega)
theorem jj {w : List UInt8} {l : List EffT} {s : List UInt8} (h : secP w l = some s) (hl : l.length ≠ 0) : ∃ t, blkP l 0 = some t := by
 unfold secP at h;rw [if_neg hl] at h;cases hb : blkP l 0 with
 | none => rw [hb] at h; cases h
 | some t => exact ⟨t, rfl⟩
theorem Vw {c : CardT} {s : List UInt8} (h : cardP c = some s) {ws rest : List Wrd} {n : Nat} (a : Int) (hw : ws.map tok = (cardK c).tail) (hn : (ws ++ rest).length < n) : pCard cardWt n a (ws ++ rest) = .ok { c with at_ := a } rest := by
 obtain ⟨hnm, hkind, hm, hwt, x, y, z, h1, h2, h3, -⟩ := vi h;have hc : (cardK c).tail = mk1 c.name :: (headK c ++ mk3 sLb :: (itK (cardI c) ++ [mk3 sRb])) := by unfold cardK; rw [cardI_K]; rfl
 rw [hc] at hw;obtain ⟨p1, w1, rfl, g1⟩ := zK hw;obtain ⟨u, w2, rfl, hu, g2⟩ := yi g1;obtain ⟨p2, v, rfl, hv⟩ := zK g2;simp only [List.cons_append, List.length_cons, List.length_append] at hn;have e0 : (⟨1, c.name, 0, p1⟩ :: (u ++ ⟨3, sLb, 0, p2⟩ :: v)) ++ rest = (⟨1, c.name, 0, p1⟩ :: (u ++ (⟨3, sLb, 0, p2⟩ :: (v ++ rest))) : List Wrd) := by simp
 show pCard cardWt n a ((⟨1, c.name, 0, p1⟩ :: (u ++ ⟨3, sLb, 0, p2⟩ :: v)) ++ rest) = _;rw [e0, pCard, ua hnm, R.bind]
 have hhead : (if isW sUnit (u ++ (⟨3, sLb, 0, p2⟩ :: (v ++ rest))) then (pNumber (u ++ (⟨3, sLb, 0, p2⟩ :: (v ++ rest))).tail).bind fun k ts => (pNumber ts).bind fun p ts => (must sSlash ts).bind fun _ ts => (pNumber ts).bind fun h ts => .ok (⟨c.name, true, k, p, h, 0, 0, 0, [], [], [], a⟩ : CardT) ts
   else (must sCharm (u ++ (⟨3, sLb, 0, p2⟩ :: (v ++ rest)))).bind fun _ ts => (pNumber ts).bind fun k ts => .ok ⟨c.name, false, k, 0, 0, 0, 0, 0, [], [], [], a⟩ ts) = .ok (card0 c a) (⟨3, sLb, 0, p2⟩ :: (v ++ rest)) := by
  generalize (⟨3, sLb, 0, p2⟩ :: (v ++ rest) : List Wrd) = Z;unfold headK at hu;unfold card0;by_cases hun : c.unit = true
  ·rw [if_pos hun] at hu;obtain ⟨q1, u1, rfl, k1⟩ := zK hu;obtain ⟨q2, u2, rfl, k2⟩ := zK k1;obtain ⟨q3, u3, rfl, k3⟩ := zK k2;obtain ⟨q4, u4, rfl, k4⟩ := zK k3;obtain ⟨q5, u5, rfl, k5⟩ := zK k4;obtain rfl := yS k5;rw [hun]
   rfl
  ·rw [if_neg hun] at hu;obtain ⟨q1, u1, rfl, k1⟩ := zK hu;obtain ⟨q2, u2, rfl, k2⟩ := zK k1;obtain rfl := yS k2;have hun : c.unit = false := by cases h : c.unit <;> simp_all
   have hz : c.power = 0 ∧ c.health = 0 := by
    unfold kindB at hkind;rw [hun] at hkind
    simpa using hkind
   rw [hun, hz.1, hz.2]
   rfl
 rw [hhead, R.bind, xu, R.bind, u6 (k := n - 1) (cardI c) [] (card0 c a) v rest n ?_ (fun _ _ h => by cases h) (XM c) hv (by rw [List.length_append]; omega) (by rw [List.length_append]; omega) (by rw [ke]; exact hwt), ke];intro i hi;unfold cardI at hi;rcases List.mem_append.1 hi with hi | hi
 ·obtain ⟨hb, rfl⟩ := xq hi;obtain ⟨t, ht⟩ := jj h1 (of_decide_eq_true hb);refine ⟨show sPlayed ∈ cardKeys by decide, show sPlayed ≠ sRb by decide, fun x ws rest hw hl => ?_⟩;show (pBlock n 0 (ws ++ rest)).bind _ = _;rw [j2 ht hw (by omega), R.bind]
 rcases List.mem_append.1 hi with hi | hi
 ·obtain ⟨hb, rfl⟩ := xq hi;obtain ⟨t, ht⟩ := jj h2 (of_decide_eq_true hb);refine ⟨show sDead ∈ cardKeys by decide, show sDead ≠ sRb by decide, fun x ws rest hw hl => ?_⟩;show (pBlock n 0 (ws ++ rest)).bind _ = _;rw [j2 ht hw (by omega), R.bind]
 rcases List.mem_append.1 hi with hi | hi
 ·obtain ⟨hb, rfl⟩ := xq hi;obtain ⟨t, ht⟩ := jj h3 (of_decide_eq_true hb);refine ⟨show sDawn ∈ cardKeys by decide, show sDawn ≠ sRb by decide, fun x ws rest hw hl => ?_⟩;show (pBlock n 0 (ws ++ rest)).bind _ = _;rw [j2 ht hw (by omega), R.bind]
 rcases List.mem_append.1 hi with hi | hi
 ·obtain ⟨hb, rfl⟩ := xq hi;refine ⟨show sAura ∈ cardKeys by decide, show sAura ≠ sRb by decide, fun x ws rest hw hl => ?_⟩;obtain ⟨q1, u1, rfl, k1⟩ := zK hw;obtain ⟨q2, u2, rfl, k2⟩ := zK k1;obtain ⟨q3, u3, rfl, k3⟩ := zK k2;obtain ⟨q4, u4, rfl, k4⟩ := zK k3;obtain rfl := yS k4
  rfl
 ·obtain ⟨hb, rfl⟩ := xq hi;refine ⟨show sShield ∈ cardKeys by decide, show sShield ≠ sRb by decide, fun x ws rest hw hl => ?_⟩;obtain ⟨q1, u1, rfl, k1⟩ := zK hw;obtain ⟨q2, u2, rfl, k2⟩ := zK k1;obtain rfl := yS k2
  rfl
end Tp
namespace Tp
open Go Go.Eng Wd Kd
def ruleK (w : List UInt8) (n : Int) : List Tok := if n = 0 then [] else [mk1 w, mk2 n, mk3 sSemi]
def joinK : List (List UInt8) → List Tok
 | [] => []
 | [x] => [mk1 x]
 | x :: y :: r => mk1 x :: mk3 sComma :: joinK (y :: r)
def namesK (w : List UInt8) (l : List (List UInt8)) : List Tok := if l.length = 0 then [] else mk1 w :: (joinK l ++ [mk3 sSemi])
def fmtK (f : FmtT) : List Tok := mk1 sFormat :: mk1 f.name :: mk3 sLb :: (ruleK sLeast f.least ++ (ruleK sMost f.most ++ (ruleK sCopies f.copies ++ (namesK sBanned f.banned ++ (namesK sSingle f.single ++ [mk3 sRb])))))
theorem jZ : Lay false [59, 10] [mk3 sSemi] := (wR.fm qz).congr rfl rfl
theorem kL {w : List UInt8} {n : Int} (hw : lowB w = true) (h : smallB n = true) : Lay false (ruleT w n) (ruleK w n) := by
 unfold ruleT ruleK
 split
 ·exact Lay.nil
 ·exact ((((yC.fm (yL hw)).tm yC).fm (xd h)).tm jZ).congr rfl rfl
theorem Y1 : ∀ {l : List (List UInt8)}, l ≠ [] → (∀ s ∈ l, nameP s = true) → Lay true (Lib.join l [44, 32]) (joinK l)
 | [], h, _ => absurd rfl h
 | [x], _, h => by
   rw [Lib.join_one];exact wP (xF (h x (.head _)))
 | x :: y :: r, _, h => by
   have e : Lib.join (x :: y :: r) [44, 32] = x ++ [44, 32] ++ Lib.join (y :: r) [44, 32] := by
    unfold Lib.join
    simp [List.intercalate]
   rw [e];have h1 : Lay false [44, 32] [mk3 sComma] := (jA.fm yC).congr rfl rfl;exact (((wP (xF (h x (.head _)))).tm h1).fm (Y1 (by simp) fun s hs => h s (.tail _ hs))).congr rfl rfl
theorem ZE {w : List UInt8} {l : List (List UInt8)} (hw : lowB w = true) (h : ∀ s ∈ l, nameP s = true) : Lay false (namesT w l) (namesK w l) := by
 unfold namesT namesK
 split
 ·exact Lay.nil
 ·rename_i h0
  exact ((((yC.fm (yL hw)).tm yC).fm (Y1 (fun e => h0 (by rw [e]; rfl)) h)).tm jZ).congr rfl (by simp)
theorem qG {f : FmtT} {s : List UInt8} (h : fmtP f = some s) : nameP f.name = true ∧ smallB f.least = true ∧ smallB f.most = true ∧ smallB f.copies = true ∧ (∀ s ∈ f.banned, nameP s = true) ∧ (∀ s ∈ f.single, nameP s = true) ∧ s = sFormat ++ sSp ++ f.name ++ [32, 123, 10] ++ ruleT sLeast f.least ++ ruleT sMost f.most ++ ruleT sCopies f.copies ++ namesT sBanned f.banned ++ namesT sSingle f.single ++ [125, 10] := by
 unfold fmtP at h
 split at h
 ·rename_i h0
  cases h;exact ⟨h0.1, h0.2.1, h0.2.2.1, h0.2.2.2.1, List.all_eq_true.1 h0.2.2.2.2.1, List.all_eq_true.1 h0.2.2.2.2.2, rfl⟩
 ·cases h
theorem fmt_lay {f : FmtT} {s : List UInt8} (h : fmtP f = some s) : Lay false s (fmtK f) := by
 obtain ⟨hn, h1, h2, h3, hb, hs, rfl⟩ := qG h
 exact (((((((((qE (w := sFormat) (by decide)).fm (wP (xF hn))).tm jB).fm (kL (w := sLeast) (by decide) h1)).fm (kL (w := sMost) (by decide) h2)).fm (kL (w := sCopies) (by decide) h3)).fm (ZE (w := sBanned) (by decide) hb)).fm (ZE (w := sSingle) (by decide) hs)).fm Wq).congr rfl (by simp [fmtK])
theorem kH : ∀ {l : List (List UInt8)}, l ≠ [] → (∀ s ∈ l, nameP s = true) → ∀ (acc : List (List UInt8)) (ws rest : List Wrd) (N : Nat), ws.map tok = joinK l → isW sComma rest = false → (ws ++ rest).length < N → pNames N acc (ws ++ rest) = .ok (acc ++ l) rest
 | [], h, _, _, _, _, _, _, _, _ => absurd rfl h
 | [x], _, h, acc, ws, rest, N, hw, hr, hN => by
   obtain ⟨a, w1, rfl, g1⟩ := zK hw;obtain rfl := yS g1;obtain ⟨i, rfl⟩ : ∃ i, N = i + 1 := ⟨N - 1, by omega⟩;show pNames (i + 1) acc (⟨1, x, 0, a⟩ :: rest) = _;rw [pNames, ua (h x (.head _)), R.bind, if_neg (by rw [hr]; decide)]
 | x :: y :: r, _, h, acc, ws, rest, N, hw, hr, hN => by
   obtain ⟨a, w1, rfl, g1⟩ := zK hw;obtain ⟨b, w2, rfl, g2⟩ := zK g1;obtain ⟨i, rfl⟩ : ∃ i, N = i + 1 := ⟨N - 1, by omega⟩;simp only [List.cons_append, List.length_cons] at hN;show pNames (i + 1) acc (⟨1, x, 0, a⟩ :: ⟨3, sComma, 0, b⟩ :: (w2 ++ rest)) = _;rw [pNames, ua (h x (.head _)), R.bind, if_pos (show isW sComma (⟨3, sComma, 0, b⟩ :: (w2 ++ rest)) = true from rfl)]
   show pNames i (acc ++ [x]) (w2 ++ rest) = _;rw [kH (l := y :: r) (by simp) (fun s hs => h s (.tail _ hs)) (acc ++ [x]) w2 rest i g2 hr (by omega), List.append_assoc]
   rfl
def fmtI (f : FmtT) : List (RIt FmtT) :=
 optI (decide (f.least ≠ 0)) ⟨sLeast, [mk2 f.least, mk3 sSemi], fun x => { x with least := f.least }⟩ ++
 (optI (decide (f.most ≠ 0)) ⟨sMost, [mk2 f.most, mk3 sSemi], fun x => { x with most := f.most }⟩ ++
 (optI (decide (f.copies ≠ 0)) ⟨sCopies, [mk2 f.copies, mk3 sSemi], fun x => { x with copies := f.copies }⟩ ++
 (optI (decide (f.banned.length ≠ 0)) ⟨sBanned, joinK f.banned ++ [mk3 sSemi], fun x => { x with banned := f.banned }⟩ ++
 optI (decide (f.single.length ≠ 0)) ⟨sSingle, joinK f.single ++ [mk3 sSemi], fun x => { x with single := f.single }⟩)))
theorem fmtI_K (f : FmtT) : ruleK sLeast f.least ++ (ruleK sMost f.most ++ (ruleK sCopies f.copies ++ (namesK sBanned f.banned ++ (namesK sSingle f.single ++ [mk3 sRb])))) = itK (fmtI f) ++ [mk3 sRb] := by
 unfold fmtI;rw [wk, wk, wk, wk, xv, xv, xv, xv, xv];unfold ruleK namesK;simp only [List.append_assoc]
 congr 1
 ·by_cases h : f.least = 0 <;> simp [h]
 congr 1
 ·by_cases h : f.most = 0 <;> simp [h]
 congr 1
 ·by_cases h : f.copies = 0 <;> simp [h]
 congr 1
 ·by_cases h : f.banned.length = 0
  ·rw [if_pos h, decide_eq_false (fun hn => hn h)]; rfl
  ·rw [if_neg h, decide_eq_true h]; rfl
 congr 1
 ·by_cases h : f.single.length = 0
  ·rw [if_pos h, decide_eq_false (fun hn => hn h)]; rfl
  ·rw [if_neg h, decide_eq_true h]; rfl
theorem Vd (f : FmtT) (a : Int) : (fmtI f).foldl (fun c i => i.upd c) ⟨f.name, 0, 0, 0, [], [], a⟩ = { f with at_ := a } := by
 obtain ⟨name, least, most, copies, banned, single, at_⟩ := f;have e1 : ∀ (l : List (List UInt8)), ¬ l.length ≠ 0 → l = [] := fun l h => List.eq_nil_of_length_eq_zero (by omega)
 have g1 : ∀ K, (optI (decide (least ≠ 0)) (⟨sLeast, K, fun x => { x with least := least }⟩ : RIt FmtT)).foldl (fun c i => i.upd c) ⟨name, 0, 0, 0, [], [], a⟩ = ⟨name, least, 0, 0, [], [], a⟩ := fun K => by
  rw [xO];by_cases h : least = 0
  ·rw [decide_eq_false (fun hn => hn h), if_neg (by decide), h]
  ·rw [decide_eq_true h, if_pos rfl]
 have g2 : ∀ K, (optI (decide (most ≠ 0)) (⟨sMost, K, fun x => { x with most := most }⟩ : RIt FmtT)).foldl (fun c i => i.upd c) ⟨name, least, 0, 0, [], [], a⟩ = ⟨name, least, most, 0, [], [], a⟩ := fun K => by
  rw [xO];by_cases h : most = 0
  ·rw [decide_eq_false (fun hn => hn h), if_neg (by decide), h]
  ·rw [decide_eq_true h, if_pos rfl]
 have g3 : ∀ K, (optI (decide (copies ≠ 0)) (⟨sCopies, K, fun x => { x with copies := copies }⟩ : RIt FmtT)).foldl (fun c i => i.upd c) ⟨name, least, most, 0, [], [], a⟩ = ⟨name, least, most, copies, [], [], a⟩ := fun K => by
  rw [xO];by_cases h : copies = 0
  ·rw [decide_eq_false (fun hn => hn h), if_neg (by decide), h]
  ·rw [decide_eq_true h, if_pos rfl]
 have g4 : ∀ K, (optI (decide (banned.length ≠ 0)) (⟨sBanned, K, fun x => { x with banned := banned }⟩ : RIt FmtT)).foldl (fun c i => i.upd c) ⟨name, least, most, copies, [], [], a⟩ = ⟨name, least, most, copies, banned, [], a⟩ := fun K => by
  rw [xO];by_cases h : banned.length ≠ 0
  ·rw [decide_eq_true h, if_pos rfl]
  ·rw [decide_eq_false h, if_neg (by decide), e1 _ h]
 have g5 : ∀ K, (optI (decide (single.length ≠ 0)) (⟨sSingle, K, fun x => { x with single := single }⟩ : RIt FmtT)).foldl (fun c i => i.upd c) ⟨name, least, most, copies, banned, [], a⟩ = ⟨name, least, most, copies, banned, single, a⟩ := fun K => by
  rw [xO];by_cases h : single.length ≠ 0
  ·rw [decide_eq_true h, if_pos rfl]
  ·rw [decide_eq_false h, if_neg (by decide), e1 _ h]
 unfold fmtI;dsimp only;rw [List.foldl_append, g1, List.foldl_append, g2, List.foldl_append, g3, List.foldl_append, g4, g5]
theorem WD (f : FmtT) : ((fmtI f).map (·.key)).Nodup := by
 have h : ((fmtI f).map (·.key)).Sublist ([sLeast] ++ ([sMost] ++ ([sCopies] ++ ([sBanned] ++ [sSingle])))) := by
  unfold fmtI;rw [List.map_append, List.map_append, List.map_append, List.map_append];exact (xr _ _).append ((xr _ _).append ((xr _ _).append ((xr _ _).append (xr _ _))))
 exact h.nodup (by decide)
theorem QM {f : FmtT} {s : List UInt8} (h : fmtP f = some s) {ws rest : List Wrd} {n : Nat} (a : Int) (hw : ws.map tok = (fmtK f).tail) (hn : (ws ++ rest).length < n) : pFmt n a (ws ++ rest) = .ok { f with at_ := a } rest := by
 obtain ⟨hnm, -, -, -, hb, hs, -⟩ := qG h;have hc : (fmtK f).tail = mk1 f.name :: mk3 sLb :: (itK (fmtI f) ++ [mk3 sRb]) := by unfold fmtK; rw [fmtI_K]; rfl
 rw [hc] at hw;obtain ⟨p1, w1, rfl, g1⟩ := zK hw;obtain ⟨p2, v, rfl, hv⟩ := zK g1;simp only [List.cons_append, List.length_cons] at hn;show pFmt n a (⟨1, f.name, 0, p1⟩ :: ⟨3, sLb, 0, p2⟩ :: (v ++ rest)) = _
 have hnum : ∀ (x : FmtT) (k : Int) (upd : Int → FmtT) (ws rest : List Wrd), ws.map tok = [mk2 k, mk3 sSemi] → ((pNumber (ws ++ rest)).bind fun a ts => (must sSemi ts).bind fun _ ts => .ok (upd a) ts : R FmtT) = .ok (upd k) rest := by
  intro x k upd ws rest hw;obtain ⟨q1, u1, rfl, k1⟩ := zK hw;obtain ⟨q2, u2, rfl, k2⟩ := zK k1;obtain rfl := yS k2;show (pNumber (⟨2, [], k, q1⟩ :: ⟨3, sSemi, 0, q2⟩ :: rest)).bind _ = _;rw [num_ok, R.bind, xu, R.bind]
 have hnms : ∀ (l : List (List UInt8)) (upd : List (List UInt8) → FmtT) (ws rest : List Wrd), l.length ≠ 0 → (∀ s ∈ l, nameP s = true) → ws.map tok = joinK l ++ [mk3 sSemi] → (ws ++ rest).length < n → ((pNames n [] (ws ++ rest)).bind fun l ts => (must sSemi ts).bind fun _ ts => .ok (upd l) ts : R FmtT) = .ok (upd l) rest := by
  intro l upd ws rest hl0 hl hw hlen;obtain ⟨u, w2, rfl, hu, g2⟩ := yi hw;obtain ⟨q, w3, rfl, g3⟩ := zK g2;obtain rfl := yS g3;rw [List.append_assoc] at hlen ⊢;have h1 := kH (l := l) (fun e => hl0 (by rw [e]; rfl)) hl [] u (⟨3, sSemi, 0, q⟩ :: rest) n hu rfl hlen;show (pNames n [] (u ++ (⟨3, sSemi, 0, q⟩ :: rest))).bind _ = _;rw [h1, R.bind, xu, R.bind]
  rfl
 rw [pFmt, ua hnm, R.bind, xu, R.bind, u6 (k := n - 1) (fmtI f) [] ⟨f.name, 0, 0, 0, [], [], a⟩ v rest n ?_ (fun _ _ h => by cases h) (WD f) hv (by omega) (by omega) (by omega), Vd];intro i hi;unfold fmtI at hi;rcases List.mem_append.1 hi with hi | hi
 ·obtain ⟨hb, rfl⟩ := xq hi;exact ⟨show sLeast ∈ fmtKeys by decide, show sLeast ≠ sRb by decide, fun x ws rest hw hl => hnum x _ (fun a => { x with least := a }) ws rest hw⟩
 rcases List.mem_append.1 hi with hi | hi
 ·obtain ⟨hb, rfl⟩ := xq hi;exact ⟨show sMost ∈ fmtKeys by decide, show sMost ≠ sRb by decide, fun x ws rest hw hl => hnum x _ (fun a => { x with most := a }) ws rest hw⟩
 rcases List.mem_append.1 hi with hi | hi
 ·obtain ⟨hb, rfl⟩ := xq hi;exact ⟨show sCopies ∈ fmtKeys by decide, show sCopies ≠ sRb by decide, fun x ws rest hw hl => hnum x _ (fun a => { x with copies := a }) ws rest hw⟩
 rcases List.mem_append.1 hi with hi | hi
 ·obtain ⟨hb2, rfl⟩ := xq hi;exact ⟨show sBanned ∈ fmtKeys by decide, show sBanned ≠ sRb by decide, fun x ws rest hw hl => hnms f.banned (fun l => { x with banned := l }) ws rest (of_decide_eq_true hb2) hb hw (by omega)⟩
 ·obtain ⟨hb2, rfl⟩ := xq hi;exact ⟨show sSingle ∈ fmtKeys by decide, show sSingle ≠ sRb by decide, fun x ws rest hw hl => hnms f.single (fun l => { x with single := l }) ws rest (of_decide_eq_true hb2) hs hw (by omega)⟩
def stC (c : CardT) : CardT := { c with at_ := 0 }
def stF (f : FmtT) : FmtT := { f with at_ := 0 }
theorem Wx : ∀ {l : List (Option (List UInt8) × List Tok)} {s : List UInt8}, (∀ p ∈ l, ∀ t, p.1 = some t → Lay false t p.2) → catP (l.map (·.1)) = some s → Lay false s (l.flatMap (·.2))
 | [], s, _, h => by
   cases h;exact Lay.nil
 | p :: r, s, hl, h => by
   rw [List.map_cons, catP] at h;cases hp : p.1 with
   | none => rw [hp] at h; cases h
   | some u =>
     rw [hp] at h;cases hr : catP (r.map (·.1)) with
     | none => rw [hr] at h; cases h
     | some v =>
       rw [hr] at h;cases h;rw [List.flatMap_cons];exact (hl p (.head _) u hp).fm (Wx (fun q hq => hl q (.tail _ hq)) hr)
theorem Wy : ∀ {l : List (Option (List UInt8))} {s : List UInt8}, catP l = some s → ∀ x ∈ l, ∃ t, x = some t
 | [], _, _, _, hx => by cases hx
 | y :: r, s, h, x, hx => by
   rw [catP] at h;cases hp : y with
   | none => rw [hp] at h; cases h
   | some u =>
     rw [hp] at h;cases hr : catP r with
     | none => rw [hr] at h; cases h
     | some v =>
       rcases List.mem_cons.1 hx with rfl | hx
       ·exact ⟨u, hp⟩
       ·exact Wy hr x hx
theorem ZG {n0 : Nat} {e : Int} : ∀ (fs acc : List FmtT) (cs : List CardT) (ws : List Wrd) (N : Nat), (∀ f ∈ fs, ∃ t, fmtP f = some t) → ws.map tok = fs.flatMap fmtK → acc.length + fs.length ≤ 240 → (ws ++ [(⟨0, [], 0, e⟩ : Wrd)]).length < N → (ws ++ [(⟨0, [], 0, e⟩ : Wrd)]).length ≤ n0 →
  ∃ fs', pBook cardWt n0 N cs acc (ws ++ [⟨0, [], 0, e⟩]) = .ok ⟨cs, acc ++ fs'⟩ [⟨0, [], 0, e⟩] ∧ fs'.map stF = fs.map stF
 | [], acc, cs, ws, N, _, hw, _, hN, _ => by
   obtain rfl := yS hw;obtain ⟨i, rfl⟩ : ∃ i, N = i + 1 := ⟨N - 1, by omega⟩;refine ⟨[], ?_, rfl⟩;show pBook cardWt n0 (i + 1) cs acc [⟨0, [], 0, e⟩] = _;rw [pBook, if_pos (show (hd [(⟨0, [], 0, e⟩ : Wrd)]).kind = 0 from rfl), List.append_nil]
 | f :: r, acc, cs, ws, N, hf, hw, hl, hN, h0 => by
   rw [List.flatMap_cons] at hw;obtain ⟨u, v, rfl, hu, hv⟩ := yi hw;obtain ⟨t, ht⟩ := hf f (.head _);have hu0 : u.map tok = mk1 sFormat :: (fmtK f).tail := hu;obtain ⟨a, u', rfl, hu'⟩ := zK hu0;obtain ⟨i, rfl⟩ : ∃ i, N = i + 1 := ⟨N - 1, by omega⟩;rw [List.append_assoc, List.cons_append, List.length_cons] at hN h0
   have h1 := QM ht (rest := v ++ [⟨0, [], 0, e⟩]) (n := n0) a hu' (by omega);rw [List.length_append] at hN h0;obtain ⟨fs', e2, e3⟩ := ZG (n0 := n0) (e := e) r (acc ++ [{ f with at_ := a }]) cs v i (fun g hg => hf g (.tail _ hg)) hv (by simp only [List.length_append, List.length_cons, List.length_nil] at hl ⊢; omega) (by omega) (by omega)
   refine ⟨{ f with at_ := a } :: fs', ?_, by rw [List.map_cons, List.map_cons, e3]; rfl⟩;rw [List.append_assoc];show pBook cardWt n0 (i + 1) cs acc (⟨1, sFormat, 0, a⟩ :: (u' ++ (v ++ [⟨0, [], 0, e⟩]))) = _;simp only [List.length_cons] at hl
   rw [pBook, if_neg (show ¬ (hd (⟨1, sFormat, 0, a⟩ :: (u' ++ (v ++ [⟨0, [], 0, e⟩])))).kind = 0 from fun h => absurd h (show ¬ (1 : Int) = 0 by decide)), if_neg (fun h => absurd h.1 (show ¬ isW sCard (⟨1, sFormat, 0, a⟩ :: (u' ++ (v ++ [⟨0, [], 0, e⟩]))) = true from fun h => by cases h)),
    if_pos (show isW sFormat (⟨1, sFormat, 0, a⟩ :: (u' ++ (v ++ [⟨0, [], 0, e⟩]))) = true from rfl), if_neg (by omega)]
   show (pFmt n0 a (u' ++ (v ++ [⟨0, [], 0, e⟩]))).bind _ = _;rw [h1, R.bind, e2, List.append_assoc]
   rfl
theorem kb {n0 : Nat} {e : Int} : ∀ (cs acc : List CardT) (fs : List FmtT) (ws : List Wrd) (N : Nat), (∀ c ∈ cs, ∃ t, cardP c = some t) → (∀ f ∈ fs, ∃ t, fmtP f = some t) → ws.map tok = cs.flatMap cardK ++ fs.flatMap fmtK → acc.length + cs.length ≤ 240 → fs.length ≤ 240 → (ws ++ [(⟨0, [], 0, e⟩ : Wrd)]).length < N → (ws ++ [(⟨0, [], 0, e⟩ : Wrd)]).length ≤ n0 →
  ∃ cs' fs', pBook cardWt n0 N acc [] (ws ++ [⟨0, [], 0, e⟩]) = .ok ⟨acc ++ cs', fs'⟩ [⟨0, [], 0, e⟩] ∧ cs'.map stC = cs.map stC ∧ fs'.map stF = fs.map stF
 | [], acc, fs, ws, N, _, hf, hw, _, hl, hN, h0 => by
   obtain ⟨fs', h1, h2⟩ := ZG (n0 := n0) (e := e) fs [] acc ws N hf hw (by simpa using hl) hN h0;exact ⟨[], fs', by rw [h1, List.append_nil]; rfl, rfl, h2⟩
 | c :: r, acc, fs, ws, N, hc, hf, hw, hl, hl2, hN, h0 => by
   rw [List.flatMap_cons, List.append_assoc] at hw;obtain ⟨u, v, rfl, hu, hv⟩ := yi hw;obtain ⟨t, ht⟩ := hc c (.head _);have hu0 : u.map tok = mk1 sCard :: (cardK c).tail := hu;obtain ⟨a, u', rfl, hu'⟩ := zK hu0;obtain ⟨i, rfl⟩ : ∃ i, N = i + 1 := ⟨N - 1, by omega⟩;rw [List.append_assoc, List.cons_append, List.length_cons] at hN h0
   have h1 := Vw ht (rest := v ++ [⟨0, [], 0, e⟩]) (n := n0) a hu' (by omega);rw [List.length_append] at hN h0;obtain ⟨cs', fs', e2, e3, e4⟩ := kb (n0 := n0) (e := e) r (acc ++ [{ c with at_ := a }]) fs v i (fun g hg => hc g (.tail _ hg)) hf hv (by simp only [List.length_append, List.length_cons, List.length_nil] at hl ⊢; omega) hl2 (by omega) (by omega)
   refine ⟨{ c with at_ := a } :: cs', fs', ?_, by rw [List.map_cons, List.map_cons, e3]; rfl, e4⟩;rw [List.append_assoc];show pBook cardWt n0 (i + 1) acc [] (⟨1, sCard, 0, a⟩ :: (u' ++ (v ++ [⟨0, [], 0, e⟩]))) = _;simp only [List.length_cons] at hl
   rw [pBook, if_neg (show ¬ (hd (⟨1, sCard, 0, a⟩ :: (u' ++ (v ++ [⟨0, [], 0, e⟩])))).kind = 0 from fun h => absurd h (show ¬ (1 : Int) = 0 by decide)), if_pos ⟨rfl, rfl⟩, if_neg (by omega)];show (pCard cardWt n0 a (u' ++ (v ++ [⟨0, [], 0, e⟩]))).bind _ = _;rw [h1, R.bind, e2, List.append_assoc]
   rfl
theorem Vy {b : BkT} {s : List UInt8} (h : bookP b = some s) (hl : s.length ≤ 65536) : ∃ ws y ts, cutP s = .ok ws ∧ pBook cardWt ws.length (ws.length + 1) [] [] ws = .ok y ts ∧ y.cards.map stC = b.cards.map stC ∧ y.fmts.map stF = b.fmts.map stF := by
 unfold bookP at h
 split at h
 ·rename_i h240
  have hall := Wy h;have hc : ∀ c ∈ b.cards, ∃ t, cardP c = some t := fun c hc => hall _ (List.mem_append.2 (.inl (List.mem_map_of_mem hc)));have hf : ∀ f ∈ b.fmts, ∃ t, fmtP f = some t := fun f hf => hall _ (List.mem_append.2 (.inr (List.mem_map_of_mem hf)))
  have hlay : Lay false s (b.cards.flatMap cardK ++ b.fmts.flatMap fmtK) := by
   have h1 : catP ((b.cards.map (fun c => (cardP c, cardK c)) ++ b.fmts.map (fun f => (fmtP f, fmtK f))).map (·.1)) = some s := by
    rw [List.map_append, List.map_map, List.map_map];exact h
   refine (Wx (fun p hp t ht => ?_) h1).congr rfl (by rw [List.flatMap_append, List.flatMap_map, List.flatMap_map]);rcases List.mem_append.1 hp with hp | hp
   ·obtain ⟨c, -, rfl⟩ := List.mem_map.1 hp;exact Qe ht
   ·obtain ⟨f, -, rfl⟩ := List.mem_map.1 hp;exact fmt_lay ht
  obtain ⟨ws, hw, hgo⟩ := hlay s 0 [] (by rw [List.drop_zero, List.append_nil]) (fun e => by cases e)
  have hcut : cutP s = .ok (ws ++ [⟨0, [], 0, s.length⟩]) := by
   unfold cutP;rw [if_neg (by omega), hgo [], Nat.zero_add, Zz (Nat.lt_irrefl _)]
   rfl
  obtain ⟨cs', fs', e1, e2, e3⟩ := kb (e := s.length) (n0 := (ws ++ [(⟨0, [], 0, (s.length : Int)⟩ : Wrd)]).length) b.cards [] b.fmts ws ((ws ++ [(⟨0, [], 0, (s.length : Int)⟩ : Wrd)]).length + 1) hc hf hw (by simpa using h240.1) h240.2 (Nat.lt_succ_self _) (Nat.le_refl _);exact ⟨_, ⟨[] ++ cs', fs'⟩, _, hcut, e1, e2, e3⟩
 ·cases h
end Tp
namespace Tp
open Go Go.Eng Wd Kd
structure GoodW (L : Int) (w : Wrd) : Prop where
 name : w.kind = 1 → Word w.text
 num : w.kind = 2 → 0 ≤ w.n ∧ w.n ≤ 999
 lo : 0 ≤ w.at_
 hi : w.at_ ≤ L
def GW (L : Int) (ts : List Wrd) : Prop := ∀ w ∈ ts, GoodW L w
theorem GW.tail {L : Int} {ts : List Wrd} (h : GW L ts) : GW L ts.tail := fun w hw => h w (List.mem_of_mem_tail hw)
theorem GW.hd {L : Int} {ts : List Wrd} (h : GW L ts) (hL : 0 ≤ L) : GoodW L (hd ts) := by
 cases ts with
 | nil => exact ⟨fun h => absurd h (show ¬ (0 : Int) = 1 by decide), fun h => absurd h (show ¬ (0 : Int) = 2 by decide), Int.le_refl _, hL⟩
 | cons w r => exact h w (.head _)
theorem Ut {s : List UInt8} {p q : Nat} (hq : q ≤ s.length) : ∀ (d i n m : Nat), q - (p + i) = d → p + i ≤ q → nameGo s (p + i) n = (q, m) → nameGo (seg s p q) i n = (q - p, m) := by
 have hlen : (seg s p q).length = q - p := by
  unfold seg;rw [List.length_take, List.length_drop];omega
 intro d
 induction d using Nat.strongRecOn with
 | _ d ih =>
 intro i n m hd hi hn;by_cases hlt : p + i < q
 ·cases hx : rn s (p + i) with
  | none =>
    rw [xE (by omega) hx] at hn;have := congrArg Prod.fst hn;dsimp only at this;omega
  | some c =>
    obtain ⟨x, k⟩ := c;rw [yP (by omega) hx] at hn;have hk := yh hx
    split at hn
    ·have := congrArg Prod.fst hn;dsimp only at this;omega
    ·rename_i hst
     have hle := (yw s (p + i + k) (n + 1)).le;rw [hn] at hle;dsimp only at hle
     have hx2 : rn (seg s p q) i = some (x, k) := by
      unfold seg;refine rn_take ?_ (by omega);rw [qQ];exact hx
     rw [yP (by omega) hx2, if_neg hst];exact ih (q - (p + (i + k))) (by omega) (i + k) (n + 1) m rfl (by omega) (by rw [← Nat.add_assoc]; exact hn)
 ·have hie : p + i = q := by omega
  have hm : m = n := by
   rw [hie] at hn;by_cases hqs : q < s.length
   ·cases hx : rn s q with
    | none => rw [xE hqs hx] at hn; exact (congrArg Prod.snd hn).symm
    | some c =>
      obtain ⟨x, k⟩ := c;rw [yP hqs hx] at hn;have hk := yh hx
      split at hn
      ·exact (congrArg Prod.snd hn).symm
      ·have hle := (yw s (q + k) (n + 1)).le;rw [hn] at hle;dsimp only at hle;omega
   ·rw [nameGo, if_neg hqs] at hn;exact (congrArg Prod.snd hn).symm
  rw [nameGo, if_neg (by omega), hm]
  congr 1
  omega
theorem VG {s : List UInt8} {p q : Nat} {ws : List Wrd} (hp : p < s.length) (h : stepR s p = .next q ws) : GW s.length ws := by
 unfold stepR at h;cases hx : rn s p with
 | none => rw [hx] at h; cases h
 | some c =>
   obtain ⟨x, k⟩ := c;rw [hx] at h;dsimp only at h
   split at h
   ·cases h; exact fun w hw => by cases hw
   split at h
   ·split at h
    ·cases h
    ·cases h; exact fun w hw => by cases hw
   split at h
   ·rename_i hl
    unfold stepN at h
    split at h
    ·cases h
    ·rename_i h24
     cases h;intro w hw;rw [List.mem_singleton] at hw;subst hw;have hti := yw s p 0;have hle := hti.le;have hqs := hti.len (Nat.le_of_lt hp);have hseg := Ut (s := s) (p := p) hqs _ 0 0 _ rfl hle rfl
     have hlen : (seg s p (nameGo s p 0).1).length = (nameGo s p 0).1 - p := by
      unfold seg;rw [List.length_take, List.length_drop];omega
     have h1 : 1 ≤ (nameGo s p 0).2 := by
      rw [yP hp hx, if_neg (by unfold stopP; rw [hl]; simp)]
      have : ∀ (d p n : Nat), s.length - p = d → n ≤ (nameGo s p n).2 := by
       intro d
       induction d using Nat.strongRecOn with
       | _ d ih =>
       intro p n hd;by_cases hp : p < s.length
       ·cases hx : rn s p with
        | none => rw [xE hp hx]; exact Nat.le_refl _
        | some c =>
          obtain ⟨x, k⟩ := c;have hk := yh hx;rw [yP hp hx]
          split
          ·exact Nat.le_refl _
          ·have := ih (s.length - (p + k)) (by omega) (p + k) (n + 1) rfl;omega
       ·rw [nameGo, if_neg hp]; exact Nat.le_refl _
      exact this _ (p + k) 1 rfl
     exact ⟨fun _ => ⟨by rw [hseg, hlen], by rw [hseg]; exact h1, by rw [hseg]; show (nameGo s p 0).2 ≤ 24; omega, by rw [hlen]; omega⟩, fun h => absurd h (show ¬ (1 : Int) = 2 by decide), Int.natCast_nonneg _, by dsimp only; omega⟩
   split at h
   ·unfold stepD at h
    split at h
    ·cases h
    split at h
    ·cases h
    ·rename_i h999
     cases h;intro w hw;rw [List.mem_singleton] at hw;subst hw;exact ⟨fun h => absurd h (show ¬ (2 : Int) = 1 by decide), fun _ => ⟨Int.natCast_nonneg _, by dsimp only; omega⟩, Int.natCast_nonneg _, by dsimp only; omega⟩
   ·unfold stepM at h
    split at h
    ·cases h
    ·cases h;intro w hw;rw [List.mem_singleton] at hw;subst hw;exact ⟨fun h => absurd h (show ¬ (3 : Int) = 1 by decide), fun h => absurd h (show ¬ (3 : Int) = 2 by decide), Int.natCast_nonneg _, by dsimp only; omega⟩
theorem go_good {s : List UInt8} : ∀ (d p : Nat) (acc ws : List Wrd), s.length - p = d → GW s.length acc → goR s p acc = .ok ws → GW s.length ws := by
 intro d
 induction d using Nat.strongRecOn with
 | _ d ih =>
 intro p acc ws hd ha h;rw [goR] at h
 split at h
 ·rename_i hp
  cases hs : stepR s p with
  | err e a => rw [hs] at h; cases h
  | next q us =>
    rw [hs] at h;dsimp only at h
    split at h
    ·rename_i hpq
     exact ih (s.length - q) (by omega) q _ ws rfl (fun w hw => by
      rcases List.mem_append.1 hw with hw | hw
      ·exact ha w hw
      ·exact VG hp hs w hw) h
    ·cases h; exact fun w hw => by cases hw
 ·cases h;intro w hw;rcases List.mem_append.1 hw with hw | hw
  ·exact ha w hw
  ·rw [List.mem_singleton] at hw;subst hw;exact ⟨fun h => absurd h (show ¬ (0 : Int) = 1 by decide), fun h => absurd h (show ¬ (0 : Int) = 2 by decide), Int.natCast_nonneg _, Int.le_refl _⟩
theorem QW {s : List UInt8} {ws : List Wrd} (h : cutP s = .ok ws) : GW s.length ws := by
 unfold cutP at h
 split at h
 ·cases h
 ·exact go_good _ 0 [] ws rfl (fun w hw => by cases hw) h
structure Fits {α : Type} (L : Int) (r : R α) (Q : α → Prop) : Prop where
 ok : ∀ x ts, r = .ok x ts → Q x ∧ GW L ts
 bad : ∀ e a, r = .bad e a → e ≠ 0 ∧ 0 ≤ a ∧ a ≤ L
section
variable {L : Int} {α β : Type}
theorem Fits.ret {x : α} {ts : List Wrd} {Q : α → Prop} (hq : Q x) (hg : GW L ts) : Fits L (.ok x ts) Q := ⟨fun y us e => (by cases e; exact ⟨hq, hg⟩), fun e a h => (by cases h)⟩
theorem Fits.fail {e : Int} {ts : List Wrd} {Q : α → Prop} (hL : 0 ≤ L) (hg : GW L ts) (he : e ≠ 0 := by decide) : Fits L (fail e ts : R α) Q := ⟨fun y us e => (by cases e), fun e a h => (by cases h; exact ⟨he, (hg.hd hL).lo, (hg.hd hL).hi⟩)⟩
theorem Fits.out {Q : α → Prop} : Fits L (.out : R α) Q := ⟨fun y us e => (by cases e), fun e a h => (by cases h)⟩
theorem Fits.bind {r : R α} {Q : α → Prop} {f : α → List Wrd → R β} {Q' : β → Prop} (h : Fits L r Q) (hf : ∀ x ts, Q x → GW L ts → Fits L (f x ts) Q') : Fits L (r.bind f) Q' := by
 cases r with
 | ok x ts => exact hf x ts (h.ok x ts rfl).1 (h.ok x ts rfl).2
 | bad e a => exact ⟨fun y us e => (by cases e), fun e' a' h' => (by cases h'; exact h.bad e a rfl)⟩
 | out => exact .out
theorem Fits.ite {c : Prop} [Decidable c] {a b : R α} {Q : α → Prop} (h1 : c → Fits L a Q) (h2 : ¬ c → Fits L b Q) : Fits L (if c then a else b) Q := by
 by_cases h : c
 ·rw [if_pos h]; exact h1 h
 ·rw [if_neg h]; exact h2 h
theorem Fits.mono {r : R α} {Q Q' : α → Prop} (h : Fits L r Q) (hq : ∀ x, Q x → Q' x) : Fits L r Q' := ⟨fun x ts e => ⟨hq x (h.ok x ts e).1, (h.ok x ts e).2⟩, h.bad⟩
variable (hL : 0 ≤ L) {ts : List Wrd} (hg : GW L ts)
include hL hg
theorem zp (s : List UInt8) : Fits L (must s ts) fun _ => True := .ite (fun _ => .ret trivial hg.tail) fun _ => .fail hL hg
theorem qC : ∀ (l : List (List UInt8)), Fits L (musts l ts) fun _ => True := by
 intro l
 induction l generalizing ts with
 | nil => exact .ret trivial hg
 | cons s r ih => exact (zp hL hg s).bind fun _ ts _ h => ih h
theorem yZ : Fits L (pNumber ts) fun n => 0 ≤ n ∧ n ≤ 999 := .ite (fun h => .ret ((hg.hd hL).num h) hg.tail) fun _ => .fail hL hg
theorem vE : Fits L (pName ts) fun s => nameP s = true := .ite (fun h => .ret (by
  have hw := (hg.hd hL).name h.1;unfold nameP;rw [h.2, decide_eq_true ⟨hw.lo, hw.hi, hw.go, hw.len⟩]
  rfl) hg.tail) fun _ => .fail hL hg
theorem wJ : Fits L (pSide ts) fun w => ∃ s, sideP w = some s := .ite (fun _ => .ret ⟨sMe, rfl⟩ hg.tail) fun _ => .ite (fun _ => .ret ⟨sFoe, rfl⟩ hg.tail) fun _ => .fail hL hg
theorem Ya : Fits L (pWho ts) fun w => ∃ s, whoP w = some s := .ite (fun _ => .ret ⟨sTarget, rfl⟩ hg.tail) fun _ => (wJ hL hg).mono fun w ⟨s, hs⟩ => by
 unfold whoP
 split
 ·exact ⟨_, rfl⟩
 ·exact ⟨s, hs⟩
theorem jp (d : Nat) : Fits L (pIn d ts) fun _ => d + 1 ≤ 8 := .ite (fun _ => .fail hL hg) fun h => .ret (by omega) hg
end
theorem w9 {L : Int} {α : Type} {one : List Wrd → R α} {signs : List (List UInt8 × Int)} {put : Int → α → α → α} {A Y : α → Prop} (ho : ∀ ts, GW L ts → Fits L (one ts) Y) (hp : ∀ sg ∈ signs, ∀ x y, A x → Y y → A (put sg.2 x y)) : ∀ (n : Nat) (x : α) (ts : List Wrd), A x → GW L ts → Fits L (pRest one signs put n x ts) A
 | 0, _, _, _, _ => .out
 | n + 1, x, ts, hx, hg => by
   rw [pRest]
   split
   ·exact .ret hx hg
   ·rename_i sg hsg
    exact (ho _ hg.tail).bind fun y ts hy hg => w9 ho hp n _ ts (hp sg (List.mem_of_find?_eq_some hsg) x y hx hy) hg
theorem xD {f : List UInt8 → List UInt8 → List UInt8} {a b : Option (List UInt8)} (ha : ∃ s, a = some s) (hb : ∃ s, b = some s) : ∃ s, putP f a b = some s := by
 obtain ⟨s, rfl⟩ := ha;obtain ⟨t, rfl⟩ := hb;exact ⟨_, rfl⟩
theorem va {d : Nat} {f : Nat → Option (List UInt8)} (hd : d + 1 ≤ 8) (h : ∃ s, f (d + 1) = some s) : ∃ s, inP d f = some s := by
 obtain ⟨s, h⟩ := h;exact ⟨s, by unfold inP; rw [if_pos hd, h]⟩
theorem wn {br : Bool} {d : Nat} {f : Nat → Option (List UInt8)} (h1 : br = true → d + 1 ≤ 8 ∧ ∃ s, f (d + 1) = some s) (h2 : br = false → ∃ s, f d = some s) : ∃ s, brP br d f = some s := by
 cases br with
 | true =>
   obtain ⟨hd, h⟩ := h1 rfl;obtain ⟨s, h⟩ := va hd h;exact ⟨_, by unfold brP; rw [if_pos rfl, h]; rfl⟩
 | false => exact h2 rfl
theorem jo {d : Nat} {f : Nat → Option (List UInt8)} {s : List UInt8} (hf : ∀ d s, f (d + 1) = some s → f d = some s) (h : inP (d + 1) f = some s) : inP d f = some s := by
 obtain ⟨h1, h2⟩ := yQ h;unfold inP;rw [if_pos (by omega)];exact hf _ _ h2
theorem wo {br : Bool} {d : Nat} {f : Nat → Option (List UInt8)} {s : List UInt8} (hf : ∀ d s, f (d + 1) = some s → f d = some s) (h : brP br (d + 1) f = some s) : brP br d f = some s := by
 cases br with
 | true =>
   rcases wU h with ⟨h0, -⟩ | ⟨-, hd, t, h1, rfl⟩
   ·cases h0
   ·have : inP d f = some t := by unfold inP; rw [if_pos (by omega)]; exact hf _ _ h1
    unfold brP;rw [if_pos rfl, this]
    rfl
 | false => exact hf _ _ h
theorem vx {f : List UInt8 → List UInt8 → List UInt8} {a b a' b' : Option (List UInt8)} {s : List UInt8} (ha : ∀ s, a = some s → a' = some s) (hb : ∀ s, b = some s → b' = some s) (h : putP f a b = some s) : putP f a' b' = some s := by
 obtain ⟨u, v, h1, h2, rfl⟩ := zr h;rw [ha _ h1, hb _ h2]
 rfl
theorem vy : ∀ (x : NumT) (d : Nat) (s : List UInt8), numP x (d + 1) = some s → numP x d = some s
 | .mk op n who k, d, s, h => by
   rcases vC h with ⟨hk, h3⟩ | ⟨a, b, hk, hn0, hw0, h3⟩
   ·subst hk;rw [yR];exact h3
   ·have ia : ∀ d s, numP a (d + 1) = some s → numP a d = some s := fun d s h => vy a d s h;have ib : ∀ d s, numP b (d + 1) = some s → numP b d = some s := fun d s h => vy b d s h;subst hk hn0 hw0;rw [xz, if_neg (fun h => h ⟨rfl, rfl⟩)];unfold twoP at h3 ⊢
    split
    ·rename_i ho
     rw [if_pos ho] at h3;exact vx (fun s h => jo ia h) (fun s h => jo ib h) h3
    rename_i h11
    rw [if_neg h11] at h3
    split
    ·rename_i ho
     rw [if_pos ho] at h3;exact vx (fun s h => jo ia h) (fun s h => jo ib h) h3
    rename_i h12
    rw [if_neg h12] at h3
    split
    ·rename_i ho
     rw [if_pos ho] at h3;exact vx (fun s h => wo ia h) (fun s h => wo ib h) h3
    rename_i h10
    rw [if_neg h10] at h3
    split
    ·rename_i ho
     rw [if_pos ho] at h3;exact vx (fun s h => ia _ _ h) (fun s h => wo ib h) h3
    rename_i h8
    rw [if_neg h8] at h3
    split
    ·rename_i ho
     rw [if_pos ho] at h3;exact vx (fun s h => ia _ _ h) (fun s h => wo ib h) h3
    rename_i h9
    rw [if_neg h9] at h3;cases h3
termination_by x => SizeOf.sizeOf x
decreasing_by
 all_goals
  subst hk
  simp
  omega
def QS (d : Nat) (x : NumT) : Prop := ∃ s, numP x d = some s
def QO (d : Nat) (x : NumT) : Prop := QS d x ∧ (isSum x = true ∨ opN x = 10 → d + 1 ≤ 8 ∧ QS (d + 1) x)
def QA (d : Nat) (x : NumT) : Prop := QS d x ∧ (isSum x = true → d + 1 ≤ 8 ∧ QS (d + 1) x)
theorem QO.leaf {op n who : Int} {d : Nat} (h : ∃ s, leafP op n who = some s) (ho : ¬ 8 ≤ op) : QO d (plainN op n who) := by
 obtain ⟨s, h⟩ := h;refine ⟨⟨s, by unfold plainN; rw [yR, h]⟩, fun h2 => ?_⟩;rcases h2 with h2 | h2
 ·have h2 : (decide (op = 8) || decide (op = 9)) = true := h2;rw [decide_eq_false (by omega), decide_eq_false (by omega)] at h2;cases h2
 ·exact absurd (show op = 10 from h2) (by omega)
theorem QO.min {op : Int} {a b : NumT} {d : Nat} (ho : op = 11 ∨ op = 12) (hd : d + 1 ≤ 8) (ha : QS (d + 1) a) (hb : QS (d + 1) b) : QO d (putN op a b) := by
 refine ⟨?_, fun h2 => ?_⟩
 ·unfold QS putN;rw [xz, if_neg (fun h => h ⟨rfl, rfl⟩)];rcases ho with rfl | rfl
  ·exact xD (f := minT sMin) (va hd ha) (va hd hb)
  ·exact xD (f := minT sMax) (va hd ha) (va hd hb)
 ·rcases ho with rfl | rfl <;> rcases h2 with h2 | h2 <;> cases h2
theorem YD {L : Int} (hL : 0 ≤ L) {sum : Nat → List Wrd → R NumT} (hs : ∀ d ts, GW L ts → Fits L (sum d ts) (QS d)) (two : Bool) (d : Nat) {ts : List Wrd} (hg : GW L ts) : Fits L (pBr sum two d ts) fun x => d + 1 ≤ 8 ∧ QS (d + 1) x.1 ∧ (two = true → QS (d + 1) x.2) := by
 unfold pBr;refine .ite (fun _ => ?_) fun _ => .fail hL hg;refine (jp hL hg d).bind fun _ ts hd hg => (zp hL hg _).bind fun _ ts _ hg => (hs _ _ hg).bind fun a ts ha hg => .ite (fun _ => ?_) fun h => ?_
 ·exact (zp hL hg _).bind fun _ ts _ hg => (hs _ _ hg).bind fun b ts hb hg => (zp hL hg _).bind fun _ ts _ hg => .ret ⟨hd, ha, fun _ => hb⟩ hg
 ·exact (zp hL hg _).bind fun _ ts _ hg => .ret ⟨hd, ha, fun e => absurd e h⟩ hg
theorem Yt {L : Int} (hL : 0 ≤ L) {sum : Nat → List Wrd → R NumT} (hs : ∀ d ts, GW L ts → Fits L (sum d ts) (QS d)) (d : Nat) {ts : List Wrd} (hg : GW L ts) : Fits L (pOne sum d ts) (QO d) := by
 unfold pOne;refine .ite (fun _ => ?_) fun _ => .ite (fun h2 => ?_) fun _ => ?_
 ·refine (YD hL hs false d hg).bind fun x ts ⟨hd, ha, _⟩ hg => .ret ?_ hg;obtain ⟨s, hs⟩ := ha;exact ⟨⟨s, vy _ _ _ hs⟩, fun _ => ⟨hd, s, hs⟩⟩
 ·have hn := (hg.hd hL).num h2;exact .ret (.leaf ⟨_, by unfold leafP; rw [if_pos rfl, if_pos ⟨rfl, hn.1, hn.2⟩]⟩ (by omega)) hg.tail
 split
 ·rename_i sg hsg
  have hm := List.mem_of_find?_eq_some hsg;refine (zp hL hg.tail _).bind fun _ ts _ hg => (wJ hL hg).bind fun w ts ⟨s, hw⟩ hg => (zp hL hg _).bind fun _ ts _ hg => .ret ?_ hg;unfold whos at hm;simp only [List.mem_cons, List.not_mem_nil, or_false] at hm;rcases hm with rfl | rfl | rfl | rfl
  ·exact .leaf ⟨_, by show (sideP w).map _ = _; rw [hw]; rfl⟩ (by decide)
  ·exact .leaf ⟨_, by show (sideP w).map _ = _; rw [hw]; rfl⟩ (by decide)
  ·exact .leaf ⟨_, by show (sideP w).map _ = _; rw [hw]; rfl⟩ (by decide)
  ·exact .leaf ⟨_, by show (sideP w).map _ = _; rw [hw]; rfl⟩ (by decide)
 ·refine .ite (fun _ => (qC hL hg.tail _).bind fun _ ts _ hg => .ret (.leaf ⟨_, rfl⟩ (by decide)) hg) fun _ => .ite (fun _ => (qC hL hg.tail _).bind fun _ ts _ hg => .ret (.leaf ⟨_, rfl⟩ (by decide)) hg) fun _ => .ite (fun _ => (qC hL hg.tail _).bind fun _ ts _ hg => .ret (.leaf ⟨_, rfl⟩ (by decide)) hg) fun _ => ?_
  refine .ite (fun _ => (YD hL hs true d hg.tail).bind fun x ts ⟨hd, ha, hb⟩ hg => .ret (.min (.inl rfl) hd ha (hb rfl)) hg) fun _ => .ite (fun _ => (YD hL hs true d hg.tail).bind fun x ts ⟨hd, ha, hb⟩ hg => .ret (.min (.inr rfl) hd ha (hb rfl)) hg) fun _ => .fail hL hg
theorem kx {L : Int} (hL : 0 ≤ L) {sum : Nat → List Wrd → R NumT} (hs : ∀ d ts, GW L ts → Fits L (sum d ts) (QS d)) (n d : Nat) {ts : List Wrd} (hg : GW L ts) : Fits L (pTerm sum n d ts) (QA d) := by
 unfold pTerm pRow;refine (Yt hL hs d hg).bind fun x ts hx hg => w9 (A := QA d) (Y := QO d) (fun ts hg => Yt hL hs d hg) (fun sg hsg a b ha hb => ?_) n x ts ⟨hx.1, fun h => hx.2 (.inl h)⟩ hg;unfold mulSigns at hsg;obtain rfl := List.mem_singleton.1 hsg;refine ⟨?_, fun h => by cases h⟩;unfold QS putN;rw [xz, if_neg (fun h => h ⟨rfl, rfl⟩)]
 refine xD (f := sgnT sStar) (wn (fun h => ha.2 h) (fun _ => ha.1)) (wn (fun h => hb.2 ?_) (fun _ => hb.1));rcases Bool.or_eq_true_iff.1 h with h | h
 ·exact .inl h
 ·exact .inr (of_decide_eq_true h)
theorem jz {L : Int} (hL : 0 ≤ L) : ∀ (n d : Nat) (ts : List Wrd), GW L ts → Fits L (pSum n d ts) (QS d)
 | 0, _, _, _ => .out
 | n + 1, d, ts, hg => by
   unfold pSum pRow;have hs := fun d ts hg => jz hL n d ts hg;refine (kx hL hs (n + 1) d hg).bind fun x ts hx hg => w9 (A := QS d) (Y := QA d) (fun ts hg => kx hL hs (n + 1) d hg) (fun sg hsg a b ha hb => ?_) (n + 1) x ts hx.1 hg;unfold sumSigns at hsg;simp only [List.mem_cons, List.not_mem_nil, or_false] at hsg;unfold QS putN;rw [xz, if_neg (fun h => h ⟨rfl, rfl⟩)]
   rcases hsg with rfl | rfl
   ·exact xD (f := sgnT sPlus) ha (wn (fun h => hb.2 h) (fun _ => hb.1))
   ·exact xD (f := sgnT sMinus) ha (wn (fun h => hb.2 h) (fun _ => hb.1))
end Tp
namespace Tp
open Go Go.Eng Wd Kd
theorem ZM : ∀ (x : CondT) (d : Nat) (s : List UInt8), condP x (d + 1) = some s → condP x d = some s
 | .mk op who name ns ks, d, s, h => by
   have hk : ∀ k ∈ ks, ∀ d s, condP k (d + 1) = some s → condP k d = some s := fun k _ d s h => ZM k d s h;have hc := xm h;clear h;generalize hx : CondT.mk op who name ns ks = x at hc;generalize hd : d + 1 = d1 at hc;cases hc with
   | @cmp o w a b _ u v hw ha hb =>
     cases hx;subst hd;have e : putP (sgnT w) (numP a d) (numP b d) = some (sgnT w u v) := by rw [vy _ _ _ ha, vy _ _ _ hb]; rfl
     rcases hw with ⟨rfl, rfl⟩ | ⟨rfl, rfl⟩ | ⟨rfl, rfl⟩
     ·rw [vg]; exact e
     ·rw [vf]; exact e
     ·rw [ve]; exact e
   | holds hn hs =>
     cases hx;rw [wm, if_pos hn, hs]
     rfl
   | @not k _ s hd2 h1 =>
     cases hx;subst hd;rw [ul]
     have e : inP d (fun d => brP (decide (opC k = 4) || decide (opC k = 5)) d (condP k)) = some s := by
      unfold inP;rw [if_pos (by omega)];exact wo (hk _ (.head _)) h1
     rw [e]
     rfl
   | or ha hb =>
     cases hx;subst hd;rw [qg, hk _ (.head _) _ _ ha, wo (hk _ (.tail _ (.head _))) hb]
     rfl
   | and ha hb =>
     cases hx;subst hd;rw [um, wo (hk _ (.head _)) ha, wo (hk _ (.tail _ (.head _))) hb]
     rfl
termination_by x => SizeOf.sizeOf x
decreasing_by
 have := List.sizeOf_lt_of_mem ‹k ∈ ks›
 simp
 omega
def QC (d : Nat) (x : CondT) : Prop := ∃ s, condP x d = some s
def QCO (d : Nat) (x : CondT) : Prop := QC d x ∧ (opC x = 4 ∨ opC x = 5 → d + 1 ≤ 8 ∧ QC (d + 1) x)
def QCA (d : Nat) (x : CondT) : Prop := QC d x ∧ (opC x = 5 → d + 1 ≤ 8 ∧ QC (d + 1) x)
theorem kw {L : Int} (hL : 0 ≤ L) {sum : Nat → List Wrd → R NumT} {cond : Nat → List Wrd → R CondT} (hs : ∀ d ts, GW L ts → Fits L (sum d ts) (QS d)) (hc : ∀ d ts, GW L ts → Fits L (cond d ts) (QC d)) : ∀ (n d : Nat) (ts : List Wrd), GW L ts → Fits L (pTest sum cond n d ts) (QCO d)
 | 0, _, _, _ => .out
 | n + 1, d, ts, hg => by
   unfold pTest;refine .ite (fun _ => ?_) fun _ => .ite (fun _ => ?_) fun _ => .ite (fun _ => ?_) fun _ => ?_
   ·refine (jp hL hg d).bind fun _ ts hd hg => (kw hL hs hc n (d + 1) _ hg.tail).bind fun k ts hk hg => .ret ⟨?_, fun h => by rcases h with h | h <;> cases h⟩ hg
    have e : ∃ s, inP d (fun d => brP (decide (opC k = 4) || decide (opC k = 5)) d (condP k)) = some s := va hd (wn (fun h => hk.2 (by
     rcases Bool.or_eq_true_iff.1 h with h | h
     ·exact .inl (of_decide_eq_true h)
     ·exact .inr (of_decide_eq_true h))) fun _ => hk.1)
    obtain ⟨s, e⟩ := e;exact ⟨_, by rw [ul, e]; rfl⟩
   ·refine (jp hL hg d).bind fun _ ts hd hg => (hc _ _ hg.tail).bind fun x ts hx hg => (zp hL hg _).bind fun _ ts _ hg => .ret ⟨?_, fun _ => ⟨hd, hx⟩⟩ hg;obtain ⟨s, h⟩ := hx;exact ⟨s, ZM _ _ _ h⟩
   ·refine (zp hL hg.tail _).bind fun _ ts _ hg => (wJ hL hg).bind fun w ts ⟨s, hw⟩ hg => (zp hL hg _).bind fun _ ts _ hg => (vE hL hg).bind fun nm ts hn hg => (zp hL hg _).bind fun _ ts _ hg => .ret ⟨?_, fun h => by rcases h with h | h <;> cases h⟩ hg;exact ⟨_, by rw [wm, if_pos hn, hw]; rfl⟩
   ·refine (hs _ _ hg).bind fun a ts ha hg => ?_
    split
    ·rename_i sg hsg
     have hm := List.mem_of_find?_eq_some hsg;refine (hs _ _ hg.tail).bind fun b ts hb hg => .ret ?_ hg;unfold lessSigns at hm;simp only [List.mem_cons, List.not_mem_nil, or_false] at hm;rcases hm with rfl | rfl | rfl
     ·refine ⟨?_, fun h => by rcases h with h | h <;> cases h⟩;unfold QC;rw [vg];exact xD ha hb
     ·refine ⟨?_, fun h => by rcases h with h | h <;> cases h⟩;unfold QC;rw [vf];exact xD ha hb
     ·refine ⟨?_, fun h => by rcases h with h | h <;> cases h⟩;unfold QC;rw [ve];exact xD ha hb
    ·exact .fail hL hg
theorem ZT {L : Int} (hL : 0 ≤ L) {cond : Nat → List Wrd → R CondT} (hc : ∀ d ts, GW L ts → Fits L (cond d ts) (QC d)) (n d : Nat) {ts : List Wrd} (hg : GW L ts) : Fits L (pBoth cond n d ts) (QCA d) := by
 have ht := fun ts hg => kw hL (fun d ts hg => jz hL n d ts hg) hc n d ts hg;unfold pBoth pRow;refine (ht ts hg).bind fun x ts hx hg => w9 (A := QCA d) (Y := QCO d) ht (fun sg hsg a b ha hb => ?_) n x ts ⟨hx.1, fun h => hx.2 (.inr h)⟩ hg;unfold andSigns at hsg;obtain rfl := List.mem_singleton.1 hsg;refine ⟨?_, fun h => by cases h⟩;unfold QC putC;rw [um]
 refine xD (f := sgnT sAnd) (wn (fun h => ha.2 (of_decide_eq_true h)) (fun _ => ha.1)) (wn (fun h => hb.2 ?_) (fun _ => hb.1));rcases Bool.or_eq_true_iff.1 h with h | h
 ·exact .inr (of_decide_eq_true h)
 ·exact .inl (of_decide_eq_true h)
theorem ZN {L : Int} (hL : 0 ≤ L) : ∀ (n d : Nat) (ts : List Wrd), GW L ts → Fits L (pCond n d ts) (QC d)
 | 0, _, _, _ => .out
 | n + 1, d, ts, hg => by
   unfold pCond pRow;have hc := fun d ts hg => ZN hL n d ts hg;refine (ZT hL hc (n + 1) d hg).bind fun x ts hx hg => w9 (A := QC d) (Y := QCA d) (fun ts hg => ZT hL hc (n + 1) d hg) (fun sg hsg a b ha hb => ?_) (n + 1) x ts hx.1 hg;unfold orSigns at hsg;obtain rfl := List.mem_singleton.1 hsg;unfold QC putC;rw [qg]
   exact xD (f := sgnT sOr) ha (wn (fun h => hb.2 (of_decide_eq_true h)) (fun _ => hb.1))
def QE (d : Nat) (x : EffT) : Prop := ∃ s, effP x d = some s
def QB (d : Nat) (l : List EffT) : Prop := ∀ x ∈ l, QE d x
theorem qh {d : Nat} : ∀ {l : List EffT}, QB d l → ∃ s, blkP l d = some s
 | [], _ => ⟨_, vO d⟩
 | x :: r, h => by
   obtain ⟨s, hs⟩ := h x (.head _);obtain ⟨t, ht⟩ := qh (l := r) fun y hy => h y (.tail _ hy);exact ⟨_, by rw [xo, hs, ht]; rfl⟩
theorem bare0 : bareE cond0 [] [] := ⟨rfl, rfl⟩
theorem qx {w : List UInt8} {a b : Option (List UInt8)} (ha : ∃ s, a = some s) (hb : ∃ s, b = some s) : ∃ s, lineP w a b = some s := xD ha hb
theorem qX {w : List UInt8} {a : Option (List UInt8)} (ha : ∃ s, a = some s) : ∃ s, line1 w a = some s := by
 obtain ⟨s, rfl⟩ := ha;exact ⟨_, rfl⟩
theorem xY {L : Int} (hL : 0 ≤ L) {d : Nat} {x : EffT} (hx : QE d x) {ts : List Wrd} (hg : GW L ts) : Fits L (pSemi x ts) (QE d) := (zp hL hg _).bind fun _ _ _ hg => .ret hx hg
theorem QT {L : Int} (hL : 0 ≤ L) {blk : Nat → List Wrd → R (List EffT)} (hb : ∀ d ts, GW L ts → Fits L (blk d ts) (QB d)) (n d : Nat) {ts : List Wrd} (hg : GW L ts) : Fits L (pEff blk n d ts) (QE d) := by
 have hs := fun ts hg => jz hL n d ts hg;unfold pEff
 refine .ite (fun _ => (Ya hL hg.tail).bind fun w ts hw hg => (hs _ hg).bind fun x ts hx hg => xY hL ?_ hg) fun _ => .ite (fun _ => (Ya hL hg.tail).bind fun w ts hw hg => (hs _ hg).bind fun x ts hx hg => xY hL ?_ hg) fun _ =>
  .ite (fun _ => (wJ hL hg.tail).bind fun w ts hw hg => (hs _ hg).bind fun x ts hx hg => xY hL ?_ hg) fun _ => .ite (fun _ => (hs _ hg.tail).bind fun x ts hx hg => xY hL ?_ hg) fun _ => .ite (fun _ => (hs _ hg.tail).bind fun x ts hx hg => xY hL ?_ hg) fun _ =>
  .ite (fun _ => (wJ hL hg.tail).bind fun w ts hw hg => xY hL ?_ hg) fun _ => .ite (fun _ => (wJ hL hg.tail).bind fun w ts hw hg => xY hL ?_ hg) fun _ => .ite (fun _ => (vE hL hg.tail).bind fun s ts hn hg => xY hL ?_ hg) fun _ => .ite (fun _ => ?_) fun _ => .fail hL hg
 ·unfold QE eff0; rw [ug bare0]; exact qx hw hx
 ·unfold QE eff0; rw [uf bare0]; exact qx hw hx
 ·unfold QE eff0; rw [jK bare0]; exact qx hw hx
 ·unfold QE eff0; rw [jH bare0]; exact qX hx
 ·unfold QE eff0; rw [jG bare0]; exact qX hx
 ·unfold QE eff0; rw [jJ bare0 rfl]; exact qX hw
 ·unfold QE eff0; rw [jF bare0 rfl]; exact qX hw
 ·unfold QE eff0; rw [uE bare0 rfl hn]; exact ⟨_, rfl⟩
 ·refine (jp hL hg d).bind fun _ ts hd hg => (ZN hL _ _ _ hg.tail).bind fun c ts hc hg => (hb _ _ hg).bind fun t ts ht hg => (zp hL hg _).bind fun _ ts _ hg => (hb _ _ hg).bind fun e ts he hg => .ret ?_ hg;unfold QE;rw [Z9, if_pos ⟨rfl, rfl, rfl⟩];refine va hd ?_;obtain ⟨s, hc⟩ := hc;obtain ⟨u, ht⟩ := qh ht;obtain ⟨v, he⟩ := qh he
  exact ⟨_, by unfold ifP; rw [hc, ht, he]; rfl⟩
theorem ZB {L : Int} {α : Type} {Q : α → Prop} {one : List Wrd → R α} (ho : ∀ ts, GW L ts → Fits L (one ts) Q) : ∀ (n : Nat) (acc : List α) (ts : List Wrd), (∀ x ∈ acc, Q x) → GW L ts → Fits L (pMany one n acc ts) fun l => ∀ x ∈ l, Q x
 | 0, _, _, _, _ => .out
 | n + 1, acc, ts, ha, hg => by
   unfold pMany;refine .ite (fun _ => .ret ha hg.tail) fun _ => (ho _ hg).bind fun x ts hx hg => ZB ho n _ ts (fun y hy => ?_) hg;rcases List.mem_append.1 hy with hy | hy
   ·exact ha y hy
   ·rw [List.mem_singleton.1 hy]; exact hx
theorem vj {L : Int} (hL : 0 ≤ L) : ∀ (n d : Nat) (ts : List Wrd), GW L ts → Fits L (pBlock n d ts) (QB d)
 | 0, _, _, _ => .out
 | n + 1, d, ts, hg => by
   unfold pBlock;exact (zp hL hg _).bind fun _ ts _ hg => ZB (Q := QE d) (fun ts hg => QT hL (fun d ts hg => vj hL n d ts hg) (n + 1) d hg) (n + 1) [] ts (fun x h => by cases h) hg
theorem u7 {L : Int} (hL : 0 ≤ L) {σ : Type} {keys : List (List UInt8)} {read : List UInt8 → σ → List Wrd → R σ} {parts : σ → Nat} {I : σ → Prop} (hr : ∀ s c ts, I c → GW L ts → Fits L (read s c ts) I) : ∀ (n : Nat) (seen : List (List UInt8)) (c : σ) (ts : List Wrd), I c → GW L ts → Fits L (pRules keys read parts n seen c ts) fun c => I c ∧ parts c ≤ 200
 | 0, _, _, _, _, _ => .out
 | n + 1, seen, c, ts, hc, hg => by
   unfold pRules;exact .ite (fun _ => .ite (fun _ => .fail hL hg) fun h => .ret ⟨hc, by omega⟩ hg.tail) fun _ => .ite (fun _ => .ite (fun _ => .fail hL hg) fun _ => (hr _ _ _ hc hg.tail).bind fun c ts hc hg => u7 hL hr n _ c ts hc hg) fun _ => .fail hL hg
structure CI (c : CardT) : Prop where
 name : nameP c.name = true
 kind : kindB c = true
 cost : smallB c.cost = true
 power : smallB c.power = true
 health : smallB c.health = true
 shield : smallB c.shield = true
 apow : smallB c.apow = true
 aheal : smallB c.aheal = true
 p : QB 0 c.played
 d : QB 0 c.dead
 w : QB 0 c.dawn
theorem y7 {n : Int} (h : 0 ≤ n ∧ n ≤ 999) : smallB n = true := decide_eq_true h
theorem j1 {w : List UInt8} {l : List EffT} (h : QB 0 l) : ∃ s, secP w l = some s := by
 unfold secP
 split
 ·exact ⟨_, rfl⟩
 ·obtain ⟨s, hs⟩ := qh h;rw [hs];exact ⟨_, rfl⟩
theorem CI.some {c : CardT} (h : CI c) (hw : cardWt c ≤ 200) : ∃ s, cardP c = some s := by
 obtain ⟨a, ha⟩ := j1 (w := sPlayed) h.p;obtain ⟨b, hb⟩ := j1 (w := sDead) h.d;obtain ⟨e, he⟩ := j1 (w := sDawn) h.w;have hn : numsB c = true := by unfold numsB; rw [h.cost, h.power, h.health, h.shield, h.apow, h.aheal]; rfl
 exact ⟨_, by unfold cardP secsP; rw [if_pos ⟨h.name, h.kind, hn, hw⟩, ha, hb, he]; rfl⟩
theorem ko {L : Int} (hL : 0 ≤ L) (n : Nat) (s : List UInt8) (c : CardT) (ts : List Wrd) (h : CI c) (hg : GW L ts) : Fits L (cardRead n s c ts) CI := by
 unfold cardRead
 refine .ite (fun _ => (vj hL n 0 ts hg).bind fun l ts hl hg => .ret ?_ hg) fun _ => .ite (fun _ => (vj hL n 0 ts hg).bind fun l ts hl hg => .ret ?_ hg) fun _ => .ite (fun _ => (vj hL n 0 ts hg).bind fun l ts hl hg => .ret ?_ hg) fun _ =>
  .ite (fun _ => (yZ hL hg).bind fun a ts ha hg => (zp hL hg _).bind fun _ ts _ hg => (yZ hL hg).bind fun b ts hb hg => (zp hL hg _).bind fun _ ts _ hg => .ret ?_ hg) fun _ => (yZ hL hg).bind fun a ts ha hg => (zp hL hg _).bind fun _ ts _ hg => .ret ?_ hg
 ·exact ⟨h.name, h.kind, h.cost, h.power, h.health, h.shield, h.apow, h.aheal, hl, h.d, h.w⟩
 ·exact ⟨h.name, h.kind, h.cost, h.power, h.health, h.shield, h.apow, h.aheal, h.p, hl, h.w⟩
 ·exact ⟨h.name, h.kind, h.cost, h.power, h.health, h.shield, h.apow, h.aheal, h.p, h.d, hl⟩
 ·exact ⟨h.name, h.kind, h.cost, h.power, h.health, h.shield, y7 ha, y7 hb, h.p, h.d, h.w⟩
 ·exact ⟨h.name, h.kind, h.cost, h.power, h.health, y7 ha, h.apow, h.aheal, h.p, h.d, h.w⟩
theorem Vx {L : Int} (hL : 0 ≤ L) (n : Nat) (a : Int) {ts : List Wrd} (hg : GW L ts) : Fits L (pCard cardWt n a ts) fun c => ∃ s, cardP c = some s := by
 unfold pCard;have h0 : QB 0 [] := fun x h => by cases h
 refine (vE hL hg).bind fun s ts hs hg => (Fits.bind (Q := CI) (.ite (fun _ => (yZ hL hg.tail).bind fun c ts hc hg => (yZ hL hg).bind fun p ts hp hg => (zp hL hg _).bind fun _ ts _ hg => (yZ hL hg).bind fun e ts he hg => .ret ?_ hg) fun _ => (zp hL hg _).bind fun _ ts _ hg => (yZ hL hg).bind fun c ts hc hg => .ret ?_ hg)
  fun c ts hc hg => (zp hL hg _).bind fun _ ts _ hg => (u7 hL (ko hL n) n [] c ts hc hg).mono fun c ⟨h1, h2⟩ => h1.some h2)
 ·exact ⟨hs, rfl, y7 hc, y7 hp, y7 he, rfl, rfl, rfl, h0, h0, h0⟩
 ·exact ⟨hs, rfl, y7 hc, rfl, rfl, rfl, rfl, rfl, h0, h0, h0⟩
structure FI (f : FmtT) : Prop where
 name : nameP f.name = true
 least : smallB f.least = true
 most : smallB f.most = true
 copies : smallB f.copies = true
 b : ∀ s ∈ f.banned, nameP s = true
 s : ∀ s ∈ f.single, nameP s = true
theorem FI.some {f : FmtT} (h : FI f) : ∃ s, fmtP f = some s := ⟨_, by unfold fmtP; rw [if_pos ⟨h.name, h.least, h.most, h.copies, List.all_eq_true.2 h.b, List.all_eq_true.2 h.s⟩]⟩
theorem qB {L : Int} (hL : 0 ≤ L) : ∀ (n : Nat) (acc : List (List UInt8)) (ts : List Wrd), (∀ s ∈ acc, nameP s = true) → GW L ts → Fits L (pNames n acc ts) fun l => ∀ s ∈ l, nameP s = true
 | 0, _, _, _, _ => .out
 | n + 1, acc, ts, ha, hg => by
   unfold pNames;refine (vE hL hg).bind fun s ts hs hg => ?_
   have h2 : ∀ x ∈ acc ++ [s], nameP x = true := fun x hx => by
    rcases List.mem_append.1 hx with hx | hx
    ·exact ha x hx
    ·rw [List.mem_singleton.1 hx]; exact hs
   exact .ite (fun _ => qB hL n _ _ h2 hg.tail) fun _ => .ret h2 hg
theorem Z1 {L : Int} (hL : 0 ≤ L) (n : Nat) (s : List UInt8) (f : FmtT) (ts : List Wrd) (h : FI f) (hg : GW L ts) : Fits L (fmtRead n s f ts) FI := by
 have h0 : ∀ s ∈ ([] : List (List UInt8)), nameP s = true := fun s h => by cases h
 unfold fmtRead
 refine .ite (fun _ => (yZ hL hg).bind fun a ts ha hg => (zp hL hg _).bind fun _ ts _ hg => .ret ?_ hg) fun _ => .ite (fun _ => (yZ hL hg).bind fun a ts ha hg => (zp hL hg _).bind fun _ ts _ hg => .ret ?_ hg) fun _ => .ite (fun _ => (yZ hL hg).bind fun a ts ha hg => (zp hL hg _).bind fun _ ts _ hg => .ret ?_ hg) fun _ =>
  .ite (fun _ => (qB hL n [] ts h0 hg).bind fun l ts hl hg => (zp hL hg _).bind fun _ ts _ hg => .ret ?_ hg) fun _ => (qB hL n [] ts h0 hg).bind fun l ts hl hg => (zp hL hg _).bind fun _ ts _ hg => .ret ?_ hg
 ·exact ⟨h.name, y7 ha, h.most, h.copies, h.b, h.s⟩
 ·exact ⟨h.name, h.least, y7 ha, h.copies, h.b, h.s⟩
 ·exact ⟨h.name, h.least, h.most, y7 ha, h.b, h.s⟩
 ·exact ⟨h.name, h.least, h.most, h.copies, hl, h.s⟩
 ·exact ⟨h.name, h.least, h.most, h.copies, h.b, hl⟩
theorem QN {L : Int} (hL : 0 ≤ L) (n : Nat) (a : Int) {ts : List Wrd} (hg : GW L ts) : Fits L (pFmt n a ts) fun f => ∃ s, fmtP f = some s := by
 have h0 : ∀ s ∈ ([] : List (List UInt8)), nameP s = true := fun s h => by cases h
 unfold pFmt;exact (vE hL hg).bind fun s ts hs hg => (zp hL hg _).bind fun _ ts _ hg => (u7 hL (Z1 hL n) n [] _ ts ⟨hs, rfl, rfl, rfl, h0, h0⟩ hg).mono fun f ⟨h1, _⟩ => h1.some
structure BI (b : BkT) : Prop where
 lc : b.cards.length ≤ 240
 lf : b.fmts.length ≤ 240
 c : ∀ c ∈ b.cards, ∃ s, cardP c = some s
 f : ∀ f ∈ b.fmts, ∃ s, fmtP f = some s
theorem XK : ∀ {l : List (Option (List UInt8))}, (∀ x ∈ l, ∃ t, x = some t) → ∃ s, catP l = some s
 | [], _ => ⟨_, rfl⟩
 | x :: r, h => by
   obtain ⟨t, rfl⟩ := h x (.head _);obtain ⟨u, hu⟩ := XK (l := r) fun y hy => h y (.tail _ hy);exact ⟨_, by rw [catP, hu]; rfl⟩
theorem BI.some {b : BkT} (h : BI b) : ∃ s, bookP b = some s := by
 unfold bookP;rw [if_pos ⟨h.lc, h.lf⟩];refine XK fun x hx => ?_;rcases List.mem_append.1 hx with hx | hx
 ·obtain ⟨c, hc, rfl⟩ := List.mem_map.1 hx;exact h.c c hc
 ·obtain ⟨f, hf, rfl⟩ := List.mem_map.1 hx;exact h.f f hf
theorem jR {L : Int} (hL : 0 ≤ L) (n0 : Nat) : ∀ (n : Nat) (cs : List CardT) (fs : List FmtT) (ts : List Wrd), BI ⟨cs, fs⟩ → GW L ts → Fits L (pBook cardWt n0 n cs fs ts) BI
 | 0, _, _, _, _, _ => .out
 | n + 1, cs, fs, ts, hb, hg => by
   unfold pBook;have hlc := hb.lc;have hlf := hb.lf;dsimp only at hlc hlf
   refine .ite (fun _ => .ret hb hg) fun _ => .ite (fun _ => .ite (fun _ => .fail hL hg) fun h => (Vx hL n0 _ hg.tail).bind fun c ts hc hg => jR hL n0 n _ _ ts ⟨?_, hb.lf, fun x hx => ?_, hb.f⟩ hg) fun _ =>
    .ite (fun _ => .ite (fun _ => .fail hL hg) fun h => (QN hL n0 _ hg.tail).bind fun f ts hf hg => jR hL n0 n _ _ ts ⟨hb.lc, ?_, hb.c, fun x hx => ?_⟩ hg) fun _ => .fail hL hg
   ·simp only [List.length_append, List.length_cons, List.length_nil];omega
   ·rcases List.mem_append.1 hx with hx | hx
    ·exact hb.c x hx
    ·rw [List.mem_singleton.1 hx]; exact hc
   ·simp only [List.length_append, List.length_cons, List.length_nil];omega
   ·rcases List.mem_append.1 hx with hx | hx
    ·exact hb.f x hx
    ·rw [List.mem_singleton.1 hx]; exact hf
def readB (s : List UInt8) : R BkT := match cutP s with
 | .error (e, a) => .bad e (a : Int)
 | .ok ws => pBook cardWt ws.length (ws.length + 1) [] [] ws
theorem VY {s : List UInt8} : ∀ (d p : Nat) (acc : List Wrd) (e : Int) (a : Nat), s.length - p = d → p ≤ s.length → goR s p acc = .error (e, a) → a ≤ s.length := by
 intro d
 induction d using Nat.strongRecOn with
 | _ d ih =>
 intro p acc e a hd hp h;rw [goR] at h
 split at h
 ·rename_i hlt
  cases hs : stepR s p with
  | err e' a' =>
    rw [hs] at h;cases h;unfold stepR at hs;cases hx : rn s p with
    | none => rw [hx] at hs; cases hs; exact hp
    | some c =>
      obtain ⟨x, k⟩ := c;rw [hx] at hs;dsimp only at hs
      split at hs
      ·cases hs
      split at hs
      ·split at hs
       ·rename_i a2 hrem
        cases hs
        have : ∀ (d p a : Nat), s.length - p = d → remGo s p = .inl a → a ≤ s.length := by
         intro d
         induction d using Nat.strongRecOn with
         | _ d ih =>
         intro p a hd h;rw [remGo] at h
         split at h
         ·rename_i hpl
          split at h
          ·cases h; omega
          ·rename_i x k hk
           have := yh hk;exact ih (s.length - (p + k)) (by omega) (p + k) a rfl h
         ·cases h
        exact this _ p _ rfl hrem
       ·cases hs
      split at hs
      ·unfold stepN at hs
       split at hs
       ·cases hs; exact hp
       ·cases hs
      split at hs
      ·unfold stepD at hs
       split at hs
       ·cases hs; exact hp
       split at hs
       ·cases hs; exact hp
       ·cases hs
      ·unfold stepM at hs
       split at hs
       ·cases hs; exact hp
       ·cases hs
  | next q us =>
    rw [hs] at h;dsimp only at h
    split at h
    ·rename_i hpq
     have hq := (xC hlt hs).2.len hp;exact ih (s.length - q) (by omega) q _ e a rfl hq h
    ·cases h
 ·cases h
theorem stepR_e {s : List UInt8} {p a : Nat} {e : Int} (h : stepR s p = .err e a) : e ≠ 0 := by
 unfold stepR at h
 split at h
 ·cases h; decide
 ·split at h
  ·cases h
  ·split at h
   ·split at h
    ·cases h; decide
    ·cases h
   ·split at h
    ·unfold stepN at h
     split at h
     ·cases h; decide
     ·cases h
    ·split at h
     ·unfold stepD at h
      split at h
      ·cases h; decide
      ·split at h
       ·cases h; decide
       ·cases h
     ·unfold stepM at h
      split at h
      ·cases h; decide
      ·cases h
theorem goR_e {s : List UInt8} {a : Nat} {e : Int} : ∀ {p : Nat} {acc : List Wrd}, goR s p acc = .error (e, a) → e ≠ 0 := by
 intro p acc
 fun_induction goR s p acc with
 | case1 p acc hp e' a' h => intro hw; cases hw; exact stepR_e h
 | case2 p acc hp q us h hq ih => exact ih
 | case3 p acc hp q us h hq => exact absurd (xC hp h).1 hq
 | case4 => intro h; cases h
theorem cutP_e {s : List UInt8} {a : Nat} {e : Int} (h : cutP s = .error (e, a)) : e ≠ 0 := by
 unfold cutP at h
 split at h
 ·cases h; decide
 ·exact goR_e h
theorem qs (s : List UInt8) : Fits s.length (readB s) BI := by
 unfold readB;cases hc : cutP s with
 | error r =>
   obtain ⟨e, a⟩ := r;refine ⟨fun x ts h => (by cases h), fun e' a' h => ?_⟩;cases h;refine ⟨cutP_e hc, Int.natCast_nonneg _, ?_⟩;unfold cutP at hc
   split at hc
   ·cases hc; exact Int.natCast_nonneg _
   ·have := VY _ 0 [] e a rfl (Nat.zero_le _) hc;omega
 | ok ws => exact jR (Int.natCast_nonneg _) _ _ [] [] ws ⟨Nat.zero_le _, Nat.zero_le _, fun c h => (by cases h), fun f h => (by cases h)⟩ (QW hc)
theorem Qi {a b : BkT} (hc : a.cards.map stC = b.cards.map stC) (hf : a.fmts.map stF = b.fmts.map stF) : bookP a = bookP b := by
 have e1 : a.cards.map cardP = b.cards.map cardP := by
  have := congrArg (List.map cardP) hc;rw [List.map_map, List.map_map] at this;exact this
 have e2 : a.fmts.map fmtP = b.fmts.map fmtP := by
  have := congrArg (List.map fmtP) hf;rw [List.map_map, List.map_map] at this;exact this
 have l1 : a.cards.length = b.cards.length := by simpa using congrArg List.length hc
 have l2 : a.fmts.length = b.fmts.length := by simpa using congrArg List.length hf
 unfold bookP;rw [e1, e2, l1, l2]
theorem US {a b : BkT} (hc : a.cards.map stC = b.cards.map stC) (hf : a.fmts.map stF = b.fmts.map stF) : textP a = textP b := by
 unfold textP;rw [Qi hc hf]
theorem back1 {b : BkT} {t : List UInt8} (h : textP b = (t, 0)) : ∃ y ts, readB t = .ok y ts ∧ y.cards.map stC = b.cards.map stC ∧ y.fmts.map stF = b.fmts.map stF := by
 unfold textP at h;cases hb : bookP b with
 | none => rw [hb] at h; cases h
 | some s =>
   rw [hb] at h;dsimp only at h
   split at h
   ·cases h
   ·cases h;obtain ⟨ws, y, ts, h1, h2, h3, h4⟩ := Vy hb (by omega);exact ⟨y, ts, by unfold readB; rw [h1]; exact h2, h3, h4⟩
theorem back2 {s : List UInt8} {x : BkT} {ts : List Wrd} (h : readB s = .ok x ts) : (∃ t, textP x = (t, 0)) ∨ textP x = ([], 3) := by
 obtain ⟨t, ht⟩ := ((qs s).ok x ts h).1.some;unfold textP;rw [ht];dsimp only
 split
 ·exact .inr rfl
 ·exact .inl ⟨t, rfl⟩
end Tp
namespace Tp
open Go Go.Eng Wd Kd
theorem Ww : ∀ (x : CondT) (d : Nat) (s : List UInt8), condP x d = some s → CondSm x
 | .mk op who name ns ks, d, s, h => by
   have hk : ∀ k ∈ ks, ∀ d s, condP k d = some s → CondSm k := fun k _ d s h => Ww k d s h
   have hb : ∀ {br : Bool} {k : CondT} {d : Nat} {s : List UInt8}, k ∈ ks → brP br d (condP k) = some s → CondSm k := fun {br k d s} hm h => by
    rcases wU h with ⟨rfl, h1⟩ | ⟨rfl, -, t, h1, rfl⟩
    ·exact hk _ hm _ _ h1
    ·exact hk _ hm _ _ h1
   have hc := xm h;clear h;generalize hx : CondT.mk op who name ns ks = x at hc;cases hc with
   | cmp hw ha hb => cases hx; exact .mk (Nat.zero_le _) fun k hk => by cases hk
   | holds hn hs => cases hx; exact .mk (Nat.le_trans (zx hn) (by decide)) fun k hk => by cases hk
   | not hd h1 =>
     cases hx
     exact .mk (Nat.zero_le _) fun k hk => by
      rw [List.mem_singleton.1 hk];exact hb (.head _) h1
   | or ha h1 =>
     cases hx
     exact .mk (Nat.zero_le _) fun k hk2 => by
      rcases List.mem_cons.1 hk2 with rfl | hk2
      ·exact hk _ (.head _) _ _ ha
      ·rw [List.mem_singleton.1 hk2];exact hb (.tail _ (.head _)) h1
   | and ha h1 =>
     cases hx
     exact .mk (Nat.zero_le _) fun k hk2 => by
      rcases List.mem_cons.1 hk2 with rfl | hk2
      ·exact hb (.head _) ha
      ·rw [List.mem_singleton.1 hk2];exact hb (.tail _ (.head _)) h1
termination_by x => SizeOf.sizeOf x
decreasing_by
 have := List.sizeOf_lt_of_mem ‹k ∈ ks›
 simp
 omega
theorem vG (l : List EffT) : l.length ≤ effsW l := by
 induction l with
 | nil => exact Nat.zero_le _
 | cons x r ih =>
   have h1 : 1 ≤ effW x := by obtain ⟨op, who, n, name, c, t, e⟩ := x; rw [wl]; omega
   rw [kW, List.length_cons];omega
theorem jE {l : List EffT} {x : EffT} (h : x ∈ l) : effW x ≤ effsW l := Uw effW h
theorem un : CondSm cond0 := .mk (Nat.zero_le _) (fun k h => by cases h)
theorem WG : ∀ (x : EffT) (d : Nat) (s : List UInt8), effP x d = some s → effW x ≤ 200 → EffSm x
 | .mk op who n name c t e, d, s, h, hw => by
   have ht : ∀ y ∈ t, ∀ d s, effP y d = some s → effW y ≤ 200 → EffSm y := fun y _ d s h hw => WG y d s h hw;have he : ∀ y ∈ e, ∀ d s, effP y d = some s → effW y ≤ 200 → EffSm y := fun y _ d s h hw => WG y d s h hw;have h0 : ∀ {l : List EffT}, l = [] → ∀ x ∈ l, EffSm x := fun {l} h x hx => by subst h; cases hx
   have hc := ue h;clear h;generalize hx : EffT.mk op who n name c t e = x at hc;cases hc with
   | line hop hb hn =>
     cases hx;obtain ⟨rfl, rfl, rfl⟩ := wq hb;exact .mk (Nat.zero_le _) un (Nat.zero_le _) (Nat.zero_le _) (h0 rfl) (h0 rfl)
   | num hop hb hn =>
     cases hx;obtain ⟨rfl, rfl, rfl⟩ := wq hb;exact .mk (Nat.zero_le _) un (Nat.zero_le _) (Nat.zero_le _) (h0 rfl) (h0 rfl)
   | side hop hb hz hs =>
     cases hx;obtain ⟨rfl, rfl, rfl⟩ := wq hb;exact .mk (Nat.zero_le _) un (Nat.zero_le _) (Nat.zero_le _) (h0 rfl) (h0 rfl)
   | summon hb hz hn =>
     cases hx;obtain ⟨rfl, rfl, rfl⟩ := wq hb;exact .mk (Nat.le_trans (zx hn) (by decide)) un (Nat.zero_le _) (Nat.zero_le _) (h0 rfl) (h0 rfl)
   | iff hz hd hc0 ht0 he0 =>
     cases hx;have hwi := Z8 (who := 0) (n := n) (name := []) (c := c) (t := t) (e := e);have l1 := vG t;have l2 := vG e
     exact .mk (Nat.zero_le _) (Ww _ _ _ hc0) (by omega) (by omega) (fun y hy => by
      obtain ⟨u, hu⟩ := vP ht0 y hy;have := jE hy
      exact ht y hy _ _ hu (by omega)) fun y hy => by
      obtain ⟨u, hu⟩ := vP he0 y hy;have := jE hy;exact he y hy _ _ hu (by omega)
termination_by x => SizeOf.sizeOf x
decreasing_by
 all_goals
  have := List.sizeOf_lt_of_mem ‹y ∈ _›;simp only [EffT.mk.sizeOf_spec];omega
theorem Xk {w : List UInt8} {l : List EffT} {s : List UInt8} (h : secP w l = some s) (hw : effsW l ≤ 200) : EffsSm l := by
 intro x hx;have hl : l.length ≠ 0 := fun e => by rw [List.eq_nil_of_length_eq_zero e] at hx; cases hx
 obtain ⟨t, ht⟩ := jj h hl;obtain ⟨u, hu⟩ := vP ht x hx;have := jE hx;exact WG x 0 u hu (by omega)
theorem card_sm {c : CardT} {s : List UInt8} (h : cardP c = some s) : CardSm c := by
 obtain ⟨hn, -, -, hw, a, b, e, h1, h2, h3, -⟩ := vi h;unfold cardWt at hw;have l1 := vG c.played;have l2 := vG c.dead;have l3 := vG c.dawn;exact ⟨Nat.le_trans (zx hn) (by decide), by omega, by omega, by omega, Xk h1 (by omega), Xk h2 (by omega), Xk h3 (by omega)⟩
theorem fmt_sm {f : FmtT} {s : List UInt8} (h : fmtP f = some s) (hb : f.banned.length ≤ 1000000000) (hs : f.single.length ≤ 1000000000) : FmtSm f := by
 obtain ⟨hn, -, -, -, h1, h2, -⟩ := qG h;exact ⟨Nat.le_trans (zx hn) (by decide), hb, hs, fun s hs => Nat.le_trans (zx (h1 s hs)) (by decide), fun s hs => Nat.le_trans (zx (h2 s hs)) (by decide)⟩
theorem BI.sm {b : BkT} (h : BI b) (hf : ∀ f ∈ b.fmts, f.banned.length ≤ 1000000000 ∧ f.single.length ≤ 1000000000) : BkSm b :=
 ⟨Nat.le_trans h.lc (by decide), Nat.le_trans h.lf (by decide), fun c hc => by obtain ⟨s, hs⟩ := h.c c hc; exact card_sm hs, fun f hf2 => by obtain ⟨s, hs⟩ := h.f f hf2; exact fmt_sm hs (hf f hf2).1 (hf f hf2).2⟩
end Tp
section
open Wd Tp Kd
variable {m : Mp}
theorem Ub {x y : CardT} (h : stC x = stC y) : sameC x y := by
 cases x;cases y;unfold stC at h;simp only [CardT.mk.injEq] at h;unfold sameC;obtain ⟨h1, h2, h3, h4, h5, h6, h7, h8, h9, h10, h11, -⟩ := h;exact ⟨h1, h2, h3, h4, h5, h6, h7, h8, h9, h10, h11⟩
theorem Ua {x y : FmtT} (h : stF x = stF y) : sameF x y := by
 cases x;cases y;unfold stF at h;simp only [FmtT.mk.injEq] at h;unfold sameF;obtain ⟨h1, h2, h3, h4, h5, h6, -⟩ := h;exact ⟨h1, h2, h3, h4, h5, h6⟩
theorem Ux {α β : Type} {f : α → β} {l l' : List α} (h : l.map f = l'.map f) (i : Nat) (h1 : i < l.length) (h2 : i < l'.length) : f l[i] = f l'[i] := by
 have := congrArg (fun z => z[i]?) h
 simpa [h1, h2] using this
theorem Yk {a b : BkT} (hc : a.cards.map stC = b.cards.map stC) (hf : a.fmts.map stF = b.fmts.map stF) : sameB a b :=
 ⟨by simpa using congrArg List.length hc, by simpa using congrArg List.length hf, fun i h h' => Ub (Ux hc i h h'), fun i h h' => Ua (Ux hf i h h')⟩
theorem ur {m : Mp} {A : Option Addr} {l : List FmtT} (h : FmtsQ m A l) : ∀ f ∈ l, f.banned.length ≤ 65537 ∧ f.single.length ≤ 65537 := by
 obtain ⟨vs, -, -, h3⟩ := h;intro f hf;obtain ⟨i, hi, rfl⟩ := List.getElem_of_mem hf;obtain ⟨q, -, ho, -⟩ := h3 i hi;exact ⟨ho.ban, ho.sin⟩
theorem BkSz.fml {b : BkT} (h : BkSz b) : FmL b := ⟨h.lc, h.lf, fun f hf => ⟨(h.f f hf).lb, (h.f f hf).ls⟩⟩
theorem jU {m : Mp} {A : Option Addr} {b : BkT} (h1 : b.cards.length ≤ 240) (h2 : b.fmts.length ≤ 240) (h : FmtsQ m A b.fmts) : FmL b := ⟨Nat.le_trans h1 (by decide), Nat.le_trans h2 (by decide), fun f hf => ⟨Nat.le_trans (ur h f hf).1 (by decide), Nat.le_trans (ur h f hf).2 (by decide)⟩⟩
theorem Wf {m : Mp} {s : List UInt8} {b : BkT} {ts : List Wrd} {A : Option Addr} (hr : readP s = .ok b ts) (h : FmtsQ m A b.fmts) : BkSm b := ((qs s).ok b ts hr).1.sm fun f hf => ⟨Nat.le_trans (ur h f hf).1 (by decide), Nat.le_trans (ur h f hf).2 (by decide)⟩
theorem jV (b : BkT) : (∃ t, textP b = (t, 0) ∧ t.length ≤ 65536) ∨ textP b = ([], 2) ∨ textP b = ([], 3) := by
 unfold textP;cases bookP b with
 | none => exact .inr (.inl rfl)
 | some s =>
   dsimp only
   split
   ·exact .inr (.inr rfl)
   ·exact .inl ⟨s, rfl, by omega⟩
theorem law5 (hT : TabI m) (hU : Tabs m) {kc fc : Nat} {K F : Option Addr} {b : BkT} (hC : CardsX m K b.cards) (hF : FmtsX m F b.fmts) (hs : BkSz b) {s : List UInt8} (hsl : s.length ≤ 140737488355328) : CS Tryz.prog 5 [.agg (bk2 K b.cards.length kc F b.fmts.length fc).toArray, .string (bs s)] m [] (Gives (.bool true)) := by
 refine yI [.tmp 4] Tryz.func5 rfl rfl rfl ?_;refine tr 2 ?_;refine Bx 5 rfl fun b1 => ?_;refine zG .here (fun ns hi _ hd1 => ?_);have hR : Rd (uni m ns) (some ⟨b1, 0, none⟩) (bk2 K b.cards.length kc F b.fmts.length fc) := (Rd.blk hi).mono (zV hd1);have hl2 : Le m (uni m ns) := zM _ _;clear hi hd1;generalize uni m ns = m9 at hR hl2
 have hat : At m9 ⟨b1, 0, none⟩ (bk2 K b.cards.length kc F b.fmts.length fc) := fun i u hi => hR.at_ hi;have hT := hT.mono hl2;have hU := hU.mono hl2;have hC := hC.mono hl2;have hF := hF.mono hl2;refine tr 1 ?_;refine La 0 ag26 hat ?_;refine Cr cl11 rfl (fun m' hm he => (Great11 (hC.mono hm) (hF.mono hm) hs)) ?_;rintro _ rfl;by_cases hg : 6000 < grT b
 ·rw [decide_eq_true hg];refine vr 10 ?_;refine Cr cl6 rfl (fun m' hm he => (wakes6 (hT.mono hm) (hU.mono hm))) ?_;rintro _ rfl;refine vr 5 ?_;exact rt2 hl2 ⟨rfl, trivial⟩ ⟨rfl, rfl⟩
 rw [decide_eq_false hg];by_cases h20 : 20000 < s.length
 ·refine vr 2 ?_;refine pe 0 (zg rfl st9) ?_;refine cto 6 ?_;refine Cr cl6 rfl (fun m' hm he => (wakes6 (hT.mono hm) (hU.mono hm))) ?_;rintro _ rfl;refine vr 5 ?_;exact rt2 hl2 ⟨rfl, trivial⟩ ⟨rfl, rfl⟩
 have hsm := hs.sm (by omega);refine vr 2 ?_;refine pe 0 (zg rfl st9) ?_;refine cfo 8 ?_;refine La 0 ag26 hat ?_;refine Cr cl12 rfl (fun m' hm he => (Text12 (hT.mono hm) (hU.mono hm) (hC.mono hm) (hF.mono hm) hsm)) ?_;rintro _ rfl;have hcs := jV b;generalize htx : textP b = r at hcs;obtain ⟨t, e⟩ := r;refine vr 9 ?_
 refine qm (α := Unit) (fun _ => [(1, .string (bs s)), (2, .pointer (some ⟨b1, 0, none⟩))]) (fun _ => []) (fun _ => True) ?_ ?_
 ·by_cases he0 : e = 0
  ·subst he0
   have htl : t.length ≤ 65536 := by
    rcases hcs with ⟨u, h, hu⟩ | h | h
    ·cases h; exact hu
    ·cases h
    ·cases h
   obtain ⟨y, ts0, hr0, hyc, hyf⟩ := back1 htx;refine tr 2 ?_;refine ctr 6 ?_;refine zE ((yK cl7 rfl (fun m' hm he => qo (hU.mono hm) (Nat.le_trans htl (by decide))) rfl ?_)) rfl;rintro _ _ hq;rcases hq with ⟨bk, ts, K1, kc1, F1, fc1, e1, h1, rfl, rfl, h2, h3, h4⟩ | ⟨e1, a1, h1, rfl, rfl⟩
   rotate_left
   ·rw [show readP t = readB t from rfl, hr0] at h1;cases h1
   have hbk : bk = y := by rw [show readP t = readB t from rfl, hr0] at h1; cases h1; rfl
   subst hbk;unfold faultV;refine vr 3 ?_;refine Al 0 zl26 fun b2 => ?_;refine Al 0 zl29 fun b3 => ?_;refine Sg 0 ag26 .h1 ?_;refine Sg 3 ag29 .here ?_;refine zG .h2 (fun ns hi _ hd => ?_);have hq1 := h4 ns hi;have hCq := hq1.1.mono (zV hd (m := m9));have hFq := hq1.2.mono (zV hd (m := m9));have hl3 : Le m9 (uni m9 ns) := zM _ _;clear hi hd h4 hq1
   generalize uni m9 ns = m8 at hCq hFq hl3;have hat := hat.mono hl3;have hC := hC.mono hl3;have hF := hF.mono hl3;have hfl := jU h2 h3 hFq;refine tr 2 ?_;refine Lb 0 sg27 .here ?_;refine cfo 1 ?_;refine Lc 0 ag26 .h1 ?_;refine La 0 ag26 hat ?_;refine zE ((yK cl9 rfl (fun m' hm he => same9 (hCq.mono hm).x (hFq.mono hm).x (hC.mono hm) (hF.mono hm) hfl hs.fml) rfl ?_)) rfl
   rintro _ _ ⟨⟨rfl, -⟩ | ⟨rfl, hno⟩, rfl⟩
   rotate_left
   ·exact (hno (Yk hyc hyf)).elim
   refine vr 6 ?_;exact ZX hl3 () ⟨rfl, rfl, trivial⟩ (Pick.nil _) trivial (by decide)
  ·have ht0 : t = [] := by
    rcases hcs with ⟨u, h, hu⟩ | h | h
    ·cases h; exact absurd rfl he0
    ·cases h; rfl
    ·cases h; rfl
   subst ht0;refine tr 2 ?_;refine cfa 6 ?_;refine yU (YS rfl rfl) rfl rfl rfl (fun hc1 => ?_) (fun hc1 => ?_);refine vr 9 ?_;refine zN ?_
   ·exact (hc1 rfl).elim
   refine vr 4 ?_;exact QR () (Pick.nil _) trivial (by decide)
 rintro ⟨⟩ -;refine tr 3 ?_;refine zE ((yK cl7 rfl (fun m' hm he => qo (hU.mono hm) (Nat.le_trans (Nat.le_of_not_lt h20) (by decide))) rfl ?_)) rfl;rintro _ _ hq;rcases hq with ⟨bk, ts, K1, kc1, F1, fc1, e1, h1, rfl, rfl, h2, h3, h4⟩ | ⟨e1, a1, h1, rfl, rfl⟩
 rotate_left
 ·have hb := (qs s).bad e1 a1 h1;obtain ⟨hne, ha0, has⟩ := hb;unfold faultV;refine vr 3 ?_;refine Al 0 zl26 fun b2 => ?_;refine Al 0 zl29 fun b3 => ?_;refine Sg 0 ag26 .h1 ?_;refine Sg 6 ag29 .here ?_;refine Lb 0 sg27 .here ?_;refine cta 6 ?_;refine Lb 2 sg23 .h1 ?_;refine Lb 1 sg24 .h1 ?_;refine pe 0 (zi rfl rfl (by omega)) ?_;refine ctr 2 ?_;refine Lb 0 sg3 .here ?_;refine cta 3 ?_
  refine Lb 1 sg3 .here ?_;refine pe 0 (zg rfl st9) ?_;refine cta 2 ?_;refine Cr cl6 rfl (fun m' hm he => (wakes6 (hT.mono hm) (hU.mono hm))) ?_;rintro _ rfl;refine vr 6 ?_;exact rt2 hl2 ⟨rfl, trivial⟩ ⟨rfl, rfl⟩
 unfold faultV;refine vr 3 ?_;refine Al 0 zl26 fun b2 => ?_;refine Al 0 zl29 fun b3 => ?_;refine Sg 0 ag26 .h1 ?_;refine Sg 4 ag29 .here ?_;refine zG .h2 (fun ns hi _ hd => ?_);have hq1 := h4 ns hi;have hCq := hq1.1.mono (zV hd (m := m9));have hFq := hq1.2.mono (zV hd (m := m9));have hl3 : Le m9 (uni m9 ns) := zM _ _;clear hi hd h4 hq1;generalize uni m9 ns = m8 at hCq hFq hl3
 have hl2 := hl2.trans hl3;have hT := hT.mono hl3;have hU := hU.mono hl3;have hfl := jU h2 h3 hFq;have hbm := Wf h1 hFq;refine tr 2 ?_;refine Lb 0 sg27 .here ?_;refine cfo 7 ?_;refine Lc 0 ag26 .h1 ?_;refine Cr cl12 rfl (fun m' hm he => (Text12 (hT.mono hm) (hU.mono hm) (hCq.mono hm).x (hFq.mono hm).x hbm)) ?_;rintro _ rfl;rcases back2 (s := s) h1 with ⟨t2, ht2⟩ | ht3
 rotate_left
 ·rw [ht3];refine vr 11 ?_;refine ctr 5 ?_;refine Cr cl6 rfl (fun m' hm he => (wakes6 (hT.mono hm) (hU.mono hm))) ?_;rintro _ rfl;refine vr 5 ?_;exact rt2 hl2 ⟨rfl, trivial⟩ ⟨rfl, rfl⟩
 have htl2 : t2.length ≤ 65536 := by
  rcases jV bk with ⟨u, h, hu⟩ | h | h
  ·rw [ht2] at h; cases h; exact hu
  ·rw [ht2] at h; cases h
  ·rw [ht2] at h; cases h
 obtain ⟨y, ts0, hr0, hyc, hyf⟩ := back1 ht2;rw [ht2];refine vr 11 ?_;refine cfo 8 ?_;refine zE ((yK cl7 rfl (fun m' hm he => qo (hU.mono hm) (Nat.le_trans htl2 (by decide))) rfl ?_)) rfl;rintro _ _ hq;rcases hq with ⟨bk2', ts2, K2, kc2, F2, fc2, e2, h1', rfl, rfl, h2', h3', h4⟩ | ⟨e2, a2, h1', rfl, rfl⟩
 rotate_left
 ·rw [show readP t2 = readB t2 from rfl, hr0] at h1';cases h1'
 have hbk : bk2' = y := by rw [show readP t2 = readB t2 from rfl, hr0] at h1'; cases h1'; rfl
 subst hbk;unfold faultV;refine vr 3 ?_;refine Al 0 zl26 fun b4 => ?_;refine Al 0 zl29 fun b5 => ?_;refine Sg 0 ag26 .h1 ?_;refine Sg 3 ag29 .here ?_;refine zG .h2 (fun ns hi _ hd => ?_);have hq1 := h4 ns hi;have hCq2 := hq1.1.mono (zV hd (m := m8));have hFq2 := hq1.2.mono (zV hd (m := m8));have hl4 : Le m8 (uni m8 ns) := zM _ _;clear hi hd h4 hq1
 generalize uni m8 ns = m7 at hCq2 hFq2 hl4;have hl2 := hl2.trans hl4;have hT := hT.mono hl4;have hU := hU.mono hl4;have hCq := hCq.mono hl4;have hFq := hFq.mono hl4;have hfl2 := jU h2' h3' hFq2;have hbm2 := Wf h1' hFq2;refine tr 1 ?_;refine Lc 0 ag26 .h1 ?_;refine Cr cl12 rfl (fun m' hm he => (Text12 (hT.mono hm) (hU.mono hm) (hCq2.mono hm).x (hFq2.mono hm).x hbm2)) ?_;rintro _ rfl
 rw [US hyc hyf, ht2];refine vr 10 ?_;refine ctr 2 ?_;refine Lb 0 sg27 .here ?_;refine ctr 3 ?_;refine ctr 4 ?_;refine ctr 2 ?_;refine Lc 0 ag26 .h3 ?_;refine Lc 0 ag26 .h1 ?_
 ·refine zE ((yK cl9 rfl (fun m' hm he => same9 (hCq.mono hm).x (hFq.mono hm).x (hCq2.mono hm).x (hFq2.mono hm).x hfl hfl2) rfl ?_)) rfl;rintro _ _ ⟨⟨rfl, -⟩ | ⟨rfl, hno⟩, rfl⟩
  rotate_left
  ·exact (hno (Yk hyc.symm hyf.symm)).elim
  refine vr 2 ?_;refine Cr cl6 rfl (fun m' hm he => (wakes6 (hT.mono hm) (hU.mono hm))) ?_;rintro _ rfl;refine vr 5 ?_;exact rt2 hl2 ⟨rfl, trivial⟩ ⟨rfl, rfl⟩
end
end Go.Proofs.YtpgiokjfkcddeaaGreatDoor
