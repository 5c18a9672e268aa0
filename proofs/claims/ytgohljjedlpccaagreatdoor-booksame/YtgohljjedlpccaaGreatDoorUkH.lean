/- Parts of the proof: contracts of functions of the program, and plain lemmas. No condition. -/
import Derived.Test.YtgohljjedlpccaaGreatDoorUrI
import Derived.Test.YtgohljjedlpccaaGreatDoorFacts
import Derived.Test.YtgohljjedlpccaaGreatDoorEng2
import Derived.Lib.Join
set_option maxHeartbeats 64000000
set_option maxRecDepth 100000
namespace Go.Proofs.YtgohljjedlpccaaGreatDoor
open Go.Eng
section
open Kd
def CkR (m : Mp) (b : Nat) (l : List (List UInt8 × Bool)) (t : Bool) : Prop := ∃ bm, mc m ⟨b, 0, none⟩ = some (.map (some bm)) ∧ mc m ⟨b, 1, none⟩ = some (.bool t) ∧ MapAt m bm (esU l)
theorem CkR.mono {m m' : Mp} {b : Nat} {l : List (List UInt8 × Bool)} {t : Bool} (h : CkR m b l t) (hl : Le m m') : CkR m' b l t := let ⟨bm, h1, h2, h3⟩ := h; ⟨bm, xW hl h1, xW hl h2, h3.mono hl⟩
theorem cond33 {m0 : Mp} {cs : List Value} {x : CondT} (hx : CondR m0 cs x) : ∀ m, Le m0 m → ∀ (a : Addr) (b : Nat) (l : List (List UInt8 × Bool)) (t : Bool), At m a cs → CkR m b l t →
  CS Tryz.prog 121 [.pointer (some ⟨b, 0, none⟩), .pointer (some a)] m [] (fun v L' => L' = [] ∧ ∃ r, v = .bool r ∧ (r = true ↔ CondOk (uOf l) t x)) := by
 induction hx with
 | @mk op who name nums kids A B la ca lb cb vs us ho hw hn hla hma hra hva hka hlb hmb hrb hvb hkb ih =>
 subst hla hlb;intro m hm a b l t hat hck;have hck0 := hck;obtain ⟨bm, hk0, hk1, hmap⟩ := hck;unfold maxLen at hma hmb;refine zl [.tmp 4] Tryz.func121 rfl rfl rfl ?_;refine tr 12 ?_
 refine vS (α := Unit) (fun _ => [(0, .pointer (some ⟨b, 0, none⟩)), (1, .pointer (some a)), (5, .int .i64 0), (6, .int .i64 0), (7, .bool (decide (who = 0) && decide (name = [])))]) (fun _ => []) (fun _ => True) ?_ ?_
 ·by_cases hw0 : who = 0
  ·rw [decide_eq_true hw0, Bool.true_and];by_cases hn0 : name = []
   ·rw [decide_eq_true hn0];refine tr 4 ?_;refine Lo 0 sg82 rfl (hat.at_ rfl) ?_;refine cta 4 ?_;refine Lo 0 sg9 rfl (hat.at_ rfl) ?_;refine cta 3 ?_;exact QR () (Pick.refl _) trivial (by decide)
   ·rw [decide_eq_false hn0];refine tr 4 ?_;refine Lo 0 sg82 rfl (hat.at_ rfl) ?_;refine cta 4 ?_;refine Lo 0 sg9 rfl (hat.at_ rfl) ?_;refine cfa 3 ?_;exact QR () (Pick.refl _) trivial (by decide)
  ·rw [decide_eq_false hw0, Bool.false_and];refine tr 4 ?_;refine Lo 0 sg82 rfl (hat.at_ rfl) ?_;refine cfa 9 ?_;exact QR () (Pick.refl _) trivial (by decide)
 rintro ⟨⟩ -;refine tr 2 ?_;refine vA (α := Nat × Nat × Bool) (fun y => [(0, .pointer (some ⟨b, 0, none⟩)), (1, .pointer (some a)), (5, .int .i64 (y.1 : Nat)), (6, .int .i64 (y.2.1 : Nat)), (7, .bool y.2.2)]) (fun _ => []) (fun y => condHead (uOf l) op who name nums.length kids.length = (y.2.2 && decide (nums.length = y.1) && decide (kids.length = y.2.1))) ?_ ?_
 ·generalize hz : (decide (who = 0) && decide (name = [])) = z0;by_cases e0 : op = 0
  ·refine tr 4 ?_;refine Lo 6 sg82 rfl (hat.at_ rfl) ?_;refine cta 11 ?_;exact QR (2, 0, z0) (Pick.refl _) (by simp [condHead, *]) (by decide)
  by_cases e1 : op = 1
  ·refine tr 4 ?_;refine Lo 6 sg82 rfl (hat.at_ rfl) ?_;refine cfa 6 ?_;refine cta 11 ?_;exact QR (2, 0, z0) (Pick.refl _) (by simp [condHead, *]) (by decide)
  by_cases e2 : op = 2
  ·refine tr 4 ?_;refine Lo 6 sg82 rfl (hat.at_ rfl) ?_;refine cfa 6 ?_;refine cfa 5 ?_;refine cta 8 ?_;exact QR (2, 0, z0) (Pick.refl _) (by simp [condHead, *]) (by decide)
  by_cases e3 : op = 3
  ·refine tr 4 ?_;refine Lo 6 sg82 rfl (hat.at_ rfl) ?_;refine cfa 6 ?_;refine cfa 5 ?_;refine cfa 6 ?_;refine cta 8 ?_;exact QR (0, 1, z0) (Pick.refl _) (by simp [condHead, *]) (by decide)
  by_cases e4 : op = 4
  ·refine tr 4 ?_;refine Lo 6 sg82 rfl (hat.at_ rfl) ?_;refine cfa 6 ?_;refine cfa 5 ?_;refine cfa 6 ?_;refine cfa 7 ?_;refine cta 11 ?_;exact QR (0, 2, z0) (Pick.refl _) (by simp [condHead, *]) (by decide)
  by_cases e5 : op = 5
  ·refine tr 4 ?_;refine Lo 6 sg82 rfl (hat.at_ rfl) ?_;refine cfa 6 ?_;refine cfa 5 ?_;refine cfa 6 ?_;refine cfa 7 ?_;refine cfa 5 ?_;refine cta 8 ?_;exact QR (0, 2, z0) (Pick.refl _) (by simp [condHead, *]) (by decide)
  by_cases e6 : op = 6
  ·have hgu := jI (s := name) (l := l);cases hu : uOf l name with
   | none =>
     rw [hu] at hgu;refine tr 4 ?_;refine Lo 6 sg82 rfl (hat.at_ rfl) ?_;refine cfa 6 ?_;refine cfa 5 ?_;refine cfa 6 ?_;refine cfa 7 ?_;refine cfa 5 ?_;refine cfa 6 ?_;refine cta 5 ?_;refine zc (sT [0, 1, 2, 4, 5, 6, 103, 107, 108, 9, 10, 11, 12] .done) mixed (by kernel_rfl) (fun _ _ _ _ hq => hq) ?_;refine vt 6 ?_;refine Vu 0 rfl (zR sg105 rfl hk0) ?_
     refine Vu 0 rfl (zR sg9 rfl (hat.at_ rfl)) ?_;refine Vu 4 rfl (uP hmap ms105 rfl rfl mz105) ?_;refine Vm 4 ?_;rw [hgu];refine vr 9 ?_;exact QR (0, 0, false) (Pick.refl _) (by simp [condHead, *]) (by decide)
   | some u =>
     rw [hu] at hgu;refine tr 4 ?_;refine Lo 6 sg82 rfl (hat.at_ rfl) ?_;refine cfa 6 ?_;refine cfa 5 ?_;refine cfa 6 ?_;refine cfa 7 ?_;refine cfa 5 ?_;refine cfa 6 ?_;refine cta 5 ?_;refine zc (sT [0, 1, 2, 4, 5, 6, 103, 107, 108, 9, 10, 11, 12] .done) mixed (by kernel_rfl) (fun _ _ _ _ hq => hq) ?_;refine vt 6 ?_;refine Vu 0 rfl (zR sg105 rfl hk0) ?_
     refine Vu 0 rfl (zR sg9 rfl (hat.at_ rfl)) ?_;refine Vu 4 rfl (uP hmap ms105 rfl rfl mz105) ?_;refine Vm 4 ?_;rw [hgu];refine vr 3 ?_;refine Lo 0 sg82 rfl (hat.at_ rfl) ?_;refine Cr cl120 rfl (fun m' hm he => (side32 who)) ?_;rintro _ rfl;refine vr 4 ?_;exact QR (0, 0, sideB who) (Pick.refl _) (by simp [condHead, *]) (by decide)
  refine tr 4 ?_;refine Lo 6 sg82 rfl (hat.at_ rfl) ?_;refine cfa 6 ?_;refine cfa 5 ?_;refine cfa 6 ?_;refine cfa 7 ?_;refine cfa 5 ?_;refine cfa 6 ?_;refine cfa 11 ?_;refine zI ?_;exact rt1 ⟨rfl, trivial⟩ ⟨rfl, false, rfl, fun h => (by cases h), fun h => by cases h with | mk hh _ _ => simp [condHead, *] at hh⟩
 rintro ⟨k1, k2, o⟩ hh
 try dsimp only at hh
 try dsimp only
 by_cases hg : condHead (uOf l) op who name nums.length kids.length = true
 ·rw [hg] at hh;have hh2 := hh.symm;simp only [Bool.and_eq_true, decide_eq_true_eq] at hh2;obtain ⟨⟨rfl, e1⟩, e2⟩ := hh2;have e1' : ((nums.length : Nat) : Int) = (k1 : Nat) := by omega
  have e2' : ((kids.length : Nat) : Int) = (k2 : Nat) := by omega
  refine tr 9 ?_;refine Lo 2 sg83 rfl (hat.at_ rfl) ?_;refine cfo 5 ?_;refine Lo 2 sg86 rfl (hat.at_ rfl) ?_;refine cfo 12 ?_;refine Lo 5 sg83 rfl (hat.at_ rfl) ?_
  refine zZ (α := Nat) (fun i => [(0, .pointer (some ⟨b, 0, none⟩)), (1, .pointer (some a)), (81, .int .i64 (nums.length : Nat)), (82, .int .i64 (i : Nat))]) (fun _ => []) (fun i => i ≤ nums.length ∧ ∀ (j : Nat) (h : j < nums.length), j < i → NumOk t nums[j]) (fun i => nums.length - i) 0 ⟨rfl, rfl, rfl, rfl, trivial⟩ (Pick.refl _) ⟨Nat.zero_le _, fun _ _ h => by cases h⟩ ?_
  rintro i ⟨hi, hdone⟩
  try dsimp only at hi hdone
  try dsimp only
  by_cases hlt : i < nums.length
  ·have hA : A.isSome = true := hra.isSome (by omega);have hc := fun m1 (hm1 : Le m m1) => num31 (hka i hlt) m1 (hm.trans hm1) ((sa A).add (i * 4)) b t (((hra.elem (i * 4) 4).mono hm).mono hm1) (xW hm1 hk1);refine tr 2 ?_;refine cto 20 ?_;refine Lo 1 sg83 rfl (hat.at_ rfl) ?_;refine pe 0 (zC ez83 rfl rfl hA (by omega)) ?_
   refine zE ((zW cl119 rfl (fun m1 hm1 he => hc m1 hm1) rfl ?_)) rfl;rintro _ _ ⟨rfl, r, rfl, hrr⟩;cases r with
   | true =>
     refine vr 8 ?_;refine Pa 2 ?_
     exact QR (i + 1) (Pick.refl _) ⟨hlt, fun j h h2 => by
      by_cases hji : j < i
      ·exact hdone j h hji
      ·obtain rfl : j = i := by omega
       exact hrr.1 rfl⟩ (by omega)
   | false =>
     refine vr 12 ?_;refine zI ?_;refine zH ?_;refine zL ?_;exact rt1 ⟨rfl, trivial⟩ ⟨rfl, false, rfl, fun h => (by cases h), fun h => by cases h with | mk _ hk _ => exact absurd (hrr.2 (hk i hlt)) (by decide)⟩
  have hdn : ∀ (j : Nat) (h : j < nums.length), NumOk t nums[j] := fun j h => hdone j h (by omega);clear hdone;refine tr 2 ?_;refine cfo 6 ?_;refine zG ?_;refine zF ?_;refine qt 7 ?_;refine Lo 5 sg86 rfl (hat.at_ rfl) ?_
  refine zZ (α := Nat) (fun i => [(0, .pointer (some ⟨b, 0, none⟩)), (1, .pointer (some a)), (99, .int .i64 (kids.length : Nat)), (100, .int .i64 (i : Nat))]) (fun _ => []) (fun i => i ≤ kids.length ∧ ∀ (j : Nat) (h : j < kids.length), j < i → CondOk (uOf l) t kids[j]) (fun i => kids.length - i) 0 ⟨rfl, rfl, rfl, rfl, trivial⟩ (Pick.refl _) ⟨Nat.zero_le _, fun _ _ h => by cases h⟩ ?_
  clear hlt hi i;rintro i ⟨hi, hdone⟩
  try dsimp only at hi hdone
  try dsimp only
  by_cases hlt : i < kids.length
  ·have hA : B.isSome = true := hrb.isSome (by omega);have hc := fun m1 (hm1 : Le m m1) => ih i hlt m1 (hm.trans hm1) ((sa B).add (i * 5)) b l t (((hrb.elem (i * 5) 5).mono hm).mono hm1) (hck0.mono hm1);refine tr 2 ?_;refine cto 20 ?_;refine Lo 1 sg86 rfl (hat.at_ rfl) ?_;refine pe 0 (zC ez86 rfl rfl hA (by omega)) ?_
   refine zE ((zW cl121 rfl (fun m1 hm1 he => hc m1 hm1) rfl ?_)) rfl;rintro _ _ ⟨rfl, r, rfl, hrr⟩;cases r with
   | true =>
     refine vr 8 ?_;refine Pa 2 ?_
     exact QR (i + 1) (Pick.refl _) ⟨hlt, fun j h h2 => by
      by_cases hji : j < i
      ·exact hdone j h hji
      ·obtain rfl : j = i := by omega
       exact hrr.1 rfl⟩ (by omega)
   | false =>
     refine vr 12 ?_;refine zI ?_;refine zH ?_;refine zL ?_;exact rt1 ⟨rfl, trivial⟩ ⟨rfl, false, rfl, fun h => (by cases h), fun h => by cases h with | mk _ _ hk => exact absurd (hrr.2 (hk i hlt)) (by decide)⟩
  ·refine tr 2 ?_;refine cfo 6 ?_;refine zG ?_;refine zF ?_;refine qt 7 ?_;exact rt1 ⟨rfl, trivial⟩ ⟨rfl, true, rfl, fun _ => .mk hg hdn fun j h => hdone j h (by omega), fun _ => rfl⟩
 ·have hg' := Bool.eq_false_iff.2 hg;rw [hg'] at hh;cases o with
  | false =>
    refine tr 33 ?_;exact rt1 ⟨rfl, trivial⟩ ⟨rfl, false, rfl, fun h => (by cases h), fun h => by cases h with | mk hh _ _ => exact absurd hh hg⟩
  | true =>
    by_cases hk1' : ((nums.length : Nat) : Int) = (k1 : Nat)
    ·have h1 : nums.length = k1 := by omega
     have h2 : ¬ ((kids.length : Nat) : Int) = (k2 : Nat) := fun e => by
      have e' : kids.length = k2 := by omega
      rw [e', h1] at hh
      simp at hh
     refine tr 9 ?_;refine Lo 2 sg83 rfl (hat.at_ rfl) ?_;refine cfo 5 ?_;refine Lo 2 sg86 rfl (hat.at_ rfl) ?_;refine cta 11 ?_;exact rt1 ⟨rfl, trivial⟩ ⟨rfl, false, rfl, fun h => (by cases h), fun h => by cases h with | mk hh _ _ => exact absurd hh hg⟩
    ·refine tr 9 ?_;refine Lo 2 sg83 rfl (hat.at_ rfl) ?_;refine cta 20 ?_;exact rt1 ⟨rfl, trivial⟩ ⟨rfl, false, rfl, fun h => (by cases h), fun h => by cases h with | mk hh _ _ => exact absurd hh hg⟩
end
section
open Kd
theorem zero29 {m : Mp} {cs : List Value} {x : EffT} (hx : EffR m cs x) {a : Addr} (hat : At m a cs) : CS Tryz.prog 117 [.pointer (some a)] m [] (Gives (.bool (zeroP x))) := by
 obtain ⟨op, who, nop, nn, nwho, nA, nlen, nc, name, cop, cwho, cname, cA, cla, cca, cB, clb, ccb, A, la, ca, B, lb, cb, n, cond, thn, els, rfl, rfl, -, hn, hc, ⟨ht, ht2, -⟩, ⟨he, he2, -⟩⟩ := EffR.parts hx;clear hx;cases hn with
 | @mk _ _ _ nk _ _ _ _ _ hnl hnm _ _ _ =>
 cases hc with
 | @mk _ _ _ cns ck _ _ _ _ _ _ _ _ _ _ _ hla hma _ _ _ hlb hmb _ _ _ =>
 subst hnl hla hlb ht he;have hatn := hat.sub 2 4;have hatc := hat.sub 7 5;dsimp only [List.drop, List.take] at hatn hatc
 show CS Tryz.prog 117 [.pointer (some a)] m [] (Gives (.bool ((countsB op || (decide (nop = 0) && decide (nn = 0) && decide (nwho = 0) && decide (nk.length = 0))) && (decide (op = 7) || decide (name = [])) && (decide (op = 8) || (decide (cop = 0) && decide (cwho = 0) && decide (cname = []) && decide (wsum cns.length ck.length thn.length els.length = 0))))));unfold maxLen at hnm hma hmb ht2 he2
 refine zl [.tmp 2] Tryz.func117 rfl rfl rfl ?_;refine tr 6 ?_;refine vS (α := Unit) (fun _ => [(0, .pointer (some a)), (3, .bool (countsB op || (decide (nop = 0) && decide (nn = 0) && decide (nwho = 0) && decide (nk.length = 0))))]) (fun _ => []) (fun _ => True) ?_ ?_
 ·refine tr 4 ?_;refine Lo 0 sg82 rfl (hat.at_ rfl) ?_;refine Cr cl118 rfl (fun m' hm he => (counts30 op)) ?_;rintro _ rfl;cases hcb : countsB op with
  | true =>
    refine vr 35 ?_;exact QR () (Pick.refl _) trivial (by decide)
  | false =>
    rw [Bool.false_or];by_cases h1 : nop = 0
    ·rw [decide_eq_true h1, Bool.true_and];by_cases h2 : nn = 0
     ·rw [decide_eq_true h2, Bool.true_and];by_cases h3 : nwho = 0
      ·rw [decide_eq_true h3, Bool.true_and];by_cases h4 : nk.length = 0
       ·rw [decide_eq_true h4];refine vr 5 ?_;refine Lo 0 sg82 rfl (hatn.at_ rfl) ?_;refine cta 5 ?_;refine Lo 0 sg3 rfl (hatn.at_ rfl) ?_;refine cta 6 ?_;refine Lo 0 sg82 rfl (hatn.at_ rfl) ?_;refine cta 6 ?_;refine Lo 1 sg83 rfl (hatn.at_ rfl) ?_;refine cto 4 ?_;exact QR () (Pick.refl _) trivial (by decide)
       ·rw [decide_eq_false h4];refine vr 5 ?_;refine Lo 0 sg82 rfl (hatn.at_ rfl) ?_;refine cta 5 ?_;refine Lo 0 sg3 rfl (hatn.at_ rfl) ?_;refine cta 6 ?_;refine Lo 0 sg82 rfl (hatn.at_ rfl) ?_;refine cta 6 ?_;refine Lo 1 sg83 rfl (hatn.at_ rfl) ?_;refine cfo 4 ?_;exact QR () (Pick.refl _) trivial (by decide)
      ·rw [decide_eq_false h3, Bool.false_and];refine vr 5 ?_;refine Lo 0 sg82 rfl (hatn.at_ rfl) ?_;refine cta 5 ?_;refine Lo 0 sg3 rfl (hatn.at_ rfl) ?_;refine cta 6 ?_;refine Lo 0 sg82 rfl (hatn.at_ rfl) ?_;refine cfa 13 ?_;exact QR () (Pick.refl _) trivial (by decide)
     ·rw [decide_eq_false h2, Bool.false_and];refine vr 5 ?_;refine Lo 0 sg82 rfl (hatn.at_ rfl) ?_;refine cta 5 ?_;refine Lo 0 sg3 rfl (hatn.at_ rfl) ?_;refine cfa 21 ?_;exact QR () (Pick.refl _) trivial (by decide)
    ·rw [decide_eq_false h1, Bool.false_and];refine vr 5 ?_;refine Lo 0 sg82 rfl (hatn.at_ rfl) ?_;refine cfa 28 ?_;exact QR () (Pick.refl _) trivial (by decide)
 rintro ⟨⟩ -;generalize (countsB op || (decide (nop = 0) && decide (nn = 0) && decide (nwho = 0) && decide (nk.length = 0))) = z1;refine tr 1 ?_;refine vS (α := Unit) (fun _ => [(0, .pointer (some a)), (3, .bool z1), (4, .bool (decide (op = 7) || decide (name = [])))]) (fun _ => []) (fun _ => True) ?_ ?_
 ·by_cases h7 : op = 7
  ·rw [decide_eq_true h7, Bool.true_or];refine tr 4 ?_;refine Lo 0 sg82 rfl (hat.at_ rfl) ?_;refine cta 9 ?_;exact QR () (Pick.refl _) trivial (by decide)
  ·rw [decide_eq_false h7, Bool.false_or];by_cases h1 : name = []
   ·rw [decide_eq_true h1];refine tr 4 ?_;refine Lo 0 sg82 rfl (hat.at_ rfl) ?_;refine cfa 4 ?_;refine Lo 0 sg9 rfl (hat.at_ rfl) ?_;refine cta 3 ?_;exact QR () (Pick.refl _) trivial (by decide)
   ·rw [decide_eq_false h1];refine tr 4 ?_;refine Lo 0 sg82 rfl (hat.at_ rfl) ?_;refine cfa 4 ?_;refine Lo 0 sg9 rfl (hat.at_ rfl) ?_;refine cfa 3 ?_;exact QR () (Pick.refl _) trivial (by decide)
 rintro ⟨⟩ -;generalize (decide (op = 7) || decide (name = [])) = z2;refine tr 9 ?_;refine vS (α := Unit) (fun _ => [(0, .pointer (some a)), (3, .bool z1), (4, .bool z2), (6, .bool (decide (op = 8) || (decide (cop = 0) && decide (cwho = 0) && decide (cname = []) && decide (wsum cns.length ck.length thn.length els.length = 0))))]) (fun _ => []) (fun _ => True) ?_ ?_
 ·by_cases h8 : op = 8
  ·rw [decide_eq_true h8, Bool.true_or];refine zc (sT [0, 1, 2, 103, 4, 5, 6, 7, 8, 109, 10, 11, 12, 13, 14, 115, 16, 17, 18, 19, 20, 21, 122, 23, 24, 25, 26, 27, 28, 31, 32, 33, 37, 38, 39, 43, 44, 45, 129, 30, 134, 35, 36, 140, 41, 42, 146, 47, 48, 49, 50, 51, 52] .done) mixed (by kernel_rfl) (fun _ _ _ _ hq => hq) ?_;refine vt 3 ?_;refine Vu 0 rfl (zR sg82 rfl (hat.at_ rfl)) ?_
   refine Vt 48 rfl (dt (zz rfl rfl) (by assumption)) ?_;refine Vm 0 ?_;exact QR () (Pick.refl _) trivial (by decide)
  ·rw [decide_eq_false h8, Bool.false_or];by_cases h1 : cop = 0
   ·rw [decide_eq_true h1, Bool.true_and];by_cases h2 : cwho = 0
    ·rw [decide_eq_true h2, Bool.true_and];by_cases h3 : cname = []
     ·rw [decide_eq_true h3, Bool.true_and];by_cases h4 : wsum cns.length ck.length thn.length els.length = 0
      ·rw [decide_eq_true h4];unfold wsum at h4;refine zc (sT [0, 1, 2, 103, 4, 5, 6, 7, 8, 109, 10, 11, 12, 13, 14, 115, 16, 17, 18, 19, 20, 21, 122, 23, 24, 25, 26, 27, 28, 31, 32, 33, 37, 38, 39, 43, 44, 45, 129, 30, 134, 35, 36, 140, 41, 42, 146, 47, 48, 49, 50, 51, 52] .done) mixed (by kernel_rfl) (fun _ _ _ _ hq => hq) ?_;refine vt 3 ?_;refine Vu 0 rfl (zR sg82 rfl (hat.at_ rfl)) ?_
       refine Vt 4 rfl (df (zz rfl rfl) (by assumption)) ?_;refine Vu 0 rfl (zR sg82 rfl (hatc.at_ rfl)) ?_;refine Vt 4 rfl (dt (zz rfl rfl) (by assumption)) ?_;refine Vu 0 rfl (zR sg82 rfl (hatc.at_ rfl)) ?_;refine Vt 5 rfl (dt (zz rfl rfl) (by assumption)) ?_;refine Vu 0 rfl (zR sg9 rfl (hatc.at_ rfl)) ?_;refine Vt 14 rfl (dt (qL rfl rfl) (by assumption)) ?_
       refine Vu 1 rfl (zR sg83 rfl (hatc.at_ rfl)) ?_;refine Vu 1 rfl (zR sg86 rfl (hatc.at_ rfl)) ?_;refine Vt 0 rfl (zy rfl rfl rfl) ?_;refine Vu 1 rfl (zR sg46 rfl (hat.at_ rfl)) ?_;refine Vt 0 rfl (zy rfl rfl rfl) ?_;refine Vu 1 rfl (zR sg46 rfl (hat.at_ rfl)) ?_;refine Vt 0 rfl (zy rfl rfl rfl) ?_;refine Vt 3 rfl (dt (zz rfl rfl) (by assumption)) ?_;refine Vm 0 ?_
       exact QR () (Pick.refl _) trivial (by decide)
      ·rw [decide_eq_false h4];unfold wsum at h4;refine zc (sT [0, 1, 2, 103, 4, 5, 6, 7, 8, 109, 10, 11, 12, 13, 14, 115, 16, 17, 18, 19, 20, 21, 122, 23, 24, 25, 26, 27, 28, 31, 32, 33, 37, 38, 39, 43, 44, 45, 129, 30, 134, 35, 36, 140, 41, 42, 146, 47, 48, 49, 50, 51, 52] .done) mixed (by kernel_rfl) (fun _ _ _ _ hq => hq) ?_;refine vt 3 ?_;refine Vu 0 rfl (zR sg82 rfl (hat.at_ rfl)) ?_
       refine Vt 4 rfl (df (zz rfl rfl) (by assumption)) ?_;refine Vu 0 rfl (zR sg82 rfl (hatc.at_ rfl)) ?_;refine Vt 4 rfl (dt (zz rfl rfl) (by assumption)) ?_;refine Vu 0 rfl (zR sg82 rfl (hatc.at_ rfl)) ?_;refine Vt 5 rfl (dt (zz rfl rfl) (by assumption)) ?_;refine Vu 0 rfl (zR sg9 rfl (hatc.at_ rfl)) ?_;refine Vt 14 rfl (dt (qL rfl rfl) (by assumption)) ?_
       refine Vu 1 rfl (zR sg83 rfl (hatc.at_ rfl)) ?_;refine Vu 1 rfl (zR sg86 rfl (hatc.at_ rfl)) ?_;refine Vt 0 rfl (zy rfl rfl rfl) ?_;refine Vu 1 rfl (zR sg46 rfl (hat.at_ rfl)) ?_;refine Vt 0 rfl (zy rfl rfl rfl) ?_;refine Vu 1 rfl (zR sg46 rfl (hat.at_ rfl)) ?_;refine Vt 0 rfl (zy rfl rfl rfl) ?_;refine Vt 3 rfl (df (zz rfl rfl) (by assumption)) ?_;refine Vm 0 ?_
       exact QR () (Pick.refl _) trivial (by decide)
     ·rw [decide_eq_false h3, Bool.false_and];refine zc (sT [0, 1, 2, 103, 4, 5, 6, 7, 8, 109, 10, 11, 12, 13, 14, 115, 16, 17, 18, 19, 20, 21, 122, 23, 24, 25, 26, 27, 28, 31, 32, 33, 37, 38, 39, 43, 44, 45, 129, 30, 134, 35, 36, 140, 41, 42, 146, 47, 48, 49, 50, 51, 52] .done) mixed (by kernel_rfl) (fun _ _ _ _ hq => hq) ?_;refine vt 3 ?_;refine Vu 0 rfl (zR sg82 rfl (hat.at_ rfl)) ?_
      refine Vt 4 rfl (df (zz rfl rfl) (by assumption)) ?_;refine Vu 0 rfl (zR sg82 rfl (hatc.at_ rfl)) ?_;refine Vt 4 rfl (dt (zz rfl rfl) (by assumption)) ?_;refine Vu 0 rfl (zR sg82 rfl (hatc.at_ rfl)) ?_;refine Vt 5 rfl (dt (zz rfl rfl) (by assumption)) ?_;refine Vu 0 rfl (zR sg9 rfl (hatc.at_ rfl)) ?_;refine Vt 29 rfl (df (qL rfl rfl) (by assumption)) ?_;refine Vm 0 ?_
      exact QR () (Pick.refl _) trivial (by decide)
    ·rw [decide_eq_false h2, Bool.false_and];refine zc (sT [0, 1, 2, 103, 4, 5, 6, 7, 8, 109, 10, 11, 12, 13, 14, 115, 16, 17, 18, 19, 20, 21, 122, 23, 24, 25, 26, 27, 28, 31, 32, 33, 37, 38, 39, 43, 44, 45, 129, 30, 134, 35, 36, 140, 41, 42, 146, 47, 48, 49, 50, 51, 52] .done) mixed (by kernel_rfl) (fun _ _ _ _ hq => hq) ?_;refine vt 3 ?_;refine Vu 0 rfl (zR sg82 rfl (hat.at_ rfl)) ?_
     refine Vt 4 rfl (df (zz rfl rfl) (by assumption)) ?_;refine Vu 0 rfl (zR sg82 rfl (hatc.at_ rfl)) ?_;refine Vt 4 rfl (dt (zz rfl rfl) (by assumption)) ?_;refine Vu 0 rfl (zR sg82 rfl (hatc.at_ rfl)) ?_;refine Vt 36 rfl (df (zz rfl rfl) (by assumption)) ?_;refine Vm 0 ?_;exact QR () (Pick.refl _) trivial (by decide)
   ·rw [decide_eq_false h1, Bool.false_and];refine zc (sT [0, 1, 2, 103, 4, 5, 6, 7, 8, 109, 10, 11, 12, 13, 14, 115, 16, 17, 18, 19, 20, 21, 122, 23, 24, 25, 26, 27, 28, 31, 32, 33, 37, 38, 39, 43, 44, 45, 129, 30, 134, 35, 36, 140, 41, 42, 146, 47, 48, 49, 50, 51, 52] .done) mixed (by kernel_rfl) (fun _ _ _ _ hq => hq) ?_;refine vt 3 ?_;refine Vu 0 rfl (zR sg82 rfl (hat.at_ rfl)) ?_
    refine Vt 4 rfl (df (zz rfl rfl) (by assumption)) ?_;refine Vu 0 rfl (zR sg82 rfl (hatc.at_ rfl)) ?_;refine Vt 42 rfl (df (zz rfl rfl) (by assumption)) ?_;refine Vm 0 ?_;exact QR () (Pick.refl _) trivial (by decide)
 rintro ⟨⟩ -;generalize (decide (op = 8) || (decide (cop = 0) && decide (cwho = 0) && decide (cname = []) && decide (wsum cns.length ck.length thn.length els.length = 0))) = z3;cases z1 with
 | false =>
   refine tr 13 ?_;exact rt1 ⟨rfl, trivial⟩ ⟨rfl, rfl⟩
 | true =>
   cases z2 with
   | false =>
     refine tr 13 ?_;exact rt1 ⟨rfl, trivial⟩ ⟨rfl, rfl⟩
   | true =>
     refine tr 13 ?_;exact rt1 ⟨rfl, trivial⟩ ⟨rfl, rfl⟩
end
section
open Wd Kd
theorem XT {u : Us} {t : Bool} {d : Nat} {op who : Int} {n : NumT} {name : List UInt8} {c : CondT} {a b : List EffT} : EffOk u t d (.mk op who n name c a b) ↔
  (zeroP (.mk op who n name c a b) = true ∧ (countsB op = true → NumOk t n)) ∧ whoHead u t op who name = true ∧ (op = 8 → CondOk u t c ∧ ListOk u t (d + 1) a ∧ ListOk u t (d + 1) b) := by
 constructor
 ·intro h;cases h with
  | mk hz hn hw hc ha hak hb hbk => exact ⟨⟨hz, hn⟩, hw, fun h8 => ⟨hc h8, ⟨(ha h8).1, (ha h8).2, hak h8⟩, ⟨hb h8, (ha h8).2, hbk h8⟩⟩⟩
 ·rintro ⟨⟨hz, hn⟩, hw, h8⟩;exact .mk hz hn hw (fun e => (h8 e).1) (fun e => ⟨(h8 e).2.1.1, (h8 e).2.1.2.1⟩) (fun e => (h8 e).2.1.2.2) (fun e => (h8 e).2.2.1) (fun e => (h8 e).2.2.2.2)
def LC (l : List EffT) : Prop := ∀ (m : Mp) (A : Option Addr) (cap b d : Nat) (ul : List (List UInt8 × Bool)) (t : Bool), EffsR m A l.length l → CkR m b ul t → d ≤ 9 →
  CS Tryz.prog 93 [.pointer (some ⟨b, 0, none⟩), .slice A l.length cap, .int .i64 (d : Nat)] m [] (fun v L' => L' = [] ∧ ∃ r, v = .bool r ∧ (r = true ↔ ListOk (uOf ul) t d l))
theorem ZL {l : List EffT} (ih : ∀ (i : Nat) (h : i < l.length) (op who : Int) (n : NumT) (name : List UInt8) (c : CondT) (a e : List EffT), l[i] = .mk op who n name c a e → LC a ∧ LC e) : LC l := by
 rintro m A cap b d ul t ⟨-, hml, vs, hrd, hvl, hel⟩ hck hd9;have hck0 := hck;obtain ⟨bm, hk0, hk1, hmap⟩ := hck;unfold maxLen at hml;refine zl [.tmp 6] Tryz.func93 rfl rfl rfl ?_;by_cases h16 : l.length ≤ 16
 rotate_left
 ·refine tr 10 ?_;refine cto 14 ?_;exact rt1 ⟨rfl, trivial⟩ ⟨rfl, false, rfl, fun h => (by cases h), fun h => absurd h.1 h16⟩
 by_cases h8 : d ≤ 8
 rotate_left
 ·refine tr 10 ?_;refine cfo 2 ?_;refine cto 11 ?_;exact rt1 ⟨rfl, trivial⟩ ⟨rfl, false, rfl, fun h => (by cases h), fun h => absurd h.2.1 h8⟩
 refine tr 10 ?_;refine cfo 2 ?_;refine cfo 15 ?_
 refine zZ (α := Nat) (fun i => [(0, .pointer (some ⟨b, 0, none⟩)), (1, .slice A l.length cap), (2, .int .i64 (d : Nat)), (18, .int .i64 (l.length : Nat)), (19, .int .i64 (i : Nat))]) (fun _ => []) (fun i => i ≤ l.length ∧ ∀ (j : Nat) (h : j < l.length), j < i → EffOk (uOf ul) t d l[j]) (fun i => l.length - i) 0 ⟨rfl, rfl, rfl, rfl, rfl, trivial⟩ (Pick.refl _) ⟨Nat.zero_le _, fun _ _ h => by cases h⟩ ?_
 rintro i ⟨hi, hdone⟩
 try dsimp only at hi hdone
 try dsimp only
 by_cases hlt : i < l.length
 rotate_left
 ·refine tr 2 ?_;refine cfo 6 ?_;refine zG ?_;refine zF ?_;refine qt 7 ?_;exact rt1 ⟨rfl, trivial⟩ ⟨rfl, true, rfl, fun _ => ⟨h16, h8, fun j h => hdone j h (by omega)⟩, fun _ => rfl⟩
 have hA : A.isSome = true := hrd.isSome (by omega);have hx := hel i hlt;have hat := hrd.elem (i * 14) 14;have hih := ih i hlt;have hfin : ¬ EffOk (uOf ul) t d l[i] → ¬ ListOk (uOf ul) t d l := fun h1 h2 => h1 (h2.2.2 i hlt)
 have hnext : EffOk (uOf ul) t d l[i] → ∀ (j : Nat) (h : j < l.length), j < i + 1 → EffOk (uOf ul) t d l[j] := fun h1 j h h2 => by
  by_cases hji : j < i
  ·exact hdone j h hji
  ·obtain rfl : j = i := by omega
   exact h1
 generalize l[i] = x at hx hih hfin hnext;generalize (vs.drop (i * 14)).take 14 = cs at hx hat;have hx0 := hx;obtain ⟨op, who, nop, nn, nwho, nA, nlen, nc, name, cop, cwho, cname, cA, cla, cca, cB, clb, ccb, TA, la, ca, EB, lb, cb, n, cond, thn, els, rfl, rfl, -, hn, hc, hthn, hels⟩ := EffR.parts hx;obtain ⟨ihT, ihE⟩ := hih _ _ _ _ _ _ _ rfl;have elen := hthn.1;have elen2 := hels.1;subst elen elen2
 rw [XT] at hfin hnext;have hatn := hat.sub 2 4;have hatc := hat.sub 7 5;dsimp only [List.drop, List.take] at hatn hatc;have hzero := fun m1 (hm1 : Le m m1) => zero29 (hx0.mono hm1) (hat.mono hm1);generalize zeroP (.mk op who n name cond thn els) = z at hfin hnext hzero;clear hx hx0 hdone;refine tr 2 ?_;refine cto 18 ?_;refine pe 4 (zC ez46 rfl rfl hA (by omega)) ?_
 refine vS (α := Bool) (fun y => [(0, .pointer (some ⟨b, 0, none⟩)), (1, .slice A l.length cap), (2, .int .i64 (d : Nat)), (18, .int .i64 (l.length : Nat)), (19, .int .i64 (i : Nat)), (8, .pointer (some ((sa A).add (i * 14)))), (9, .bool y)]) (fun _ => []) (fun y => y = true ↔ (z = true ∧ (countsB op = true → NumOk t n))) ?_ ?_
 ·refine tr 2 ?_;refine Cr cl117 rfl (fun m' hm he => (hzero m' hm)) ?_;rintro _ rfl;cases z with
  | false =>
    refine vr 17 ?_;exact QR false (Pick.refl _) (by simp) (by decide)
  | true =>
    refine vr 4 ?_;refine Lo 0 sg82 rfl (hat.at_ rfl) ?_;refine Cr cl118 rfl (fun m' hm he => (counts30 op)) ?_;rintro _ rfl;cases hcb : countsB op with
    | false =>
      refine vr 11 ?_;exact QR true (Pick.refl _) (by simp) (by decide)
    | true =>
      refine vr 6 ?_;refine zE ((zW cl119 rfl (fun m1 hm1 he => num31 hn m1 hm1 _ b t (hatn.mono hm1) (xW hm1 hk1)) rfl ?_)) rfl;rintro _ _ ⟨rfl, r, rfl, hrr⟩;refine vr 4 ?_;exact QR r (Pick.refl _) (by simp [hrr]) (by decide)
 intro y hy;rw [← hy] at hfin hnext;clear hzero hy;refine tr 2 ?_
 refine vA (α := Bool) (fun y => [(0, .pointer (some ⟨b, 0, none⟩)), (1, .slice A l.length cap), (2, .int .i64 (d : Nat)), (18, .int .i64 (l.length : Nat)), (19, .int .i64 (i : Nat)), (9, .bool y)]) (fun _ => []) (fun z => z = true ↔ (y = true ∧ whoHead (uOf ul) t op who name = true ∧ (op = 8 → CondOk (uOf ul) t cond ∧ ListOk (uOf ul) t (d + 1) thn ∧ ListOk (uOf ul) t (d + 1) els))) ?_ ?_
 ·refine tr 4 ?_;refine Lo 5 sg82 rfl (hat.at_ rfl) ?_;by_cases e0 : op = 0
  ·cases y with
   | false =>
     refine tr 1 ?_;refine cta 32 ?_;exact QR false (Pick.refl _) (by simp [whoHead, *]) (by decide)
   | true =>
     refine tr 1 ?_;refine cta 13 ?_;refine Lo 0 sg82 rfl (hat.at_ rfl) ?_;refine Cr cl120 rfl (fun m' hm he => (side32 who)) ?_;rintro _ rfl;cases hsd : sideB who with
     | true =>
       refine vr 17 ?_;exact QR true (Pick.refl _) (by simp [whoHead, *]) (by decide)
     | false =>
       by_cases hw2 : who = 2
       ·have h20 : sideB 2 = false := rfl;refine vr 4 ?_;refine Lo 0 sg82 rfl (hat.at_ rfl) ?_;refine cta 4 ?_;refine Lo 6 sg4 rfl hk1 ?_;exact QR t (Pick.refl _) (by simp [whoHead, *]) (by decide)
       ·refine vr 4 ?_;refine Lo 0 sg82 rfl (hat.at_ rfl) ?_;refine cfa 11 ?_;exact QR false (Pick.refl _) (by simp [whoHead, *]) (by decide)
  by_cases e1 : op = 1
  ·cases y with
   | false =>
     refine tr 1 ?_;refine cfa 5 ?_;refine cta 29 ?_;exact QR false (Pick.refl _) (by simp [whoHead, *]) (by decide)
   | true =>
     refine tr 1 ?_;refine cfa 5 ?_;refine cta 10 ?_;refine Lo 0 sg82 rfl (hat.at_ rfl) ?_;refine Cr cl120 rfl (fun m' hm he => (side32 who)) ?_;rintro _ rfl;cases hsd : sideB who with
     | true =>
       refine vr 17 ?_;exact QR true (Pick.refl _) (by simp [whoHead, *]) (by decide)
     | false =>
       by_cases hw2 : who = 2
       ·have h20 : sideB 2 = false := rfl;refine vr 4 ?_;refine Lo 0 sg82 rfl (hat.at_ rfl) ?_;refine cta 4 ?_;refine Lo 6 sg4 rfl hk1 ?_;exact QR t (Pick.refl _) (by simp [whoHead, *]) (by decide)
       ·refine vr 4 ?_;refine Lo 0 sg82 rfl (hat.at_ rfl) ?_;refine cfa 11 ?_;exact QR false (Pick.refl _) (by simp [whoHead, *]) (by decide)
  by_cases e2 : op = 2
  ·cases y with
   | false =>
     refine tr 1 ?_;refine cfa 5 ?_;refine cfa 7 ?_;refine cta 19 ?_;exact QR false (Pick.refl _) (by simp [whoHead, *]) (by decide)
   | true =>
     refine tr 1 ?_;refine cfa 5 ?_;refine cfa 7 ?_;refine cta 13 ?_;refine Lo 0 sg82 rfl (hat.at_ rfl) ?_;refine Cr cl120 rfl (fun m' hm he => (side32 who)) ?_;rintro _ rfl;refine vr 4 ?_;exact QR (sideB who) (Pick.refl _) (by simp [whoHead, *]) (by decide)
  by_cases e4 : op = 4
  ·cases y with
   | false =>
     refine tr 1 ?_;refine cfa 5 ?_;refine cfa 7 ?_;refine cfa 6 ?_;refine cta 19 ?_;exact QR false (Pick.refl _) (by simp [whoHead, *]) (by decide)
   | true =>
     refine tr 1 ?_;refine cfa 5 ?_;refine cfa 7 ?_;refine cfa 6 ?_;refine cta 13 ?_;refine Lo 0 sg82 rfl (hat.at_ rfl) ?_;refine Cr cl120 rfl (fun m' hm he => (side32 who)) ?_;rintro _ rfl;refine vr 4 ?_;exact QR (sideB who) (Pick.refl _) (by simp [whoHead, *]) (by decide)
  by_cases e6 : op = 6
  ·cases y with
   | false =>
     refine tr 1 ?_;refine cfa 5 ?_;refine cfa 7 ?_;refine cfa 6 ?_;refine cfa 5 ?_;refine cta 16 ?_;exact QR false (Pick.refl _) (by simp [whoHead, *]) (by decide)
   | true =>
     refine tr 1 ?_;refine cfa 5 ?_;refine cfa 7 ?_;refine cfa 6 ?_;refine cfa 5 ?_;refine cta 10 ?_;refine Lo 0 sg82 rfl (hat.at_ rfl) ?_;refine Cr cl120 rfl (fun m' hm he => (side32 who)) ?_;rintro _ rfl;refine vr 4 ?_;exact QR (sideB who) (Pick.refl _) (by simp [whoHead, *]) (by decide)
  by_cases e3 : op = 3
  ·cases y with
   | false =>
     refine tr 1 ?_;refine cfa 5 ?_;refine cfa 7 ?_;refine cfa 6 ?_;refine cfa 5 ?_;refine cfa 7 ?_;refine cta 19 ?_;exact QR false (Pick.refl _) (by simp [whoHead, *]) (by decide)
   | true =>
     by_cases hw0 : who = 0
     ·refine tr 1 ?_;refine cfa 5 ?_;refine cfa 7 ?_;refine cfa 6 ?_;refine cfa 5 ?_;refine cfa 7 ?_;refine cta 13 ?_;refine Lo 0 sg82 rfl (hat.at_ rfl) ?_;refine cta 4 ?_;exact QR true (Pick.refl _) (by simp [whoHead, *]) (by decide)
     ·refine tr 1 ?_;refine cfa 5 ?_;refine cfa 7 ?_;refine cfa 6 ?_;refine cfa 5 ?_;refine cfa 7 ?_;refine cta 13 ?_;refine Lo 0 sg82 rfl (hat.at_ rfl) ?_;refine cfa 4 ?_;exact QR false (Pick.refl _) (by simp [whoHead, *]) (by decide)
  by_cases e5 : op = 5
  ·cases y with
   | false =>
     refine tr 1 ?_;refine cfa 5 ?_;refine cfa 7 ?_;refine cfa 6 ?_;refine cfa 5 ?_;refine cfa 7 ?_;refine cfa 5 ?_;refine cta 16 ?_;exact QR false (Pick.refl _) (by simp [whoHead, *]) (by decide)
   | true =>
     by_cases hw0 : who = 0
     ·refine tr 1 ?_;refine cfa 5 ?_;refine cfa 7 ?_;refine cfa 6 ?_;refine cfa 5 ?_;refine cfa 7 ?_;refine cfa 5 ?_;refine cta 10 ?_;refine Lo 0 sg82 rfl (hat.at_ rfl) ?_;refine cta 4 ?_;exact QR true (Pick.refl _) (by simp [whoHead, *]) (by decide)
     ·refine tr 1 ?_;refine cfa 5 ?_;refine cfa 7 ?_;refine cfa 6 ?_;refine cfa 5 ?_;refine cfa 7 ?_;refine cfa 5 ?_;refine cta 10 ?_;refine Lo 0 sg82 rfl (hat.at_ rfl) ?_;refine cfa 4 ?_;exact QR false (Pick.refl _) (by simp [whoHead, *]) (by decide)
  by_cases e7 : op = 7
  ·cases y with
   | false =>
     refine tr 1 ?_;refine cfa 5 ?_;refine cfa 7 ?_;refine cfa 6 ?_;refine cfa 5 ?_;refine cfa 7 ?_;refine cfa 5 ?_;refine cfa 6 ?_;refine cta 4 ?_;refine zc (sT [0, 1, 2, 3, 4, 105, 6, 7, 8, 9, 10, 11, 13, 14, 15, 112, 116, 117, 18, 19] .done) mixed (by kernel_rfl) (fun _ _ _ _ hq => hq) ?_;refine vt 20 ?_;refine Vm 1 ?_;exact QR false (Pick.refl _) (by simp [whoHead, *]) (by decide)
   | true =>
     by_cases hw0 : who = 0
     ·have hgu := jI (s := name) (l := ul);cases hu : uOf ul name with
      | none =>
        rw [hu] at hgu;refine tr 1 ?_;refine cfa 5 ?_;refine cfa 7 ?_;refine cfa 6 ?_;refine cfa 5 ?_;refine cfa 7 ?_;refine cfa 5 ?_;refine cfa 6 ?_;refine cta 4 ?_;refine zc (sT [0, 1, 2, 3, 4, 105, 6, 7, 8, 9, 10, 11, 13, 14, 15, 112, 116, 117, 18, 19] .done) mixed (by kernel_rfl) (fun _ _ _ _ hq => hq) ?_;refine vt 5 ?_;refine Vu 0 rfl (zR sg82 rfl (hat.at_ rfl)) ?_
        refine Vt 8 rfl (dt (zz rfl rfl) (by assumption)) ?_;refine Vu 0 rfl (zR sg105 rfl hk0) ?_;refine Vu 0 rfl (zR sg9 rfl (hat.at_ rfl)) ?_;refine Vu 2 rfl (jx hmap ms105 rfl rfl mz105) ?_;refine Vm 1 ?_;rw [hgu];skip;exact QR false (Pick.refl _) (by simp [whoHead, *]) (by decide)
      | some u =>
        rw [hu] at hgu;refine tr 1 ?_;refine cfa 5 ?_;refine cfa 7 ?_;refine cfa 6 ?_;refine cfa 5 ?_;refine cfa 7 ?_;refine cfa 5 ?_;refine cfa 6 ?_;refine cta 4 ?_;refine zc (sT [0, 1, 2, 3, 4, 105, 6, 7, 8, 9, 10, 11, 13, 14, 15, 112, 116, 117, 18, 19] .done) mixed (by kernel_rfl) (fun _ _ _ _ hq => hq) ?_;refine vt 5 ?_;refine Vu 0 rfl (zR sg82 rfl (hat.at_ rfl)) ?_
        refine Vt 8 rfl (dt (zz rfl rfl) (by assumption)) ?_;refine Vu 0 rfl (zR sg105 rfl hk0) ?_;refine Vu 0 rfl (zR sg9 rfl (hat.at_ rfl)) ?_;refine Vu 2 rfl (jx hmap ms105 rfl rfl mz105) ?_;refine Vm 1 ?_;rw [hgu];skip;exact QR u (Pick.refl _) (by simp [whoHead, *]) (by decide)
     ·refine tr 1 ?_;refine cfa 5 ?_;refine cfa 7 ?_;refine cfa 6 ?_;refine cfa 5 ?_;refine cfa 7 ?_;refine cfa 5 ?_;refine cfa 6 ?_;refine cta 4 ?_;refine zc (sT [0, 1, 2, 3, 4, 105, 6, 7, 8, 9, 10, 11, 13, 14, 15, 112, 116, 117, 18, 19] .done) mixed (by kernel_rfl) (fun _ _ _ _ hq => hq) ?_;refine vt 5 ?_;refine Vu 0 rfl (zR sg82 rfl (hat.at_ rfl)) ?_
      refine Vt 13 rfl (df (zz rfl rfl) (by assumption)) ?_;refine Vm 1 ?_;exact QR false (Pick.refl _) (by simp [whoHead, *]) (by decide)
  by_cases e8 : op = 8
  ·cases y with
   | false =>
     refine tr 1 ?_;refine cfa 5 ?_;refine cfa 7 ?_;refine cfa 6 ?_;refine cfa 5 ?_;refine cfa 7 ?_;refine cfa 5 ?_;refine cfa 6 ?_;refine cfa 6 ?_;refine cta 43 ?_;exact QR false (Pick.refl _) (by simp [whoHead, *]) (by decide)
   | true =>
     by_cases hw0 : who = 0
     ·refine tr 1 ?_;refine cfa 5 ?_;refine cfa 7 ?_;refine cfa 6 ?_;refine cfa 5 ?_;refine cfa 7 ?_;refine cfa 5 ?_;refine cfa 6 ?_;refine cfa 6 ?_;refine cta 10 ?_;refine Lo 0 sg82 rfl (hat.at_ rfl) ?_;refine cta 6 ?_;refine zE ((zW cl121 rfl (fun m1 hm1 he => cond33 hc m1 hm1 _ b ul t (hatc.mono hm1) (hck0.mono hm1)) rfl ?_)) rfl;rintro _ _ ⟨rfl, r, rfl, hrr⟩;cases r with
      | false =>
        have hno : ¬ CondOk (uOf ul) t cond := fun h => absurd (hrr.2 h) (by decide);clear hrr;refine vr 24 ?_;exact QR false (Pick.refl _) (by simp [whoHead, *]) (by decide)
      | true =>
        have hyes := hrr.1 rfl;clear hrr;refine vr 6 ?_;refine Lo 1 sg46 rfl (hat.at_ rfl) ?_;refine Pa 0 ?_;refine zE ((zW cl93 rfl (fun m1 hm1 he => ihT m1 TA ca b (d + 1) ul t (hthn.mono hm1) (hck0.mono hm1) (by omega)) rfl ?_)) rfl;rintro _ _ ⟨rfl, r1, rfl, hr1⟩;cases r1 with
        | false =>
          have hno : ¬ ListOk (uOf ul) t (d + 1) thn := fun h => absurd (hr1.2 h) (by decide);clear hr1;refine vr 14 ?_;exact QR false (Pick.refl _) (by simp [whoHead, *]) (by decide)
        | true =>
          have hyes1 := hr1.1 rfl;clear hr1;refine vr 6 ?_;refine Lo 1 sg46 rfl (hat.at_ rfl) ?_;refine Pa 0 ?_;refine zE ((zW cl93 rfl (fun m1 hm1 he => ihE m1 EB cb b (d + 1) ul t (hels.mono hm1) (hck0.mono hm1) (by omega)) rfl ?_)) rfl;rintro _ _ ⟨rfl, r2, rfl, hr2⟩;refine vr 4 ?_;exact QR r2 (Pick.refl _) (by simp [whoHead, *]) (by decide)
     ·refine tr 1 ?_;refine cfa 5 ?_;refine cfa 7 ?_;refine cfa 6 ?_;refine cfa 5 ?_;refine cfa 7 ?_;refine cfa 5 ?_;refine cfa 6 ?_;refine cfa 6 ?_;refine cta 10 ?_;refine Lo 0 sg82 rfl (hat.at_ rfl) ?_;refine cfa 31 ?_;exact QR false (Pick.refl _) (by simp [whoHead, *]) (by decide)
  refine tr 1 ?_;refine cfa 5 ?_;refine cfa 7 ?_;refine cfa 6 ?_;refine cfa 5 ?_;refine cfa 7 ?_;refine cfa 5 ?_;refine cfa 6 ?_;refine cfa 6 ?_;refine cfa 11 ?_;refine zI ?_;refine zH ?_;refine zL ?_;refine zI ?_;refine zH ?_;refine zL ?_
  exact rt1 ⟨rfl, trivial⟩ ⟨rfl, false, rfl, fun h => (by cases h), fun h => absurd h (hfin (by simp [whoHead, *]))⟩
 intro z hz;rw [← hz] at hfin hnext;cases z with
 | false =>
   refine tr 15 ?_;refine zI ?_;refine zH ?_;refine zL ?_;exact rt1 ⟨rfl, trivial⟩ ⟨rfl, false, rfl, fun h => (by cases h), fun h => absurd h (hfin (by decide))⟩
 | true =>
   refine tr 11 ?_;refine Pa 2 ?_;exact QR (i + 1) (Pick.refl _) ⟨hlt, hnext rfl⟩ (by omega)
theorem list16 (l : List EffT) : LC l := ZL fun i h op who n name c a e he => ⟨list16 a, list16 e⟩
termination_by SizeOf.sizeOf l
decreasing_by
 all_goals
  have h1 := List.sizeOf_lt_of_mem (List.getElem_mem h);rw [he] at h1;simp only [EffT.mk.sizeOf_spec] at h1;omega
end
section
open Kd
def partV : PartT → Addr → Value
 | .eff _, a => .iface 201 (.agg [.pointer (some a)].toArray)
 | .num _, a => .iface 223 (.agg [.pointer (some a)].toArray)
 | .cond _, a => .iface 225 (.agg [.pointer (some a)].toArray)
def partC (m : Mp) (cs : List Value) : PartT → Prop
 | .eff x => EffR m cs x
 | .num x => NumR m cs x
 | .cond x => CondR m cs x
def PartR (m : Mp) (v : Value) (p : PartT) : Prop := ∃ a cs, v = partV p a ∧ At m a cs ∧ partC m cs p
theorem partC.mono {m m' : Mp} {cs : List Value} {p : PartT} (h : partC m cs p) (hl : Le m m') : partC m' cs p := by
 cases p with
 | eff x => exact EffR.mono h hl
 | num x => exact NumR.mono h hl
 | cond x => exact CondR.mono h hl
theorem PartR.mono {m m' : Mp} {v : Value} {p : PartT} (h : PartR m v p) (hl : Le m m') : PartR m' v p := let ⟨a, cs, e, h1, h2⟩ := h; ⟨a, cs, e, h1.mono hl, h2.mono hl⟩
theorem PartR.num {m : Mp} {a : Addr} {cs : List Value} {x : NumT} (h : At m a cs) (hx : NumR m cs x) : PartR m (.iface 223 (.agg [.pointer (some a)].toArray)) (.num x) := ⟨a, cs, rfl, h, hx⟩
theorem PartR.cond {m : Mp} {a : Addr} {cs : List Value} {x : CondT} (h : At m a cs) (hx : CondR m cs x) : PartR m (.iface 225 (.agg [.pointer (some a)].toArray)) (.cond x) := ⟨a, cs, rfl, h, hx⟩
theorem PartR.eff {m : Mp} {a : Addr} {cs : List Value} {x : EffT} (h : At m a cs) (hx : EffR m cs x) : PartR m (.iface 201 (.agg [.pointer (some a)].toArray)) (.eff x) := ⟨a, cs, rfl, h, hx⟩
def PartsR (m : Mp) (vs : List Value) (ps : List PartT) : Prop := vs.length = ps.length ∧ ∀ (i : Nat) (w : Value) (q : PartT), vs[i]? = some w → ps[i]? = some q → PartR m w q
theorem PartsR.nil {m : Mp} : PartsR m [] [] := ⟨rfl, fun i w q h => by simp at h⟩
theorem PartsR.snoc {m : Mp} {vs : List Value} {ps : List PartT} {w : Value} {q : PartT} (h : PartsR m vs ps) (hw : PartR m w q) : PartsR m (vs ++ [w]) (ps ++ [q]) := by
 refine ⟨by simp [h.1], fun i w' q' h1 h2 => ?_⟩;by_cases hi : i < vs.length
 ·rw [List.getElem?_append_left hi] at h1;rw [List.getElem?_append_left (by rw [← h.1]; exact hi)] at h2;exact h.2 i w' q' h1 h2
 ·rw [List.getElem?_append_right (by omega)] at h1;rw [List.getElem?_append_right (by rw [← h.1]; omega), ← h.1] at h2;cases hj : i - vs.length with
  | zero =>
    rw [hj] at h1 h2
    simp at h1 h2
    subst h1 h2;exact hw
  | succ j =>
    rw [hj] at h1
    simp at h1
def preK (c : CondT) (t e : List EffT) : Nat → List PartT
 | 0 => [.cond c]
 | 1 => [.cond c] ++ t.map .eff
 | _ => ([.cond c] ++ t.map .eff) ++ e.map .eff
theorem WC {p : PartT} {l : List PartT} (h : Flat p l) : 1 ≤ l.length := by cases h; simp
theorem ZV {ls : List (List PartT)} (h : ∀ l ∈ ls, 1 ≤ l.length) : ls.length ≤ ls.flatten.length ∧ ∀ l ∈ ls, l.length ≤ ls.flatten.length := by
 induction ls with
 | nil => exact ⟨Nat.le_refl _, fun l h => by cases h⟩
 | cons x r ih =>
   obtain ⟨h1, h2⟩ := ih fun l hl => h l (List.mem_cons_of_mem _ hl);have h3 := h x List.mem_cons_self;refine ⟨by simp only [List.length_cons, List.flatten_cons, List.length_append]; omega, fun l hl => ?_⟩;simp only [List.flatten_cons, List.length_append];rcases List.mem_cons.1 hl with rfl | hl
   ·omega
   ·have := h2 l hl; omega
theorem u6 {ps : List PartT} {ls : List (List PartT)} (hl : ls.length = ps.length) (hk : ∀ (i : Nat) (h : i < ps.length), Flat ps[i] (ls[i]'(by omega))) : ps.length ≤ ls.flatten.length ∧ ∀ (i : Nat) (h : i < ls.length), ls[i].length ≤ ls.flatten.length := by
 have h0 : ∀ l ∈ ls, 1 ≤ l.length := fun l hm => by
  obtain ⟨i, hi, rfl⟩ := List.getElem_of_mem hm;exact WC (hk i (by omega))
 obtain ⟨h1, h2⟩ := ZV h0;exact ⟨by omega, fun i h => h2 _ (List.getElem_mem h)⟩
theorem snocL (vs : List Value) (w : Value) : vs.length + 1 = (vs ++ [w]).length := by simp
theorem wW {α : Type} {g : α → PartT} {l : List α} {i : Nat} (h : i < l.length) : (l.take (i + 1)).map g = (l.take i).map g ++ [g l[i]] := by
 rw [List.take_add_one, List.getElem?_eq_getElem h, Option.toList_some, List.map_append]
 rfl
theorem each_ok {σ : Type} {g : Nat} {q : List Value} {E : σ → Ent} {f : PartT → σ → σ × Bool} {I : σ → Prop} {m : Mp} (hI : ∀ p s, I s → (f p s).2 = true → I (f p s).1) (hcl : callable Tryz.prog g = true)
  (hsee : ∀ m', Le m m' → ∀ v p s, I s → PartR m' v p → CS Tryz.prog g (([] ++ [v]) ++ q) m' [E s] (fun v' L' => v' = .bool (f p s).2 ∧ L' = [E (f p s).1])) {p : PartT} {l : List PartT} (hF : Flat p l) : l.length ≤ 4000 →
  ∀ m', Le m m' → ∀ v, PartR m' v p → ∀ s, I s → CS Tryz.prog 144 [v, .func (.func g) #[] q.toArray] m' [E s] (fun v' L' => v' = .bool (goL f l s).2 ∧ L' = [E (goL f l s).1]) := by
 induction hF with
 | @mk p ls hl hk ih =>
 intro hlen m' hm' v hv s hs;obtain ⟨hkn, hkm⟩ := u6 hl hk;simp only [List.length_cons] at hlen;refine zl [.tmp 4] Tryz.func144 rfl rfl rfl ?_;refine tr 10 ?_;refine zE ((wo (p := []) (q := q) hcl rfl rfl .k0 (fun m1 hm he => hsee m1 (hm'.trans hm) v p s hs (hv.mono hm)) rfl ?_)) rfl;rintro _ _ ⟨rfl, rfl⟩
 have hgo : goL f (p :: ls.flatten) s = if (f p s).2 then goL f ls.flatten (f p s).1 else ((f p s).1, false) := rfl
 cases hfp : (f p s).2 with
 | false =>
   refine vr 11 ?_;exact zb [_] ⟨rfl, trivial⟩ [_] .p0 ⟨by rw [hgo, hfp]; rfl, by rw [hgo, hfp]; rfl⟩
 | true =>
   rw [hfp, if_pos rfl] at hgo;rw [hgo];have hs1 := hI p s hs hfp;generalize (f p s).1 = s1 at hs1 ⊢;clear hgo hfp;refine XK 169 1 ?_;refine vr 13 ?_;refine vA (α := Option Addr × Nat × List Value) (fun y => [(1, .func (.func g) #[] q.toArray), (5, .slice y.1 y.2.2.length y.2.1)]) (fun y => [own 169 1 y.1 y.2.2.length y.2.1 y.2.2, E s1]) (fun y => PartsR m' y.2.2 (kidsP p)) ?_ ?_
   ·obtain ⟨a, cs, rfl, hat, hp⟩ := hv;cases p with
    | eff x =>
      obtain ⟨op, who, nop, nn, nwho, nA, nlen, nc, name, cop, cwho, cname, cA, cla, cca, cB, clb, ccb, A, la, ca, B, lb, cb, n, cond, thn, els, rfl, rfl, ho, hn, hc, ht, he⟩ := EffR.parts hp;clear hk ih hl hp hkm;unfold partV;refine tr 7 ?_;refine pe 7 (wR ni201 us201 rfl) ?_;refine Al 0 zl201 fun b1 => ?_;refine Sg 6 ag201 .here ?_;refine Lb 2 sg171 .here ?_
      refine Lo 0 sg82 rfl (hat.at_ rfl) ?_;refine Cr cl118 rfl (fun m' hm he => (counts30 op)) ?_;rintro _ rfl;cases hcb : countsB op with
      | true =>
        have h8 : ¬ op = 8 := fun e => by subst e; exact absurd hcb (by decide)
        refine vr 6 ?_;refine Lb 2 sg171 .here ?_;refine pe 0 (zT zl223 pl223 rfl rfl) ?_;refine pe 0 (yj ni223 us223 rfl) ?_;refine Bs 0 sl221 fun b2 => ?_;refine zE (zx sl221 rfl rfl rfl rfl .here (fun _ _ => .h2) rfl rfl (by first | omega | (simp only [maxLen]; omega)) (by omega) rfl (fun A1 c1 => ?_)) rfl;refine vr 6 ?_;refine Lb 2 sg171 .h1 ?_
        refine Lo 0 sg82 rfl (hat.at_ rfl) ?_;refine cfa 5 ?_;refine QR (A1, c1, [_]) (.cons .h2 .p2) ?_ (by decide);simp only [kidsP];rw [hcb, if_pos rfl, if_neg h8];exact PartsR.nil.snoc (.num (hat.sub 2 4) hn)
      | false =>
        by_cases h8 : op = 8
        ·obtain ⟨ht1, ht2, tvs, ht3, ht4, ht5⟩ := ht;obtain ⟨he1, he2, evs, he3, he4, he5⟩ := he;subst ht1 he1
         have hkl : thn.length + els.length ≤ 4000 := by
          simp only [kidsP] at hkn;rw [hcb, if_pos h8] at hkn;simp only [Bool.false_eq_true, if_false, List.nil_append, List.length_cons, List.length_append, List.length_map] at hkn;omega
         clear hkn;refine vr 8 ?_;refine Lb 2 sg171 .here ?_;refine Lo 0 sg82 rfl (hat.at_ rfl) ?_;refine cta 7 ?_;refine Lb 2 sg171 .here ?_;refine pe 0 (zT zl225 pl225 rfl rfl) ?_;refine pe 0 (yj ni225 us225 rfl) ?_;refine Bs 0 sl221 fun b2 => ?_
         refine zE (zx sl221 rfl rfl rfl rfl .here (fun _ _ => .h2) rfl rfl (by first | omega | (simp only [maxLen]; omega)) (by omega) rfl (fun A1 c1 => ?_)) rfl;refine vr 4 ?_;refine zc (sT [0, 5, 11, 101, 2, 3, 104, 106, 7, 8, 109, 10] .done) mixed (by kernel_rfl) (fun _ _ _ _ hq => hq) ?_;refine vt 3 ?_;refine Vl 2 rfl sg171 .h1 ?_
         refine Vu 0 rfl (zR sg46 rfl (hat.at_ rfl)) ?_;refine Vl 2 rfl sg171 .h1 ?_;refine Vu 0 rfl (zR sg46 rfl (hat.at_ rfl)) ?_;refine Vt 0 rfl (yr ar226 zl226 rfl rfl) ?_;refine Vm 2 ?_
         refine wl (β := List Value) (fun k A' c' vals => [(1, .func (.func g) #[] q.toArray), (5, .slice A' vals.length c'), (65, .agg [.slice A thn.length ca, .slice B els.length cb].toArray), (66, .int .i64 (k : Nat))]) (fun k A' c' vals => [own 169 1 A' vals.length c' vals, E s1]) (fun k vals => k ≤ 2 ∧ PartsR m' vals (preK cond thn els k)) (fun k => 2 - k) 0 A1 c1 _ ⟨rfl, rfl, rfl, rfl, trivial⟩ (.cons .h2 .p2) ⟨by decide, PartsR.nil.snoc (.cond (hat.sub 7 5) hc)⟩ ?_
         rintro k A' c' vals ⟨hk2, hvk⟩
         try dsimp only at hvk
         try dsimp only
         match k, hk2, hvk with
         | 0, _, hvk =>
           refine tr 2 ?_;refine cto 10 ?_;refine pe 11 (ya ar226 ars226 rfl rfl (by omega) (by omega) rfl) ?_
           refine wl (β := List Value) (fun j A' c' vals => [(1, .func (.func g) #[] q.toArray), (5, .slice A' vals.length c'), (65, .agg [.slice A thn.length ca, .slice B els.length cb].toArray), (66, .int .i64 0), (8, .slice A thn.length ca), (70, .int .i64 (thn.length : Nat)), (71, .int .i64 (j : Nat))]) (fun j A' c' vals => [own 169 1 A' vals.length c' vals, E s1]) (fun j vals => j ≤ thn.length ∧ PartsR m' vals ([.cond cond] ++ (thn.take j).map .eff)) (fun j => thn.length - j) 0 A' c' vals ⟨rfl, rfl, rfl, rfl, rfl, rfl, rfl, trivial⟩ (Pick.refl _) ⟨Nat.zero_le _, by rw [List.take_zero, List.map_nil, List.append_nil]; exact hvk⟩ ?_
           rintro j A' c' vals ⟨hj, hvj⟩
           try dsimp only at hvj
           try dsimp only
           have hvl : vals.length ≤ 4001 := by
            rw [hvj.1];simp only [preK, List.length_append, List.length_cons, List.length_map, List.length_take, List.length_nil];omega
           by_cases hlt : j < thn.length
           ·have hA : A.isSome = true := ht3.isSome (by omega);have hel := ht3.elem (j * 14) 14;have hpe := PartR.eff hel (ht5 j hlt);refine tr 2 ?_;refine cto 18 ?_;refine pe 0 (zC ez46 rfl rfl hA (by omega)) ?_;refine pe 0 (zT zl201 pl201 rfl rfl) ?_;refine pe 0 (yj ni201 us201 rfl) ?_;refine Bs 0 sl221 fun b3 => ?_
            refine zE (zx sl221 rfl rfl rfl rfl .here (fun _ _ => .h1) rfl rfl (by first | omega | (simp only [maxLen]; omega)) (by omega) rfl (fun A2 c2 => ?_)) rfl;refine vr 5 ?_;refine Pa 2 ?_;rw [snocL];refine xh (Le.refl _) (j + 1) A2 c2 _ ⟨rfl, rfl, rfl, rfl, rfl, rfl, rfl, trivial⟩ (.cons .h1 .p1) ⟨hlt, ?_⟩ (by omega);rw [wW hlt, ← List.append_assoc]
            exact hvj.snoc hpe
           ·have hje : j = thn.length := by omega
            subst hje;refine tr 2 ?_;refine cfo 6 ?_;refine yh ?_;refine zF ?_;refine y8 ?_;refine qt 2 ?_;refine Pa 2 ?_;refine xh (Le.refl _) 1 A' c' vals ⟨rfl, rfl, rfl, rfl, trivial⟩ (Pick.refl _) ⟨by decide, ?_⟩ (by omega);rw [List.take_length] at hvj;exact hvj
         | 1, _, hvk =>
           refine tr 2 ?_;refine cto 10 ?_;refine pe 11 (ya ar226 ars226 rfl rfl (by omega) (by omega) rfl) ?_
           refine wl (β := List Value) (fun j A' c' vals => [(1, .func (.func g) #[] q.toArray), (5, .slice A' vals.length c'), (65, .agg [.slice A thn.length ca, .slice B els.length cb].toArray), (66, .int .i64 1), (8, .slice B els.length cb), (70, .int .i64 (els.length : Nat)), (71, .int .i64 (j : Nat))]) (fun j A' c' vals => [own 169 1 A' vals.length c' vals, E s1]) (fun j vals => j ≤ els.length ∧ PartsR m' vals (preK cond thn els 1 ++ (els.take j).map .eff)) (fun j => els.length - j) 0 A' c' vals ⟨rfl, rfl, rfl, rfl, rfl, rfl, rfl, trivial⟩ (Pick.refl _) ⟨Nat.zero_le _, by rw [List.take_zero, List.map_nil, List.append_nil]; exact hvk⟩ ?_
           rintro j A' c' vals ⟨hj, hvj⟩
           try dsimp only at hvj
           try dsimp only
           have hvl : vals.length ≤ 4001 := by
            rw [hvj.1];simp only [preK, List.length_append, List.length_cons, List.length_map, List.length_take, List.length_nil];omega
           by_cases hlt : j < els.length
           ·have hA : B.isSome = true := he3.isSome (by omega);have hel := he3.elem (j * 14) 14;have hpe := PartR.eff hel (he5 j hlt);refine tr 2 ?_;refine cto 18 ?_;refine pe 0 (zC ez46 rfl rfl hA (by omega)) ?_;refine pe 0 (zT zl201 pl201 rfl rfl) ?_;refine pe 0 (yj ni201 us201 rfl) ?_;refine Bs 0 sl221 fun b3 => ?_
            refine zE (zx sl221 rfl rfl rfl rfl .here (fun _ _ => .h1) rfl rfl (by first | omega | (simp only [maxLen]; omega)) (by omega) rfl (fun A2 c2 => ?_)) rfl;refine vr 5 ?_;refine Pa 2 ?_;rw [snocL];refine xh (Le.refl _) (j + 1) A2 c2 _ ⟨rfl, rfl, rfl, rfl, rfl, rfl, rfl, trivial⟩ (.cons .h1 .p1) ⟨hlt, ?_⟩ (by omega);rw [wW hlt, ← List.append_assoc]
            exact hvj.snoc hpe
           ·have hje : j = els.length := by omega
            subst hje;refine tr 2 ?_;refine cfo 6 ?_;refine yh ?_;refine zF ?_;refine y8 ?_;refine qt 2 ?_;refine Pa 2 ?_;refine xh (Le.refl _) 2 A' c' vals ⟨rfl, rfl, rfl, rfl, trivial⟩ (Pick.refl _) ⟨by decide, ?_⟩ (by omega);rw [List.take_length] at hvj;exact hvj
         | 2, _, hvk =>
           refine tr 2 ?_;refine cfo 6 ?_;refine yh ?_;refine zF ?_;refine y8 ?_;refine QR (A', c', vals) (Pick.refl _) ?_ (by decide);simp only [kidsP];rw [hcb, if_pos h8];exact hvk
        ·refine vr 8 ?_;refine Lb 2 sg171 .here ?_;refine Lo 0 sg82 rfl (hat.at_ rfl) ?_;refine cfa 5 ?_;refine QR (none, 0, []) (.cons .h1 .p1) ?_ (by decide);simp only [kidsP];rw [hcb, if_neg h8];exact PartsR.nil
    | num x =>
      cases hp with
      | @mk op n who kids A len c vs ho hln hm hr hv hkk =>
      subst hln
      have hkl : kids.length ≤ 4000 := by
       simp only [kidsP, List.length_map] at hkn;omega
      clear hk ih hl hkm hkn;unfold partV;refine tr 7 ?_;refine pe 7 (uQ ni201 us201 rfl rfl Tryz.zeroValue201) ?_;refine pe 7 (wR ni223 us223 rfl) ?_;refine Al 0 zl223 fun b1 => ?_;refine Sg 5 ag223 .here ?_;refine Lb 2 sg174 .here ?_;refine Lo 5 sg83 rfl (hat.at_ rfl) ?_
      refine wl (β := List Value) (fun j A' c' vals => [(1, .func (.func g) #[] q.toArray), (5, .slice A' vals.length c'), (10, .pointer (some ⟨b1, 0, none⟩)), (92, .int .i64 (kids.length : Nat)), (93, .int .i64 (j : Nat))]) (fun j A' c' vals => [own 169 1 A' vals.length c' vals, cel b1 [.pointer (some a)] 223, E s1]) (fun j vals => j ≤ kids.length ∧ PartsR m' vals ((kids.take j).map .num)) (fun j => kids.length - j) 0 none 0 [] ⟨rfl, rfl, rfl, rfl, rfl, trivial⟩ (.cons .h1 .pp) ⟨Nat.zero_le _, PartsR.nil⟩ ?_
      rintro j A' c' vals ⟨hj, hvj⟩
      try dsimp only at hvj
      try dsimp only
      have hvl : vals.length ≤ 4001 := by
       rw [hvj.1];simp only [List.length_append, List.length_cons, List.length_map, List.length_take, List.length_nil];omega
      by_cases hlt : j < kids.length
      ·have hA : A.isSome = true := hr.isSome (by omega);have hel := hr.elem (j * 4) 4;have hpe := PartR.num hel (hkk j hlt);refine tr 2 ?_;refine cto 17 ?_;refine Lb 2 sg174 .h1 ?_;refine Lo 1 sg83 rfl (hat.at_ rfl) ?_;refine pe 0 (zC ez83 rfl rfl hA (by omega)) ?_;refine pe 0 (zT zl223 pl223 rfl rfl) ?_;refine pe 0 (yj ni223 us223 rfl) ?_;refine Bs 0 sl221 fun b2 => ?_
       refine zE (zx sl221 rfl rfl rfl rfl .here (fun _ _ => .h1) rfl rfl (by first | omega | (simp only [maxLen]; omega)) (by omega) rfl (fun A1 c1 => ?_)) rfl;refine vr 5 ?_;refine Pa 2 ?_;rw [snocL];refine xh (Le.refl _) (j + 1) A1 c1 _ ⟨rfl, rfl, rfl, rfl, rfl, trivial⟩ (.cons .h1 (.cons .h1 .p1)) ⟨hlt, ?_⟩ (by omega);rw [wW hlt];exact hvj.snoc hpe
      ·have hje : j = kids.length := by omega
       subst hje;rw [List.take_length] at hvj;refine tr 2 ?_;refine cfo 6 ?_;refine yh ?_;refine zF ?_;refine y8 ?_;refine QR (A', c', vals) (.cons .here .p1) ?_ (by decide);simp only [kidsP];exact hvj
    | cond x =>
      cases hp with
      | @mk op who name nums kids A B la ca lb cb vs us ho hw hn hla hma hra hva hka hlb hmb hrb hvb hkb =>
      subst hla hlb
      have hkl : nums.length + kids.length ≤ 4000 := by
       simp only [kidsP, List.length_map, List.length_append] at hkn;omega
      clear hk ih hl hkm hkn;unfold partV;refine tr 7 ?_;refine pe 7 (uQ ni201 us201 rfl rfl Tryz.zeroValue201) ?_;refine pe 7 (uQ ni223 us223 rfl rfl Tryz.zeroValue223) ?_;refine pe 7 (wR ni225 us225 rfl) ?_;refine Al 0 zl225 fun b1 => ?_;refine Sg 6 ag225 .here ?_;refine Lb 2 sg176 .here ?_;refine Lo 5 sg83 rfl (hat.at_ rfl) ?_
      refine wl (β := List Value) (fun j A' c' vals => [(1, .func (.func g) #[] q.toArray), (5, .slice A' vals.length c'), (12, .pointer (some ⟨b1, 0, none⟩)), (117, .int .i64 (nums.length : Nat)), (118, .int .i64 (j : Nat))]) (fun j A' c' vals => [own 169 1 A' vals.length c' vals, cel b1 [.pointer (some a)] 225, E s1]) (fun j vals => j ≤ nums.length ∧ PartsR m' vals ((nums.take j).map .num)) (fun j => nums.length - j) 0 none 0 [] ⟨rfl, rfl, rfl, rfl, rfl, trivial⟩ (.cons .h1 .pp) ⟨Nat.zero_le _, PartsR.nil⟩ ?_
      rintro j A' c' vals ⟨hj, hvj⟩
      try dsimp only at hvj
      try dsimp only
      have hvl : vals.length ≤ 4001 := by
       rw [hvj.1];simp only [List.length_append, List.length_cons, List.length_map, List.length_take, List.length_nil];omega
      by_cases hlt : j < nums.length
      ·have hA : A.isSome = true := hra.isSome (by omega);have hel := hra.elem (j * 4) 4;have hpe := PartR.num hel (hka j hlt);refine tr 2 ?_;refine cto 17 ?_;refine Lb 2 sg176 .h1 ?_;refine Lo 1 sg83 rfl (hat.at_ rfl) ?_;refine pe 0 (zC ez83 rfl rfl hA (by omega)) ?_;refine pe 0 (zT zl223 pl223 rfl rfl) ?_;refine pe 0 (yj ni223 us223 rfl) ?_;refine Bs 0 sl221 fun b2 => ?_
       refine zE (zx sl221 rfl rfl rfl rfl .here (fun _ _ => .h1) rfl rfl (by first | omega | (simp only [maxLen]; omega)) (by omega) rfl (fun A1 c1 => ?_)) rfl;refine vr 5 ?_;refine Pa 2 ?_;rw [snocL];refine xh (Le.refl _) (j + 1) A1 c1 _ ⟨rfl, rfl, rfl, rfl, rfl, trivial⟩ (.cons .h1 (.cons .h1 .p1)) ⟨hlt, ?_⟩ (by omega);rw [wW hlt];exact hvj.snoc hpe
      ·have hje : j = nums.length := by omega
       subst hje;rw [List.take_length] at hvj;refine tr 2 ?_;refine cfo 6 ?_;refine yh ?_;refine zF ?_;refine qt 4 ?_;refine Lb 2 sg176 .h1 ?_;refine Lo 5 sg86 rfl (hat.at_ rfl) ?_
       refine wl (β := List Value) (fun j A' c' vals => [(1, .func (.func g) #[] q.toArray), (5, .slice A' vals.length c'), (12, .pointer (some ⟨b1, 0, none⟩)), (139, .int .i64 (kids.length : Nat)), (140, .int .i64 (j : Nat))]) (fun j A' c' vals => [own 169 1 A' vals.length c' vals, cel b1 [.pointer (some a)] 225, E s1]) (fun j vals => j ≤ kids.length ∧ PartsR m' vals (nums.map .num ++ (kids.take j).map .cond)) (fun j => kids.length - j) 0 A' c' vals ⟨rfl, rfl, rfl, rfl, rfl, trivial⟩ (Pick.refl _) ⟨Nat.zero_le _, by rw [List.take_zero, List.map_nil, List.append_nil]; exact hvj⟩ ?_
       rintro j A' c' vals ⟨hj, hvj⟩
       try dsimp only at hvj
       try dsimp only
       have hvl : vals.length ≤ 4001 := by
        rw [hvj.1];simp only [List.length_append, List.length_cons, List.length_map, List.length_take, List.length_nil];omega
       by_cases hlt : j < kids.length
       ·have hA : B.isSome = true := hrb.isSome (by omega);have hel := hrb.elem (j * 5) 5;have hpe := PartR.cond hel (hkb j hlt);refine tr 2 ?_;refine cto 17 ?_;refine Lb 2 sg176 .h1 ?_;refine Lo 1 sg86 rfl (hat.at_ rfl) ?_;refine pe 0 (zC ez86 rfl rfl hA (by omega)) ?_;refine pe 0 (zT zl225 pl225 rfl rfl) ?_;refine pe 0 (yj ni225 us225 rfl) ?_;refine Bs 0 sl221 fun b2 => ?_
        refine zE (zx sl221 rfl rfl rfl rfl .here (fun _ _ => .h1) rfl rfl (by first | omega | (simp only [maxLen]; omega)) (by omega) rfl (fun A1 c1 => ?_)) rfl;refine vr 5 ?_;refine Pa 2 ?_;rw [snocL];refine xh (Le.refl _) (j + 1) A1 c1 _ ⟨rfl, rfl, rfl, rfl, rfl, trivial⟩ (.cons .h1 (.cons .h1 .p1)) ⟨hlt, ?_⟩ (by omega);rw [wW hlt, ← List.append_assoc];exact hvj.snoc hpe
       ·have hje : j = kids.length := by omega
        subst hje;rw [List.take_length] at hvj;refine tr 2 ?_;refine cfo 6 ?_;refine yh ?_;refine zF ?_;refine y8 ?_;refine QR (A', c', vals) (.cons .here .p1) ?_ (by decide);simp only [kidsP];exact hvj
   rintro ⟨A, c, vs⟩ hvs
   try dsimp only at hvs
   try dsimp only
   have hvl : vs.length = ls.length := by rw [hvs.1, hl]
   refine tr 9 ?_
   refine zZ (α := Nat × σ) (fun y => [(1, .func (.func g) #[] q.toArray), (156, .slice A vs.length c), (157, .int .i64 (vs.length : Nat)), (158, .int .i64 (y.1 : Nat))]) (fun y => [own 169 1 A vs.length c vs, E y.2]) (fun y => y.1 ≤ vs.length ∧ goL f (ls.take y.1).flatten s1 = (y.2, true)) (fun y => vs.length - y.1) (0, s1) ⟨rfl, rfl, rfl, rfl, trivial⟩ (Pick.refl _) ⟨Nat.zero_le _, rfl⟩ ?_
   rintro ⟨i, s2⟩ ⟨hi, hgi⟩;dsimp only at hi hgi ⊢;by_cases hlt : i < vs.length
   ·obtain ⟨w, hw⟩ : ∃ w, vs[i]? = some w := ⟨_, List.getElem?_eq_getElem hlt⟩;have hpw := hvs.2 i w ((kidsP p)[i]'(by omega)) hw (List.getElem?_eq_getElem (by omega));have hgn := uj (f := f) (ls := ls) (i := i) (by omega) s1 (by rw [hgi]);rw [hgi] at hgn;dsimp only at hgn
    have hc := fun m1 (hm : Le m' m1) => ih i (by omega) (by have := hkm i (by omega); omega) m1 (hm'.trans hm) w (hpw.mono hm) s2 (by have := uk hI (l := (ls.take i).flatten) hs1 (by rw [hgi]); rw [hgi] at this; exact this);generalize hgq : goL f (ls[i]'(by omega)) s2 = gq at hgn hc;obtain ⟨s3, b3⟩ := gq;dsimp only at hc;refine TS_fact (Z0 (A := A) .here (by omega)) (fun hA => ?_)
    refine tr 2 ?_;refine cto 10 ?_;refine pe 0 (zm ez221 rfl rfl hA (by omega)) ?_;refine lr 7 (S_loadO sg169 rfl .here hw) ?_;refine C1 cl144 rfl .h1 (fun m1 hm he => hc m1 hm) ?_;rintro _ _ ⟨rfl, rfl⟩;cases b3 with
    | true =>
      refine vr 8 ?_;refine Pa 2 ?_;exact QR (i + 1, s3) (.cons .h1 .p0) ⟨hlt, hgn⟩ (by dsimp only; omega)
    | false =>
      have hst := ui (f := f) (ls := ls) (i := i + 1) s1 (by rw [hgn]);rw [hgn] at hst;refine vr 12 ?_;refine zI ?_;refine zH ?_;refine zL ?_;exact zb [_] ⟨rfl, trivial⟩ [_] .p0 ⟨by simp only [hst]; rfl, by simp only [hst]⟩
   ·have hie : i = vs.length := by omega
    subst hie;rw [List.take_of_length_le (by omega)] at hgi;refine tr 2 ?_;refine cfo 6 ?_;refine zG ?_;refine zF ?_;refine qt 7 ?_;exact zb [_] ⟨rfl, trivial⟩ [_] .p1 ⟨by simp only [hgi]; rfl, by simp only [hgi]⟩
end
section
open Kd
def kidsC (x : CardT) : List PartT := x.played.map .eff ++ x.dead.map .eff ++ x.dawn.map .eff
theorem wd (x : CardT) : (kidsC x).length = x.played.length + x.dead.length + x.dawn.length := by simp [kidsC]; omega
theorem kidsC0 {x : CardT} {j : Nat} (h : j < x.played.length) : (kidsC x)[0 + j]'(by rw [wd]; omega) = .eff x.played[j] := by
 simp only [kidsC, Nat.zero_add];rw [List.getElem_append_left (by simp; omega), List.getElem_append_left (by simp; omega), List.getElem_map]
theorem kidsC1 {x : CardT} {j : Nat} (h : j < x.dead.length) : (kidsC x)[x.played.length + j]'(by rw [wd]; omega) = .eff x.dead[j] := by
 simp only [kidsC];rw [List.getElem_append_left (by simp; omega), List.getElem_append_right (by simp), List.getElem_map]
 simp
theorem kidsC2 {x : CardT} {j : Nat} (h : j < x.dawn.length) : (kidsC x)[x.played.length + x.dead.length + j]'(by rw [wd]; omega) = .eff x.dawn[j] := by
 simp only [kidsC];rw [List.getElem_append_right (by simp), List.getElem_map]
 simp
def offC (x : CardT) : Nat → Nat
 | 0 => 0
 | 1 => x.played.length
 | 2 => x.played.length + x.dead.length
 | _ => x.played.length + x.dead.length + x.dawn.length
theorem all_ok {σ : Type} {g : Nat} {q : List Value} {E : σ → Ent} {f : PartT → σ → σ × Bool} {I : σ → Prop} {m : Mp} (hI : ∀ p s, I s → (f p s).2 = true → I (f p s).1) (hcl : callable Tryz.prog g = true)
  (hsee : ∀ m', Le m m' → ∀ v p s, I s → PartR m' v p → CS Tryz.prog g (([] ++ [v]) ++ q) m' [E s] (fun v' L' => v' = .bool (f p s).2 ∧ L' = [E (f p s).1])) {x : CardT} {l : List PartT} (hF : FlatL (kidsC x) l) (hlen : l.length ≤ 3999)
  {a : Addr} {cs : List Value} (hat : At m a cs) (hx : CardR m cs x) (s : σ) (hs : I s) : CS Tryz.prog 115 [.pointer (some a), .func (.func g) #[] q.toArray] m [E s] (fun v' L' => v' = U0 ∧ L' = [E (goL f l s).1]) := by
 obtain ⟨ls, hl, hk, rfl⟩ := hF;obtain ⟨hkn, hkm⟩ := u6 hl hk;have hE := fun i (h : i < ls.length) => each_ok hI hcl hsee (hk i (by omega)) (by have := hkm i h; omega);obtain ⟨A, la, ca, B, lb, cb, D, ld, cd, rfl, _, hp, hd, hw, _⟩ := hx;obtain ⟨rfl, hp2, pvs, hp3, hp4, hp5⟩ := hp;obtain ⟨rfl, hd2, dvs, hd3, hd4, hd5⟩ := hd;obtain ⟨rfl, hw2, wvs, hw3, hw4, hw5⟩ := hw;have hkl := wd x
 clear hsee hcl hk hkm;refine zl [] Tryz.func115 rfl rfl rfl ?_;refine tr 1 ?_;refine zc (sT [0, 1, 2, 4, 5, 6, 8, 9, 10, 13, 103, 107, 111, 12] .done) mixed (by kernel_rfl) (fun _ _ _ _ hq => hq) ?_;refine vt 10 ?_
 iterate 3 (refine Vu 0 rfl (zR sg46 rfl (hat.at_ rfl)) ?_)
 refine Vt 0 rfl (yr ar198 zl198 rfl rfl) ?_;refine Vm 2 ?_
 refine zZ (α := Nat × σ) (fun y => [(1, .func (.func g) #[] q.toArray), (19, .agg [.slice A x.played.length ca, .slice B x.dead.length cb, .slice D x.dawn.length cd].toArray), (20, .int .i64 (y.1 : Nat))]) (fun y => [E y.2]) (fun y => y.1 ≤ 3 ∧ goL f (ls.take (offC x y.1)).flatten s = (y.2, true)) (fun y => 3 - y.1) (0, s) ⟨rfl, rfl, rfl, trivial⟩ (Pick.refl _) ⟨by dsimp only; omega, rfl⟩ ?_
 rintro ⟨k, s2⟩ ⟨hk3, hg2⟩;dsimp only at hk3 hg2 ⊢
 match k, hk3, hg2 with
 | 0, _, hg2 =>
   have hg2' : goL f (ls.take (0 + 0)).flatten s = (s2, true) := hg2;refine tr 2 ?_;refine cto 10 ?_;refine pe 11 (ya ar198 ars198 rfl rfl (by omega) (by omega) rfl) ?_
   refine zZ (α := Nat × σ) (fun y => [(1, .func (.func g) #[] q.toArray), (19, .agg [.slice A x.played.length ca, .slice B x.dead.length cb, .slice D x.dawn.length cd].toArray), (20, .int .i64 0), (5, .slice A x.played.length ca), (24, .int .i64 (x.played.length : Nat)), (25, .int .i64 (y.1 : Nat))]) (fun y => [E y.2]) (fun y => y.1 ≤ x.played.length ∧ goL f (ls.take (0 + y.1)).flatten s = (y.2, true)) (fun y => x.played.length - y.1) (0, s2) ⟨rfl, rfl, rfl, rfl, rfl, rfl, trivial⟩ (Pick.refl _) ⟨Nat.zero_le _, hg2'⟩ ?_
   rintro ⟨j, s3⟩ ⟨hj, hg3⟩;dsimp only at hj hg3 ⊢;by_cases hlt : j < x.played.length
   ·have hA : A.isSome = true := hp3.isSome (by omega);have hpe := PartR.eff (hp3.elem (j * 14) 14) (hp5 j hlt);rw [← kidsC0 hlt] at hpe;have hgn := uj (f := f) (ls := ls) (i := 0 + j) (by omega) s (by rw [hg3]);rw [hg3] at hgn;dsimp only at hgn
    have hc := fun m1 (hm : Le m m1) => hE (0 + j) (by omega) m1 hm _ (hpe.mono hm) s3 (by have := uk hI (l := (ls.take (0 + j)).flatten) hs (by rw [hg3]); rw [hg3] at this; exact this);generalize hgq : goL f (ls[0 + j]'(by omega)) s3 = gq at hgn hc;obtain ⟨s4, b4⟩ := gq;dsimp only at hc;refine tr 2 ?_;refine cto 18 ?_;refine pe 0 (zC ez46 rfl rfl hA (by omega)) ?_
    refine pe 0 (zT zl201 pl201 rfl rfl) ?_;refine pe 1 (yj ni201 us201 rfl) ?_;refine C1 cl144 rfl .here (fun m1 hm he => hc m1 hm) ?_;rintro _ _ ⟨rfl, rfl⟩;cases b4 with
    | true =>
      refine vr 8 ?_;refine Pa 2 ?_;exact QR (j + 1, s4) (Pick.refl _) ⟨hlt, hgn⟩ (by dsimp only; omega)
    | false =>
      have hst := ui (f := f) (ls := ls) (i := 0 + j + 1) s (by rw [hgn]);rw [hgn] at hst;refine vr 7 ?_;refine zI ?_;refine zH ?_;refine zH ?_;refine zL ?_;refine zI ?_;refine zH ?_;exact zb [] trivial [_] (Pick.refl _) ⟨rfl, by simp only [hst]⟩
   ·have hje : j = x.played.length := by omega
    subst hje;refine tr 2 ?_;refine cfo 6 ?_;refine zG ?_;refine zF ?_;refine y8 ?_;refine qt 2 ?_;refine Pa 2 ?_;exact QR (0 + 1, s3) (Pick.refl _) ⟨by dsimp only; omega, by rw [Nat.zero_add] at hg3; exact hg3⟩ (by dsimp only; omega)
 | 1, _, hg2 =>
   have hg2' : goL f (ls.take (x.played.length + 0)).flatten s = (s2, true) := hg2;refine tr 2 ?_;refine cto 10 ?_;refine pe 11 (ya ar198 ars198 rfl rfl (by omega) (by omega) rfl) ?_
   refine zZ (α := Nat × σ) (fun y => [(1, .func (.func g) #[] q.toArray), (19, .agg [.slice A x.played.length ca, .slice B x.dead.length cb, .slice D x.dawn.length cd].toArray), (20, .int .i64 1), (5, .slice B x.dead.length cb), (24, .int .i64 (x.dead.length : Nat)), (25, .int .i64 (y.1 : Nat))]) (fun y => [E y.2]) (fun y => y.1 ≤ x.dead.length ∧ goL f (ls.take (x.played.length + y.1)).flatten s = (y.2, true)) (fun y => x.dead.length - y.1) (0, s2) ⟨rfl, rfl, rfl, rfl, rfl, rfl, trivial⟩ (Pick.refl _) ⟨Nat.zero_le _, hg2'⟩ ?_
   rintro ⟨j, s3⟩ ⟨hj, hg3⟩;dsimp only at hj hg3 ⊢;by_cases hlt : j < x.dead.length
   ·have hA : B.isSome = true := hd3.isSome (by omega);have hpe := PartR.eff (hd3.elem (j * 14) 14) (hd5 j hlt);rw [← kidsC1 hlt] at hpe;have hgn := uj (f := f) (ls := ls) (i := x.played.length + j) (by omega) s (by rw [hg3]);rw [hg3] at hgn;dsimp only at hgn
    have hc := fun m1 (hm : Le m m1) => hE (x.played.length + j) (by omega) m1 hm _ (hpe.mono hm) s3 (by have := uk hI (l := (ls.take (x.played.length + j)).flatten) hs (by rw [hg3]); rw [hg3] at this; exact this);generalize hgq : goL f (ls[x.played.length + j]'(by omega)) s3 = gq at hgn hc;obtain ⟨s4, b4⟩ := gq;dsimp only at hc;refine tr 2 ?_;refine cto 18 ?_
    refine pe 0 (zC ez46 rfl rfl hA (by omega)) ?_;refine pe 0 (zT zl201 pl201 rfl rfl) ?_;refine pe 1 (yj ni201 us201 rfl) ?_;refine C1 cl144 rfl .here (fun m1 hm he => hc m1 hm) ?_;rintro _ _ ⟨rfl, rfl⟩;cases b4 with
    | true =>
      refine vr 8 ?_;refine Pa 2 ?_;exact QR (j + 1, s4) (Pick.refl _) ⟨hlt, hgn⟩ (by dsimp only; omega)
    | false =>
      have hst := ui (f := f) (ls := ls) (i := x.played.length + j + 1) s (by rw [hgn]);rw [hgn] at hst;refine vr 7 ?_;refine zI ?_;refine zH ?_;refine zH ?_;refine zL ?_;refine zI ?_;refine zH ?_;exact zb [] trivial [_] (Pick.refl _) ⟨rfl, by simp only [hst]⟩
   ·have hje : j = x.dead.length := by omega
    subst hje;refine tr 2 ?_;refine cfo 6 ?_;refine zG ?_;refine zF ?_;refine y8 ?_;refine qt 2 ?_;refine Pa 2 ?_;exact QR (1 + 1, s3) (Pick.refl _) ⟨by dsimp only; omega, hg3⟩ (by dsimp only; omega)
 | 2, _, hg2 =>
   have hg2' : goL f (ls.take (x.played.length + x.dead.length + 0)).flatten s = (s2, true) := hg2;refine tr 2 ?_;refine cto 10 ?_;refine pe 11 (ya ar198 ars198 rfl rfl (by omega) (by omega) rfl) ?_
   refine zZ (α := Nat × σ) (fun y => [(1, .func (.func g) #[] q.toArray), (19, .agg [.slice A x.played.length ca, .slice B x.dead.length cb, .slice D x.dawn.length cd].toArray), (20, .int .i64 2), (5, .slice D x.dawn.length cd), (24, .int .i64 (x.dawn.length : Nat)), (25, .int .i64 (y.1 : Nat))]) (fun y => [E y.2]) (fun y => y.1 ≤ x.dawn.length ∧ goL f (ls.take (x.played.length + x.dead.length + y.1)).flatten s = (y.2, true)) (fun y => x.dawn.length - y.1) (0, s2) ⟨rfl, rfl, rfl, rfl, rfl, rfl, trivial⟩ (Pick.refl _) ⟨Nat.zero_le _, hg2'⟩ ?_
   rintro ⟨j, s3⟩ ⟨hj, hg3⟩;dsimp only at hj hg3 ⊢;by_cases hlt : j < x.dawn.length
   ·have hA : D.isSome = true := hw3.isSome (by omega);have hpe := PartR.eff (hw3.elem (j * 14) 14) (hw5 j hlt);rw [← kidsC2 hlt] at hpe;have hgn := uj (f := f) (ls := ls) (i := x.played.length + x.dead.length + j) (by omega) s (by rw [hg3]);rw [hg3] at hgn;dsimp only at hgn
    have hc := fun m1 (hm : Le m m1) => hE (x.played.length + x.dead.length + j) (by omega) m1 hm _ (hpe.mono hm) s3 (by have := uk hI (l := (ls.take (x.played.length + x.dead.length + j)).flatten) hs (by rw [hg3]); rw [hg3] at this; exact this);generalize hgq : goL f (ls[x.played.length + x.dead.length + j]'(by omega)) s3 = gq at hgn hc;obtain ⟨s4, b4⟩ := gq;dsimp only at hc;refine tr 2 ?_
    refine cto 18 ?_;refine pe 0 (zC ez46 rfl rfl hA (by omega)) ?_;refine pe 0 (zT zl201 pl201 rfl rfl) ?_;refine pe 1 (yj ni201 us201 rfl) ?_;refine C1 cl144 rfl .here (fun m1 hm he => hc m1 hm) ?_;rintro _ _ ⟨rfl, rfl⟩;cases b4 with
    | true =>
      refine vr 8 ?_;refine Pa 2 ?_;exact QR (j + 1, s4) (Pick.refl _) ⟨hlt, hgn⟩ (by dsimp only; omega)
    | false =>
      have hst := ui (f := f) (ls := ls) (i := x.played.length + x.dead.length + j + 1) s (by rw [hgn]);rw [hgn] at hst;refine vr 7 ?_;refine zI ?_;refine zH ?_;refine zH ?_;refine zL ?_;refine zI ?_;refine zH ?_;exact zb [] trivial [_] (Pick.refl _) ⟨rfl, by simp only [hst]⟩
   ·have hje : j = x.dawn.length := by omega
    subst hje;refine tr 2 ?_;refine cfo 6 ?_;refine zG ?_;refine zF ?_;refine y8 ?_;refine qt 2 ?_;refine Pa 2 ?_;exact QR (2 + 1, s3) (Pick.refl _) ⟨by dsimp only; omega, hg3⟩ (by dsimp only; omega)
 | 3, _, hg2 =>
   have hal : offC x 3 = ls.length := by rw [hl, hkl]; rfl
   rw [hal, List.take_length] at hg2;refine tr 2 ?_;refine cfo 6 ?_;refine zG ?_;refine zF ?_;exact zb [] trivial [_] (Pick.refl _) ⟨rfl, by simp only [hg2]⟩
theorem cnt19 {m : Mp} {b : Nat} {v : Value} {s : Int} (h0 : 0 ≤ s) (h1 : s ≤ 4611686018427387904) : CS Tryz.prog 116 [v, .pointer (some ⟨b, 0, none⟩)] m [cel b [iV s] 3] (fun v' L' => v' = .bool (decide (s + 1 < 1073741824)) ∧ L' = [cel b [iV (s + 1)] 3]) := by
 refine zl [.tmp 3] Tryz.func116 rfl rfl rfl ?_;by_cases h : s + 1 < 1073741824
 ·refine tr 7 ?_;refine Lb 0 sg3 .here ?_;refine Pa 0 ?_;refine Sr 4 co3 .here .here ?_;refine Lb 0 sg3 .here ?_;refine cta 4 ?_;exact zb [_] ⟨rfl, trivial⟩ [_] (Pick.refl _) ⟨by rw [decide_eq_true h]; rfl, rfl⟩
 ·refine tr 7 ?_;refine Lb 0 sg3 .here ?_;refine Pa 0 ?_;refine Sr 4 co3 .here .here ?_;refine Lb 0 sg3 .here ?_;refine cfa 4 ?_;exact zb [_] ⟨rfl, trivial⟩ [_] (Pick.refl _) ⟨by rw [decide_eq_false h]; rfl, rfl⟩
end
section
open Kd
theorem CardR.form {m : Mp} {vs : List Value} {x : CardT} (h : CardR m vs x) : ∃ u a1 a2 a3 a4 a5 a6 A la ca B lb cb D ld cd z, vs = [sV x.name, .bool u, iV a1, iV a2, iV a3, iV a4, iV a5, iV a6, .slice A la ca, .slice B lb cb, .slice D ld cd, iV z] := by
 obtain ⟨A, la, ca, B, lb, cb, D, ld, cd, e, _⟩ := h;exact ⟨_, _, _, _, _, _, _, A, la, ca, B, lb, cb, D, ld, cd, _, e⟩
theorem XJ {m : Mp} {cs : List Value} {x : CardT} (hx : CardR m cs x) {l : List PartT} (hF : FlatL (kidsC x) l) (hlen : l.length ≤ 3999) : CS Tryz.prog 92 [.agg cs.toArray] m [] (Gives (iV l.length)) := by
 have hx0 := hx;obtain ⟨u, a1, a2, a3, a4, a5, a6, A, la, ca, B, lb, cb, D, ld, cd, z, rfl⟩ := CardR.form hx;clear hx;refine zl [.tmp 2] Tryz.func92 rfl rfl rfl ?_;refine tr 2 ?_;refine Bx 5 rfl fun b1 => ?_;refine Al 0 zl3 fun b2 => ?_;refine Sr 5 co3 .here .here ?_
 refine C1 cl115 rfl .here (fun m1 hm he => all_ok (g := 116) (E := fun s : Int => cel b2 [iV s] 3) (f := cntF) (I := fun s => 0 ≤ s ∧ s < 1073741824) WJ cl116 (fun m' _ v p s hs _ => cnt19 hs.1 (by omega)) hF hlen (At.blk (HE0 he)) (hx0.mono hm) 0 ⟨by omega, by omega⟩) ?_;rintro _ _ ⟨rfl, rfl⟩;rw [YZ (by omega)];refine vr 4 ?_;refine Lb 4 sg3 .here ?_
 exact rt1 ⟨rfl, trivial⟩ ⟨by dsimp only; rw [Int.zero_add]; rfl, rfl⟩
end
section
open Kd
theorem yY (n : Nat) : 0 ≤ capW n ∧ capW n ≤ 1073741824 := by unfold capW; omega
theorem vR (a b : Nat) : min (capW a + capW b) 1073741824 = capW (a + b) := by unfold capW; omega
theorem num25 {m0 : Mp} {cs : List Value} {x : NumT} (hx : NumR m0 cs x) : ∀ m, Le m0 m → CS Tryz.prog 106 [.agg cs.toArray] m [] (Gives (iV (capW (numW x)))) := by
 induction hx with
 | @mk op n who kids A len c vs ho hln hmx hr hv hkk ih =>
 subst hln;intro m hm;unfold maxLen at hmx;refine zl [.tmp 2] Tryz.func106 rfl rfl rfl ?_;refine tr 2 ?_;refine Bx 15 rfl fun b1 => ?_
 refine zZ (α := Nat × Int) (fun y => [(1, .pointer (some ⟨b1, 0, none⟩)), (3, iV y.2), (4, .int .i64 (y.1 : Nat))]) (fun _ => [cel b1 [.int .i8 op, .int .i64 n, .int .i8 who, .slice A kids.length c] 85]) (fun y => y.1 ≤ kids.length ∧ y.2 = capW (1 + ((kids.take y.1).map numW).sum)) (fun y => kids.length - y.1) (0, 1) ⟨rfl, rfl, rfl, trivial⟩ (Pick.refl _) ⟨Nat.zero_le _, by simp [capW]; omega⟩ ?_
 rintro ⟨i, z⟩ ⟨hi, hz⟩;dsimp only at hi hz;dsimp only;unfold iV;by_cases hlt : i < kids.length
 ·have hA : A.isSome = true := hr.isSome (by omega);have hc := fun m1 (hm1 : Le m m1) => ih i hlt m1 (hm.trans hm1);have hat := (hr.elem (i * 4) 4).mono hm;have hl4 : ((vs.drop (i * 4)).take 4).length = 4 := (hkk i hlt).len;generalize (vs.drop (i * 4)).take 4 = ks at hc hat hl4;have hnn := yY (numW kids[i]);have hzz : 0 ≤ z ∧ z ≤ 1073741824 := by rw [hz]; exact yY _
  refine tr 5 ?_;refine Lb 1 sg83 .here ?_;refine cto 10 ?_;refine Lb 1 sg83 .here ?_;refine pe 0 (zC ez83 rfl rfl hA (by omega)) ?_;refine lr 0 ((zg ag85 rfl hl4 hat)) ?_;skip;refine Cr cl106 rfl (fun m' hm he => (hc m' hm)) ?_;rintro _ rfl;unfold iV;skip;refine Pa 0 ?_;refine pe 6 (vT rfl rfl) ?_;refine Pa 2 ?_
  exact QR (i + 1, min (z + capW (numW kids[i])) 1073741824) (Pick.refl _) ⟨hlt, by dsimp only; rw [hz, uS _ hlt, vR, Nat.add_assoc]⟩ (by dsimp only; omega)
 ·have hi2 : i = kids.length := by omega
  subst hi2;rw [List.take_length] at hz;subst hz;refine tr 5 ?_;refine Lb 1 sg83 .here ?_;refine cfo 5 ?_;refine zG ?_;refine zF ?_;refine qt 8 ?_;exact rt1 ⟨rfl, trivial⟩ ⟨by rw [ua]; rfl, rfl⟩
theorem cond26 {m0 : Mp} {cs : List Value} {x : CondT} (hx : CondR m0 cs x) : ∀ m, Le m0 m → CS Tryz.prog 107 [.agg cs.toArray] m [] (Gives (iV (capW (condW x)))) := by
 induction hx with
 | @mk op who name nums kids A B la ca lb cb vs us ho hw hn hla hma hra hva hka hlb hmb hrb hvb hkb ih =>
 subst hla hlb;intro m hm;unfold maxLen at hma hmb;refine zl [.tmp 2] Tryz.func107 rfl rfl rfl ?_;refine tr 2 ?_;refine Bx 15 rfl fun b1 => ?_
 refine zZ (α := Nat × Int) (fun y => [(1, .pointer (some ⟨b1, 0, none⟩)), (3, iV y.2), (4, .int .i64 (y.1 : Nat))]) (fun _ => [cel b1 [.int .i8 op, .int .i8 who, .string (bs name), .slice A nums.length ca, .slice B kids.length cb] 88]) (fun y => y.1 ≤ nums.length ∧ y.2 = capW (1 + ((nums.take y.1).map numW).sum)) (fun y => nums.length - y.1) (0, 1) ⟨rfl, rfl, rfl, trivial⟩ (Pick.refl _) ⟨Nat.zero_le _, by simp [capW]; omega⟩ ?_
 rintro ⟨i, z⟩ ⟨hi, hz⟩;dsimp only at hi hz;dsimp only;unfold iV;by_cases hlt : i < nums.length
 ·have hA : A.isSome = true := hra.isSome (by omega);have hc := fun m1 (hm1 : Le m m1) => num25 (hka i hlt) m1 (hm.trans hm1);have hat := (hra.elem (i * 4) 4).mono hm;have hl4 : ((vs.drop (i * 4)).take 4).length = 4 := (hka i hlt).len;generalize (vs.drop (i * 4)).take 4 = ks at hc hat hl4;have hnn := yY (numW nums[i]);have hzz : 0 ≤ z ∧ z ≤ 1073741824 := by rw [hz]; exact yY _
  refine tr 5 ?_;refine Lb 1 sg83 .here ?_;refine cto 10 ?_;refine Lb 1 sg83 .here ?_;refine pe 0 (zC ez83 rfl rfl hA (by omega)) ?_;refine lr 0 ((zg ag85 rfl hl4 hat)) ?_;skip;refine Cr cl106 rfl (fun m' hm he => (hc m' hm)) ?_;rintro _ rfl;unfold iV;skip;refine Pa 0 ?_;refine pe 6 (vT rfl rfl) ?_;refine Pa 2 ?_
  exact QR (i + 1, min (z + capW (numW nums[i])) 1073741824) (Pick.refl _) ⟨hlt, by dsimp only; rw [hz, uS _ hlt, vR, Nat.add_assoc]⟩ (by dsimp only; omega)
 ·have hi2 : i = nums.length := by omega
  subst hi2;rw [List.take_length] at hz;refine tr 5 ?_;refine Lb 1 sg83 .here ?_;refine cfo 5 ?_;refine zG ?_;refine zF ?_;refine qt 8 ?_
  refine zZ (α := Nat × Int) (fun y => [(1, .pointer (some ⟨b1, 0, none⟩)), (3, iV y.2), (5, .int .i64 (y.1 : Nat))]) (fun _ => [cel b1 [.int .i8 op, .int .i8 who, .string (bs name), .slice A nums.length ca, .slice B kids.length cb] 88]) (fun y => y.1 ≤ kids.length ∧ y.2 = capW (1 + (nums.map numW).sum + ((kids.take y.1).map condW).sum)) (fun y => kids.length - y.1) (0, z) ⟨rfl, rfl, rfl, trivial⟩ (Pick.refl _) ⟨Nat.zero_le _, by dsimp only; rw [hz]; simp⟩ ?_
  clear hz hlt hi;rintro ⟨i, z⟩ ⟨hi, hz⟩;dsimp only at hi hz;dsimp only;unfold iV;by_cases hlt : i < kids.length
  ·have hA : B.isSome = true := hrb.isSome (by omega);have hc := fun m1 (hm1 : Le m m1) => ih i hlt m1 (hm.trans hm1);have hat := (hrb.elem (i * 5) 5).mono hm;have hl4 : ((us.drop (i * 5)).take 5).length = 5 := (hkb i hlt).len;generalize (us.drop (i * 5)).take 5 = ks at hc hat hl4;have hnn := yY (condW kids[i]);have hzz : 0 ≤ z ∧ z ≤ 1073741824 := by rw [hz]; exact yY _
   refine tr 5 ?_;refine Lb 1 sg86 .here ?_;refine cto 10 ?_;refine Lb 1 sg86 .here ?_;refine pe 0 (zC ez86 rfl rfl hA (by omega)) ?_;refine lr 0 ((zg ag88 rfl hl4 hat)) ?_;skip;refine Cr cl107 rfl (fun m' hm he => (hc m' hm)) ?_;rintro _ rfl;unfold iV;skip;refine Pa 0 ?_;refine pe 6 (vT rfl rfl) ?_;refine Pa 2 ?_
   exact QR (i + 1, min (z + capW (condW kids[i])) 1073741824) (Pick.refl _) ⟨hlt, by dsimp only; rw [hz, uS _ hlt, vR, Nat.add_assoc]⟩ (by dsimp only; omega)
  ·have hi2 : i = kids.length := by omega
   subst hi2;rw [List.take_length] at hz;subst hz;refine tr 5 ?_;refine Lb 1 sg86 .here ?_;refine cfo 5 ?_;refine zG ?_;refine zF ?_;refine qt 8 ?_;exact rt1 ⟨rfl, trivial⟩ ⟨by rw [yw]; rfl, rfl⟩
def EW (l : List EffT) : Prop := ∀ (m : Mp) (A : Option Addr) (cap : Nat), EffsR m A l.length l → CS Tryz.prog 64 [.slice A l.length cap] m [] (Gives (iV (capW (effsW l))))
theorem ZX {l : List EffT} (ih : ∀ (i : Nat) (h : i < l.length) (op who : Int) (n : NumT) (name : List UInt8) (c : CondT) (a e : List EffT), l[i] = .mk op who n name c a e → EW a ∧ EW e) : EW l := by
 rintro m A cap ⟨-, hml, vs, hrd, hvl, hel⟩;unfold maxLen at hml;refine zl [.tmp 2] Tryz.func64 rfl rfl rfl ?_;refine tr 17 ?_
 refine zZ (α := Nat × Int) (fun y => [(0, .slice A l.length cap), (3, iV y.2), (4, .int .i64 (y.1 : Nat))]) (fun _ => []) (fun y => y.1 ≤ l.length ∧ y.2 = capW ((l.take y.1).map effW).sum) (fun y => l.length - y.1) (0, 0) ⟨rfl, rfl, rfl, trivial⟩ (Pick.refl _) ⟨Nat.zero_le _, by simp [capW]; omega⟩ ?_;rintro ⟨i, z⟩ ⟨hi, hz⟩;dsimp only at hi hz;dsimp only;unfold iV;by_cases hlt : i < l.length
 rotate_left
 ·have hi2 : i = l.length := by omega
  subst hi2;rw [List.take_length] at hz;subst hz;refine tr 6 ?_;refine cfo 5 ?_;refine zG ?_;refine zF ?_;refine qt 8 ?_;exact rt1 ⟨rfl, trivial⟩ ⟨rfl, rfl⟩
 have hA : A.isSome = true := hrd.isSome (by omega);have hx := hel i hlt;have hat := hrd.elem (i * 14) 14;have hih := ih i hlt;have hstep := uS effW hlt;generalize l[i] = x at hx hih hstep;generalize (vs.drop (i * 14)).take 14 = cs at hx hat
 obtain ⟨op, who, nop, nn, nwho, nA, nlen, nc, name, cop, cwho, cname, cA, cla, cca, cB, clb, ccb, TA, la, ca, EB, lb, cb, n, cond, thn, els, rfl, rfl, -, hn, hc, hthn, hels⟩ := EffR.parts hx;obtain ⟨ihT, ihE⟩ := hih _ _ _ _ _ _ _ rfl;have elen := hthn.1;have elen2 := hels.1;subst elen elen2;have hatn := hat.sub 2 4;have hatc := hat.sub 7 5;dsimp only [List.drop, List.take] at hatn hatc
 have hzz : 0 ≤ z ∧ z ≤ 1073741824 := by rw [hz]; exact yY _
 have hz1 : min (z + 1) 1073741824 = capW (((l.take i).map effW).sum + 1) := by rw [hz, ← vR]; unfold capW; omega
 rw [vb] at hstep;clear hx;generalize ((l.take i).map effW).sum = s0 at hstep hz1;generalize hs1 : ((l.take (i + 1)).map effW).sum = s1 at hstep;clear hz ih hel;refine tr 6 ?_;refine cto 10 ?_;refine Pa 0 ?_;refine pe 5 (vT rfl rfl) ?_;rw [hz1];have hb1 := yY (s0 + 1)
 refine vA (α := Int) (fun z => [(0, .slice A l.length cap), (3, iV z), (4, .int .i64 (i : Nat))]) (fun _ => []) (fun z => z = capW (s0 + 1 + if countsB op then numW n else 0)) ?_ ?_
 ·refine tr 3 ?_;refine pe 1 (zC ez46 rfl rfl hA (by omega)) ?_;refine Lo 0 sg82 rfl (hat.at_ rfl) ?_;refine Cr cl105 rfl (fun m' hm he => (counts24 op)) ?_;rintro _ rfl;cases hcb : countsB op with
  | true =>
    have hnn := yY (numW n);have e := vR (s0 + 1) (numW n);refine vr 7 ?_;refine pe 1 (zC ez46 rfl rfl hA (by omega)) ?_;refine La 0 ag85 hatn ?_;refine Cr cl106 rfl (fun m' hm he => (num25 hn m' hm)) ?_;rintro _ rfl;unfold iV;skip;refine Pa 0 ?_;refine pe 2 (vT rfl rfl) ?_
    exact QR (min (capW (s0 + 1) + capW (numW n)) 1073741824) (Pick.refl _) (by rw [e, if_pos rfl]) (by decide)
  | false =>
    refine vr 4 ?_;exact QR (capW (s0 + 1)) (Pick.refl _) (by rw [if_neg (by decide), Nat.add_zero]) (by decide)
 rintro _ rfl;generalize hs2 : s0 + 1 + (if countsB op then numW n else 0) = s2;have hb2 := yY s2;unfold iV;by_cases h8 : op = 8
 ·rw [if_pos h8] at hstep;have hk1 := yY (condW cond);have hk2 := yY (effsW thn);have hk3 := yY (effsW els)
  have e : min (capW s2 + capW (condW cond) + capW (effsW thn) + capW (effsW els)) 1073741824 = capW s1 := by
   have h1 : s1 = s2 + condW cond + effsW thn + effsW els := by unfold effsW; omega
   rw [h1];unfold capW;omega
  refine tr 4 ?_;refine pe 1 (zC ez46 rfl rfl hA (by omega)) ?_;refine Lo 0 sg82 rfl (hat.at_ rfl) ?_;refine cta 3 ?_;refine zc (sT [0, 1, 2, 3, 4, 8, 9, 10, 11, 15, 16, 17, 18, 105, 112, 119, 206, 7, 213, 14, 220, 21, 22, 23] .done) mixed (by kernel_rfl) (fun _ _ _ _ hq => hq) ?_;refine vt 3 ?_;refine Vt 3 rfl (zC ez46 rfl rfl hA (by omega)) ?_
  refine Vt 3 rfl (zC ez46 rfl rfl hA (by omega)) ?_;refine Vt 1 rfl (zC ez46 rfl rfl hA (by omega)) ?_;refine Vu 0 rfl (zg ag88 rfl rfl hatc) ?_;refine Vu 0 rfl (zR sg46 rfl (hat.at_ rfl)) ?_;refine Vu 0 rfl (zR sg46 rfl (hat.at_ rfl)) ?_;refine zn rfl (xv cl107 rfl (fun m' hm he => (cond26 hc m' hm)) rfl ?_) rfl;rintro _ rfl;unfold iV;skip
  refine Vt 0 rfl ((zy rfl rfl (w64 (by omega) (by omega)))) ?_;skip;refine zn rfl (xv cl64 rfl (fun m' hm he => (ihT m' TA ca (hthn.mono hm))) rfl ?_) rfl;rintro _ rfl;unfold iV;skip;refine Vt 0 rfl ((zy rfl rfl (w64 (by omega) (by omega)))) ?_;skip;refine zn rfl (xv cl64 rfl (fun m' hm he => (ihE m' EB cb (hels.mono hm))) rfl ?_) rfl;rintro _ rfl;unfold iV;skip
  refine Vt 0 rfl ((zy rfl rfl (w64 (by omega) (by omega)))) ?_;refine Vt 1 rfl (vT rfl rfl) ?_;refine Vm 4 ?_;refine Pa 2 ?_;rw [e];exact QR (i + 1, capW s1) (Pick.refl _) ⟨hlt, by dsimp only; rw [hs1]⟩ (by dsimp only; omega)
 ·rw [if_neg h8] at hstep;have e : s2 = s1 := by omega
  subst e;refine tr 4 ?_;refine pe 1 (zC ez46 rfl rfl hA (by omega)) ?_;refine Lo 0 sg82 rfl (hat.at_ rfl) ?_;refine cfa 8 ?_;refine Pa 2 ?_;exact QR (i + 1, capW s2) (Pick.refl _) ⟨hlt, by dsimp only; rw [hs1]⟩ (by dsimp only; omega)
theorem effs14 (l : List EffT) : EW l := ZX fun i h op who n name c a e he => ⟨effs14 a, effs14 e⟩
termination_by SizeOf.sizeOf l
decreasing_by
 all_goals
  have h1 := List.sizeOf_lt_of_mem (List.getElem_mem h);rw [he] at h1;simp only [EffT.mk.sizeOf_spec] at h1;omega
def cardW (x : CardT) : Nat := effsW x.played + effsW x.dead + effsW x.dawn
theorem jN {x : CardT} {l : List PartT} (h : FlatL (kidsC x) l) : l.length = cardW x := by
 rw [Y1 h];unfold kidsC cardW effsW;rw [List.map_append, List.map_append, ub, ub, ub, List.sum_append, List.sum_append]
theorem Weight8 {m : Mp} {cs : List Value} {x : CardT} (hx : CardR m cs x) : CS Tryz.prog 36 [.agg cs.toArray] m [] (Gives (iV (capW (cardW x)))) := by
 obtain ⟨A, la, ca, B, lb, cb, D, ld, cd, rfl, hnl, hP, hD, hW, -⟩ := hx;have e1 := hP.1;have e2 := hD.1;have e3 := hW.1;subst e1 e2 e3;have hk1 := yY (effsW x.played);have hk2 := yY (effsW x.dead);have hk3 := yY (effsW x.dawn)
 have e : min (capW (effsW x.played) + capW (effsW x.dead) + capW (effsW x.dawn)) 1073741824 = capW (cardW x) := by
  unfold cardW capW;omega
 refine zl [.tmp 2] Tryz.func36 rfl rfl rfl ?_;refine tr 2 ?_;refine Bx 4 rfl fun b1 => ?_;refine zc (sT [0, 3, 7, 101, 104, 108, 202, 205, 6, 209, 10, 11, 12] .done) mixed (by kernel_rfl) (fun _ _ _ _ hq => hq) ?_;refine vt 3 ?_
 iterate 3 (refine Vl 0 rfl sg46 .here ?_)
 refine zn rfl (xv cl64 rfl (fun m' hm he => (effs14 _ m' A ca (hP.mono hm))) rfl ?_) rfl;rintro _ rfl;skip;refine zn rfl (xv cl64 rfl (fun m' hm he => (effs14 _ m' B cb (hD.mono hm))) rfl ?_) rfl;rintro _ rfl;unfold iV;skip;refine Vt 0 rfl ((zy rfl rfl (w64 (by omega) (by omega)))) ?_;skip
 refine zn rfl (xv cl64 rfl (fun m' hm he => (effs14 _ m' D cd (hW.mono hm))) rfl ?_) rfl;rintro _ rfl;unfold iV;skip;refine Vt 0 rfl ((zy rfl rfl (w64 (by omega) (by omega)))) ?_;refine Vt 1 rfl (vT rfl rfl) ?_;refine Vm 2 ?_;rw [e];exact rt1 ⟨rfl, trivial⟩ ⟨rfl, rfl⟩
end
section
open Wd Kd
theorem flatC {m : Mp} {cs : List Value} {x : CardT} (hx : CardR m cs x) : ∃ l, FlatL (kidsC x) l := by
 obtain ⟨A, la, ca, B, lb, cb, D, ld, cd, -, -, ⟨-, -, vp, -, -, hP⟩, ⟨-, -, vd, -, -, hD⟩, ⟨-, -, vw, -, -, hW⟩, -⟩ := hx
 have key : ∀ p ∈ kidsC x, ∃ l, Flat p l := by
  intro p hp;unfold kidsC at hp;rcases List.mem_append.1 hp with hp | hp
  ·rcases List.mem_append.1 hp with hp | hp
   ·obtain ⟨y, hy, rfl⟩ := List.mem_map.1 hp;obtain ⟨j, hj, rfl⟩ := List.getElem_of_mem hy;exact Flat.eff (hP j hj)
   ·obtain ⟨y, hy, rfl⟩ := List.mem_map.1 hp;obtain ⟨j, hj, rfl⟩ := List.getElem_of_mem hy;exact Flat.eff (hD j hj)
  ·obtain ⟨y, hy, rfl⟩ := List.mem_map.1 hp;obtain ⟨j, hj, rfl⟩ := List.getElem_of_mem hy;exact Flat.eff (hW j hj)
 obtain ⟨ls, e, h⟩ := qV fun i hi => key _ (List.getElem_mem hi);exact ⟨_, ls, e, h, rfl⟩
theorem Weight11 {m : Mp} {cs : List Value} {x : CardT} (hx : CardR m cs x) (hw : cardW x ≤ 3999) : CS Tryz.prog 92 [.agg cs.toArray] m [] (Gives (.int .i64 (cardW x : Nat))) := by
 obtain ⟨l, hF⟩ := flatC hx;have h := jN hF;have h2 := XJ hx hF (by omega);rw [h] at h2;exact h2
def cardQ (x : CardT) : List Int := [x.cost, x.power, x.health, x.shield, x.apow, x.aheal]
def mayP (u : Us) (x : CardT) : Prop :=
 (∀ (i : Nat) (h : i < (cardQ x).length), 0 ≤ (cardQ x)[i] ∧ (cardQ x)[i] ≤ 999) ∧ nameP x.name = true ∧ cardW x ≤ 200 ∧ ¬ (x.unit = true ∧ x.health < 1) ∧
  ¬ (x.unit = false ∧ (x.power + x.health + x.shield + x.apow + x.aheal > 0 ∨ x.dead.length + x.dawn.length > 0)) ∧ ListOk u true 1 x.played ∧ ListOk u false 1 x.dead ∧ ListOk u false 1 x.dawn
theorem WM (x : CardT) {i : Nat} (h : i < 6) : vnth [.int .i64 x.cost, .int .i64 x.power, .int .i64 x.health, .int .i64 x.shield, .int .i64 x.apow, .int .i64 x.aheal] (((i : Nat) : Int).toNat * 1) = some (.int .i64 ((cardQ x)[i]'h)) := by
 match i, h with
 | 0, _ => rfl
 | 1, _ => rfl
 | 2, _ => rfl
 | 3, _ => rfl
 | 4, _ => rfl
 | 5, _ => rfl
theorem may9 {m : Mp} {cs : List Value} {x : CardT} {a : Addr} {bm : Nat} {ul : List (List UInt8 × Bool)} (hT : Tabs m) (hx : CardR m cs x) (hat : At m a cs) (hmap : MapAt m bm (esU ul)) (hnl : x.name.length ≤ 140737488355328) (hw : cardW x ≤ 3999) :
  CS Tryz.prog 54 [.pointer (some a), .map (some bm)] m [] (fun v L' => L' = [] ∧ ∃ r, v = .bool r ∧ (r = true ↔ mayP (uOf ul) x)) := by
 have hx0 := hx;obtain ⟨A, la, ca, B, lb, cb, D, ld, cd, rfl, -, hP, hD, hW, w1, w2, w3, w4, w5, w6, w7⟩ := hx;have e1 := hP.1;have e2 := hD.1;have e3 := hW.1;subst e1 e2 e3;have hml2 := hD.2.1;have hml3 := hW.2.1;unfold maxLen at hml2 hml3
 have hlens : x.dead.length + x.dawn.length ≤ 3999 := by
  obtain ⟨l, hF⟩ := flatC hx0;have h := jN hF;obtain ⟨ls, e, hk, rfl⟩ := hF;have := (u6 e hk).1;rw [wd] at this;omega
 refine zl [.tmp 4] Tryz.func54 rfl rfl rfl ?_;refine tr 7 ?_;refine zc (sT [0, 1, 2, 4, 5, 6, 8, 9, 10, 12, 13, 14, 16, 17, 18, 20, 21, 22, 25, 103, 107, 111, 115, 119, 123, 24] .done) mixed (by kernel_rfl) (fun _ _ _ _ hq => hq) ?_;refine vt 19 ?_
 iterate 6 (refine Vu 0 rfl (zR sg3 rfl (hat.at_ rfl)) ?_)
 refine Vt 0 rfl (yr ar147 zl147 rfl rfl) ?_;refine Vm 2 ?_
 refine zZ (α := Nat) (fun i => [(0, .pointer (some a)), (1, .map (some bm)), (32, .agg [.int .i64 x.cost, .int .i64 x.power, .int .i64 x.health, .int .i64 x.shield, .int .i64 x.apow, .int .i64 x.aheal].toArray), (33, .int .i64 (i : Nat))]) (fun _ => []) (fun i => i ≤ 6 ∧ ∀ (j : Nat) (h : j < (cardQ x).length), j < i → 0 ≤ (cardQ x)[j] ∧ (cardQ x)[j] ≤ 999) (fun i => 6 - i) 0 ⟨rfl, rfl, rfl, rfl, trivial⟩ (Pick.refl _) ⟨Nat.zero_le _, fun _ _ h => by cases h⟩ ?_
 rintro i ⟨hi, hdone⟩
 try dsimp only at hi hdone
 try dsimp only
 by_cases hlt : i < 6
 ·have hq := WM x hlt;generalize hqi : (cardQ x)[i]'hlt = q at hq;have hno : ¬ (0 ≤ q ∧ q ≤ 999) → ¬ mayP (uOf ul) x := fun h1 h2 => h1 (by rw [← hqi]; exact h2.1 i hlt);by_cases hq0 : q < 0
  ·refine tr 2 ?_;refine cto 10 ?_;refine pe 6 ((ya ar147 ars147 rfl rfl (by omega) (by omega) hq)) ?_;refine cta 15 ?_;refine zI ?_;refine zH ?_;refine zL ?_;exact rt1 ⟨rfl, trivial⟩ ⟨rfl, false, rfl, fun h => (by cases h), fun h => absurd h (hno (by omega))⟩
  by_cases hq9 : q > 999
  ·refine tr 2 ?_;refine cto 10 ?_;refine pe 6 ((ya ar147 ars147 rfl rfl (by omega) (by omega) hq)) ?_;refine cfa 2 ?_;refine cta 12 ?_;refine zI ?_;refine zH ?_;refine zL ?_;exact rt1 ⟨rfl, trivial⟩ ⟨rfl, false, rfl, fun h => (by cases h), fun h => absurd h (hno (by omega))⟩
  refine tr 2 ?_;refine cto 10 ?_;refine pe 6 ((ya ar147 ars147 rfl rfl (by omega) (by omega) hq)) ?_;refine cfa 2 ?_;refine cfa 8 ?_;refine Pa 2 ?_
  exact QR (i + 1) (Pick.refl _) ⟨hlt, fun j h h2 => by
   by_cases hji : j < i
   ·exact hdone j h hji
   ·obtain rfl : j = i := by omega
    have e : (cardQ x)[j] = q := hqi
    omega⟩ (by omega)
 have hall : ∀ (j : Nat) (h : j < (cardQ x).length), 0 ≤ (cardQ x)[j] ∧ (cardQ x)[j] ≤ 999 := fun j h => hdone j h (by have : (cardQ x).length = 6 := rfl; omega);clear hdone;have q1 : 0 ≤ x.power ∧ x.power ≤ 999 := hall 1 (by show _ < 6; omega);have q2 : 0 ≤ x.health ∧ x.health ≤ 999 := hall 2 (by show _ < 6; omega);have q3 : 0 ≤ x.shield ∧ x.shield ≤ 999 := hall 3 (by show _ < 6; omega)
 have q4 : 0 ≤ x.apow ∧ x.apow ≤ 999 := hall 4 (by show _ < 6; omega);have q5 : 0 ≤ x.aheal ∧ x.aheal ≤ 999 := hall 5 (by show _ < 6; omega);refine tr 2 ?_;refine cfo 6 ?_;refine zG ?_;refine zF ?_;refine qt 9 ?_;refine Lo 0 sg9 rfl (hat.at_ rfl) ?_;refine Cr cl56 rfl (fun m' hm he => (Ym (hT.mono hm) (by omega))) ?_;rintro _ rfl;cases hnm : nameP x.name with
 | false =>
   refine vr 16 ?_;exact rt1 ⟨rfl, trivial⟩ ⟨rfl, false, rfl, fun h => (by cases h), fun h => by rw [h.2.1] at hnm; cases hnm⟩
 | true =>
 refine vr 9 ?_;refine La 0 ag48 hat ?_;refine Cr cl92 rfl (fun m' hm he => (Weight11 (hx0.mono hm) hw)) ?_;rintro _ rfl;by_cases hw2 : cardW x ≤ 200
 rotate_left
 ·refine cto 15 ?_;exact rt1 ⟨rfl, trivial⟩ ⟨rfl, false, rfl, fun h => (by cases h), fun h => absurd h.2.2.1 hw2⟩
 have hfin : (¬ (x.unit = true ∧ x.health < 1) ∧ ¬ (x.unit = false ∧ (x.power + x.health + x.shield + x.apow + x.aheal > 0 ∨ x.dead.length + x.dawn.length > 0)) ∧ ListOk (uOf ul) true 1 x.played ∧ ListOk (uOf ul) false 1 x.dead ∧ ListOk (uOf ul) false 1 x.dawn) ↔ mayP (uOf ul) x :=
  ⟨fun h => ⟨hall, hnm, hw2, h⟩, fun h => h.2.2.2⟩
 rw [← hfin];refine cfo 8 ?_;refine Lo 0 sg4 rfl (hat.at_ rfl) ?_;cases hun : x.unit with
 | true =>
   rw [hun] at hat;by_cases hh : x.health < 1
   ·refine vr 4 ?_;refine Lo 0 sg3 rfl (hat.at_ rfl) ?_;refine cta 13 ?_;exact rt1 ⟨rfl, trivial⟩ ⟨rfl, false, rfl, fun h => (by cases h), fun h => absurd ⟨rfl, hh⟩ h.1⟩
   have HA : ¬ (true = true ∧ x.health < 1) := fun h => hh h.2;have HB : ¬ (true = false ∧ (x.power + x.health + x.shield + x.apow + x.aheal > 0 ∨ x.dead.length + x.dawn.length > 0)) := fun h => by cases h.1
   refine vr 4 ?_;refine Lo 0 sg3 rfl (hat.at_ rfl) ?_;refine cfa 6 ?_;refine zc (sT [0, 1, 2, 103, 4, 5, 6, 7, 8, 10, 11, 12, 15, 16, 17, 20, 21, 22, 25, 26, 27, 109, 113, 14, 118, 19, 123, 24, 128, 29, 30, 31, 32, 33, 34, 37, 38, 39, 135, 36, 140, 41, 42, 43, 44, 45, 46] .done) mixed (by kernel_rfl) (fun _ _ _ _ hq => hq) ?_;refine vt 3 ?_;refine Vu 43 rfl (zR sg4 rfl (hat.at_ rfl)) ?_
   refine Vm 8 ?_;refine pe 0 (zT zl150 pl150 rfl rfl) ?_;refine Bx 10 rfl fun b1 => ?_;refine Lo 0 sg46 rfl (hat.at_ rfl) ?_;refine zE ((zW cl93 rfl (fun m1 hm1 he => list16 _ m1 A ca b1 1 ul true (hP.mono hm1) ⟨bm, zU (HE0 he) rfl, zU (HE0 he) rfl, hmap.mono hm1⟩ (by omega)) rfl ?_)) rfl;rintro _ _ ⟨rfl, r, rfl, hr⟩;cases r with
   | false =>
     refine vr 11 ?_;exact rt1 ⟨rfl, trivial⟩ ⟨rfl, false, rfl, fun h => (by cases h), fun h => absurd (hr.2 h.2.2.1) (by decide)⟩
   | true =>
   have hr1 := hr.1 rfl;clear hr;refine vr 11 ?_;refine Sr 8 co4 .here .h1 ?_;refine Lo 0 sg46 rfl (hat.at_ rfl) ?_;refine zE ((zW cl93 rfl (fun m1 hm1 he => list16 _ m1 B cb b1 1 ul false (hD.mono hm1) ⟨bm, zU (HE0 he) rfl, zU (HE0 he) rfl, hmap.mono hm1⟩ (by omega)) rfl ?_)) rfl;rintro _ _ ⟨rfl, r, rfl, hr⟩;cases r with
   | false =>
     refine vr 12 ?_;exact rt1 ⟨rfl, trivial⟩ ⟨rfl, false, rfl, fun h => (by cases h), fun h => absurd (hr.2 h.2.2.2.1) (by decide)⟩
   | true =>
   have hr2 := hr.1 rfl;clear hr;refine vr 5 ?_;refine Lo 0 sg46 rfl (hat.at_ rfl) ?_;refine zE ((zW cl93 rfl (fun m1 hm1 he => list16 _ m1 D cd b1 1 ul false (hW.mono hm1) ⟨bm, zU (HE0 he) rfl, zU (HE0 he) rfl, hmap.mono hm1⟩ (by omega)) rfl ?_)) rfl;rintro _ _ ⟨rfl, r, rfl, hr⟩;refine vr 5 ?_
   exact rt1 ⟨rfl, trivial⟩ ⟨rfl, r, rfl, fun h => ⟨HA, HB, hr1, hr2, hr.1 h⟩, fun h => hr.2 h.2.2.2.2⟩
 | false =>
   rw [hun] at hat;by_cases hs : x.power + x.health + x.shield + x.apow + x.aheal > 0
   ·refine vr 12 ?_;refine zc (sT [0, 1, 2, 103, 4, 5, 6, 7, 8, 10, 11, 12, 15, 16, 17, 20, 21, 22, 25, 26, 27, 109, 113, 14, 118, 19, 123, 24, 128, 29, 30, 31, 32, 33, 34, 37, 38, 39, 135, 36, 140, 41, 42, 43, 44, 45, 46] .done) mixed (by kernel_rfl) (fun _ _ _ _ hq => hq) ?_;refine vt 3 ?_;refine Vu 17 rfl (zR sg4 rfl (hat.at_ rfl)) ?_;refine Vu 0 rfl (zR sg3 rfl (hat.at_ rfl)) ?_
    refine Vu 0 rfl (zR sg3 rfl (hat.at_ rfl)) ?_;refine Vt 0 rfl ((zy rfl rfl (w64 (by omega) (by omega)))) ?_;refine Vu 0 rfl (zR sg3 rfl (hat.at_ rfl)) ?_;refine Vt 0 rfl ((zy rfl rfl (w64 (by omega) (by omega)))) ?_;refine Vu 0 rfl (zR sg3 rfl (hat.at_ rfl)) ?_;refine Vt 0 rfl ((zy rfl rfl (w64 (by omega) (by omega)))) ?_;refine Vu 0 rfl (zR sg3 rfl (hat.at_ rfl)) ?_
    refine Vt 0 rfl ((zy rfl rfl (w64 (by omega) (by omega)))) ?_;refine Vt 16 rfl (dt (vv rfl rfl) (by assumption)) ?_;refine Vm 10 ?_;exact rt1 ⟨rfl, trivial⟩ ⟨rfl, false, rfl, fun h => (by cases h), fun h => absurd ⟨rfl, .inl hs⟩ h.2.1⟩
   by_cases hs2 : x.dead.length + x.dawn.length > 0
   ·refine vr 12 ?_;refine zc (sT [0, 1, 2, 103, 4, 5, 6, 7, 8, 10, 11, 12, 15, 16, 17, 20, 21, 22, 25, 26, 27, 109, 113, 14, 118, 19, 123, 24, 128, 29, 30, 31, 32, 33, 34, 37, 38, 39, 135, 36, 140, 41, 42, 43, 44, 45, 46] .done) mixed (by kernel_rfl) (fun _ _ _ _ hq => hq) ?_;refine vt 3 ?_;refine Vu 17 rfl (zR sg4 rfl (hat.at_ rfl)) ?_;refine Vu 0 rfl (zR sg3 rfl (hat.at_ rfl)) ?_
    refine Vu 0 rfl (zR sg3 rfl (hat.at_ rfl)) ?_;refine Vt 0 rfl ((zy rfl rfl (w64 (by omega) (by omega)))) ?_;refine Vu 0 rfl (zR sg3 rfl (hat.at_ rfl)) ?_;refine Vt 0 rfl ((zy rfl rfl (w64 (by omega) (by omega)))) ?_;refine Vu 0 rfl (zR sg3 rfl (hat.at_ rfl)) ?_;refine Vt 0 rfl ((zy rfl rfl (w64 (by omega) (by omega)))) ?_;refine Vu 0 rfl (zR sg3 rfl (hat.at_ rfl)) ?_
    refine Vt 0 rfl ((zy rfl rfl (w64 (by omega) (by omega)))) ?_;refine Vt 7 rfl (df (vv rfl rfl) (by assumption)) ?_;refine Vu 1 rfl (zR sg46 rfl (hat.at_ rfl)) ?_;refine Vu 1 rfl (zR sg46 rfl (hat.at_ rfl)) ?_;refine Vt 0 rfl (xi rfl rfl (by omega)) ?_;refine Vt 3 rfl (dt (vv rfl rfl) (by omega)) ?_;refine Vm 10 ?_
    exact rt1 ⟨rfl, trivial⟩ ⟨rfl, false, rfl, fun h => (by cases h), fun h => absurd ⟨rfl, .inr hs2⟩ h.2.1⟩
   have HA : ¬ (false = true ∧ x.health < 1) := fun h => by cases h.1
   have HB : ¬ (false = false ∧ (x.power + x.health + x.shield + x.apow + x.aheal > 0 ∨ x.dead.length + x.dawn.length > 0)) := fun h => h.2.elim hs hs2;refine vr 12 ?_
   refine zc (sT [0, 1, 2, 103, 4, 5, 6, 7, 8, 10, 11, 12, 15, 16, 17, 20, 21, 22, 25, 26, 27, 109, 113, 14, 118, 19, 123, 24, 128, 29, 30, 31, 32, 33, 34, 37, 38, 39, 135, 36, 140, 41, 42, 43, 44, 45, 46] .done) mixed (by kernel_rfl) (fun _ _ _ _ hq => hq) ?_;refine vt 3 ?_;refine Vu 17 rfl (zR sg4 rfl (hat.at_ rfl)) ?_;refine Vu 0 rfl (zR sg3 rfl (hat.at_ rfl)) ?_
   refine Vu 0 rfl (zR sg3 rfl (hat.at_ rfl)) ?_;refine Vt 0 rfl ((zy rfl rfl (w64 (by omega) (by omega)))) ?_;refine Vu 0 rfl (zR sg3 rfl (hat.at_ rfl)) ?_;refine Vt 0 rfl ((zy rfl rfl (w64 (by omega) (by omega)))) ?_;refine Vu 0 rfl (zR sg3 rfl (hat.at_ rfl)) ?_;refine Vt 0 rfl ((zy rfl rfl (w64 (by omega) (by omega)))) ?_;refine Vu 0 rfl (zR sg3 rfl (hat.at_ rfl)) ?_
   refine Vt 0 rfl ((zy rfl rfl (w64 (by omega) (by omega)))) ?_;refine Vt 7 rfl (df (vv rfl rfl) (by assumption)) ?_;refine Vu 1 rfl (zR sg46 rfl (hat.at_ rfl)) ?_;refine Vu 1 rfl (zR sg46 rfl (hat.at_ rfl)) ?_;refine Vt 0 rfl (xi rfl rfl (by omega)) ?_;refine Vt 3 rfl (df (vv rfl rfl) (by omega)) ?_;refine Vm 8 ?_;refine pe 0 (zT zl150 pl150 rfl rfl) ?_
   refine Bx 10 rfl fun b1 => ?_;refine Lo 0 sg46 rfl (hat.at_ rfl) ?_;refine zE ((zW cl93 rfl (fun m1 hm1 he => list16 _ m1 A ca b1 1 ul true (hP.mono hm1) ⟨bm, zU (HE0 he) rfl, zU (HE0 he) rfl, hmap.mono hm1⟩ (by omega)) rfl ?_)) rfl;rintro _ _ ⟨rfl, r, rfl, hr⟩;cases r with
   | false =>
     refine vr 11 ?_;exact rt1 ⟨rfl, trivial⟩ ⟨rfl, false, rfl, fun h => (by cases h), fun h => absurd (hr.2 h.2.2.1) (by decide)⟩
   | true =>
   have hr1 := hr.1 rfl;clear hr;refine vr 11 ?_;refine Sr 8 co4 .here .h1 ?_;refine Lo 0 sg46 rfl (hat.at_ rfl) ?_;refine zE ((zW cl93 rfl (fun m1 hm1 he => list16 _ m1 B cb b1 1 ul false (hD.mono hm1) ⟨bm, zU (HE0 he) rfl, zU (HE0 he) rfl, hmap.mono hm1⟩ (by omega)) rfl ?_)) rfl;rintro _ _ ⟨rfl, r, rfl, hr⟩;cases r with
   | false =>
     refine vr 12 ?_;exact rt1 ⟨rfl, trivial⟩ ⟨rfl, false, rfl, fun h => (by cases h), fun h => absurd (hr.2 h.2.2.2.1) (by decide)⟩
   | true =>
   have hr2 := hr.1 rfl;clear hr;refine vr 5 ?_;refine Lo 0 sg46 rfl (hat.at_ rfl) ?_;refine zE ((zW cl93 rfl (fun m1 hm1 he => list16 _ m1 D cd b1 1 ul false (hW.mono hm1) ⟨bm, zU (HE0 he) rfl, zU (HE0 he) rfl, hmap.mono hm1⟩ (by omega)) rfl ?_)) rfl;rintro _ _ ⟨rfl, r, rfl, hr⟩;refine vr 5 ?_
   exact rt1 ⟨rfl, trivial⟩ ⟨rfl, r, rfl, fun h => ⟨HA, HB, hr1, hr2, hr.1 h⟩, fun h => hr.2 h.2.2.2.2⟩
end
section
open Go Go.Eng Kd Wd
def addU (acc : List (List UInt8 × Bool)) (c : CardT) : List (List UInt8 × Bool) := if (uOf acc c.name).isSome then acc else acc ++ [(c.name, c.unit)]
def unitsOf (l : List CardT) : List (List UInt8 × Bool) := l.foldl addU []
theorem j6 (l : List CardT) (c : CardT) : unitsOf (l ++ [c]) = addU (unitsOf l) c := by simp [unitsOf]
theorem j5 {l : List CardT} {i : Nat} (h : i < l.length) : unitsOf (l.take (i + 1)) = addU (unitsOf (l.take i)) l[i] := by
 rw [List.take_add_one, List.getElem?_eq_getElem h];exact j6 _ _
def uC (l : List CardT) : Us := fun s => (l.find? fun c => decide (s = c.name)).map (·.unit)
theorem Xf (acc : List (List UInt8 × Bool)) (c : CardT) (s : List UInt8) : uOf (addU acc c) s = match uOf acc s with | some v => some v | none => if s = c.name then some c.unit else none := by
 unfold addU
 split
 ·rename_i h
  cases hs : uOf acc s with
  | some v => rfl
  | none =>
    by_cases he : s = c.name
    ·subst he; rw [hs] at h; cases h
    ·simp [he]
 ·exact Xe
theorem jd : ∀ (l : List CardT) (acc : List (List UInt8 × Bool)) (s : List UInt8), uOf (l.foldl addU acc) s = match uOf acc s with | some v => some v | none => uC l s
 | [], acc, s => by cases h : uOf acc s <;> simp [uC, h]
 | c :: r, acc, s => by
   rw [List.foldl_cons, jd r, Xf];cases h : uOf acc s with
   | some v => rfl
   | none =>
     unfold uC;by_cases he : s = c.name
     ·simp [he]
     ·simp [he]
theorem Yo (l : List CardT) : uOf (unitsOf l) = uC l := by
 funext s
 rw [unitsOf, jd]
 rfl
def namesC (l : List CardT) : List (List UInt8) := l.map (·.name)
theorem ZJ {l : List CardT} {i : Nat} (h : i < l.length) : namesC (l.take (i + 1)) = namesC (l.take i) ++ [l[i].name] := by
 unfold namesC;rw [List.take_add_one, List.getElem?_eq_getElem h, List.map_append]
 rfl
def okAt (l : List CardT) (i : Nat) (h : i < l.length) : Prop := l[i].name ∉ namesC (l.take i) ∧ mayP (uC l) l[i]
def CheckPost (l : List CardT) (e a : Int) : Prop :=
 (240 < l.length ∧ e = 3 ∧ a = 0) ∨ (l.length ≤ 240 ∧ ((e = 0 ∧ a = 0 ∧ ∀ (i : Nat) (h : i < l.length), okAt l i h) ∨
  ∃ (i : Nat) (h : i < l.length), (∀ (j : Nat) (hj : j < i), okAt l j (by omega)) ∧ a = l[i].at_ ∧ ((e = 101 ∧ l[i].name ∈ namesC (l.take i)) ∨ (e = 130 ∧ l[i].name ∉ namesC (l.take i) ∧ ¬ mayP (uC l) l[i]))))
theorem CheckPost.ok {l : List CardT} {a : Int} (h : CheckPost l 0 a) : l.length ≤ 240 ∧ ∀ (i : Nat) (h : i < l.length), okAt l i h := by
 rcases h with ⟨_, e, _⟩ | ⟨h1, ⟨_, _, h2⟩ | ⟨i, h, _, _, ⟨e, _⟩ | ⟨e, _⟩⟩⟩
 ·cases e
 ·exact ⟨h1, h2⟩
 ·cases e
 ·cases e
end
section
open Wd Kd
theorem jH (l : List (List UInt8)) (s : List UInt8) : (getM (entK l) s).getD (.bool false) = .bool (decide (s ∈ l)) := by
 unfold getM;by_cases h : s ∈ l
 ·obtain ⟨j, hj⟩ := wx l 0 h
  simp [hj, h]
 ·simp [wG l 0 h, h]
theorem qw {l : List (List UInt8)} {s : List UInt8} (h : s ∉ l) : putM (entK l) s (.bool true) = entK (l ++ [s]) := by
 unfold putM;rw [wG l 0 h]
 simp [entK]
theorem Check5 {m : Mp} {A : Option Addr} {cap : Nat} {cards : List CardT} (hT : Tabs m) (hc : CardsR m A cards.length cards) (hb : cards.length ≤ 240 → ∀ (i : Nat) (h : i < cards.length), cards[i].name.length ≤ 140737488355328 ∧ cardW cards[i] ≤ 3999) :
  CS Tryz.prog 22 [.slice A cards.length cap] m [] (fun v L' => L' = [] ∧ ∃ e a, v = faultV e a ∧ CheckPost cards e a) := by
 obtain ⟨-, hml, vs, hrd, hvl, hel⟩ := hc;unfold maxLen at hml;refine zl [.cell 2 31] Tryz.func22 rfl rfl rfl ?_;by_cases h240 : cards.length ≤ 240
 rotate_left
 ·refine tr 2 ?_;refine Al 7 zl31 fun b1 => ?_;refine cto 5 ?_;refine pe 0 (zT zl31 pl31 rfl rfl) ?_;refine Sg 4 ag31 .here ?_;exact zb [_] ⟨⟨b1, _, _, _, rfl, .here, .inr ⟨rfl, rfl⟩⟩, trivial⟩ [] (Pick.nil _) ⟨rfl, 3, 0, rfl, .inl ⟨by omega, rfl, rfl⟩⟩
 have hb := hb h240;refine tr 2 ?_;refine Al 7 zl31 fun b1 => ?_;refine cfo 7 ?_;refine zE (xC rfl (fun b2 => ?_)) rfl;refine vr 12 ?_
 refine zZ (α := Nat) (fun i => [(0, .slice A cards.length cap), (2, .pointer (some ⟨b1, 0, none⟩)), (3, .map (some b2)), (16, .slice A cards.length cap), (17, .int .i64 (cards.length : Nat)), (18, .int .i64 (i : Nat))]) (fun i => [smap b2 (esU (unitsOf (cards.take i))), cel b1 [.int .i64 0, .int .i64 0] 31]) (fun i => i ≤ cards.length) (fun i => cards.length - i) 0 ⟨rfl, rfl, rfl, rfl, rfl, rfl, trivial⟩ (Pick.refl _) (Nat.zero_le _) ?_
 rintro i hi
 try dsimp only
 by_cases hlt : i < cards.length
 ·have hA : A.isSome = true := hrd.isSome (by omega);have hx := hel i hlt;have hat := hrd.elem (i * 12) 12;have hst := j5 hlt;generalize cards[i] = x at hx hst;generalize (vs.drop (i * 12)).take 12 = cs at hx hat;obtain ⟨PA, la, ca, PB, lb, cb, PD, ld, cd, rfl, -⟩ := hx;generalize hus' : unitsOf (cards.take (i + 1)) = us' at hst;generalize unitsOf (cards.take i) = us at hst
  have hgu := jI (s := x.name) (l := us);cases hu : uOf us x.name with
  | none =>
    rw [hu] at hgu;have e : us' = us ++ [(x.name, x.unit)] := by rw [hst, addU, if_neg (by rw [hu]; simp)]
    have hput := Xr (s := x.name) (l := us) (b := x.unit) hu;rw [← e] at hput;refine tr 2 ?_;refine cto 10 ?_;refine pe 0 (zC ez22 rfl rfl hA (by omega)) ?_;refine La 0 ag48 hat ?_;refine Al 0 zl48 fun b3 => ?_;refine Sg 6 ag48 .here ?_;refine Lb 0 sg9 .here ?_;refine lr 0 (jy ms105 rfl rfl .h1 mz105) ?_;rw [hgu];refine vr 17 ?_;refine Lb 1 sg9 .here ?_
    refine Lb 0 sg4 .here ?_;refine zE (yR ms105 rfl rfl rfl .h1 ?_) rfl;refine vr 4 ?_;refine Pa 2 ?_;rw [hput];exact QR (i + 1) (by rw [hus']; exact .cons .h1 .p1) hlt (by omega)
  | some u =>
    rw [hu] at hgu;have e : us' = us := by rw [hst, addU, if_pos (by rw [hu]; simp)]
    subst e;refine tr 2 ?_;refine cto 10 ?_;refine pe 0 (zC ez22 rfl rfl hA (by omega)) ?_;refine La 0 ag48 hat ?_;refine Al 0 zl48 fun b3 => ?_;refine Sg 6 ag48 .here ?_;refine Lb 0 sg9 .here ?_;refine lr 0 (jy ms105 rfl rfl .h1 mz105) ?_;rw [hgu];refine vr 18 ?_;refine Pa 2 ?_;exact QR (i + 1) (by rw [hus']; exact .cons .h1 .p1) hlt (by omega)
 have hi2 : i = cards.length := by omega
 subst hi2;rw [List.take_length];have hus := Yo cards;generalize unitsOf cards = us at hus;refine tr 2 ?_;refine cfo 6 ?_;refine zG ?_;refine zF ?_;refine qt 3 ?_;refine zE (xC rfl (fun b3 => ?_)) rfl;refine vr 12 ?_
 refine zZ (α := Nat) (fun i => [(0, .slice A cards.length cap), (2, .pointer (some ⟨b1, 0, none⟩)), (3, .map (some b2)), (8, .map (some b3)), (39, .int .i64 (cards.length : Nat)), (40, .int .i64 (i : Nat))]) (fun i => [smap b3 (entK (namesC (cards.take i))), smap b2 (esU us), cel b1 [.int .i64 0, .int .i64 0] 31]) (fun i => i ≤ cards.length ∧ ∀ (j : Nat) (h : j < cards.length), j < i → okAt cards j h) (fun i => cards.length - i) 0 ⟨rfl, rfl, rfl, rfl, rfl, rfl, trivial⟩ (Pick.refl _) ⟨Nat.zero_le _, fun _ _ h => by cases h⟩ ?_
 clear hi hlt;rintro i ⟨hi, hdone⟩
 try dsimp only at hi hdone
 try dsimp only
 by_cases hlt : i < cards.length
 rotate_left
 ·refine tr 2 ?_;refine cfo 6 ?_;refine zG ?_;refine zF ?_;refine qt 3 ?_;refine pe 0 (zT zl31 pl31 rfl rfl) ?_;refine Sg 3 ag31 .h2 ?_;exact zb [_] ⟨⟨b1, _, _, _, rfl, .h2, .inr ⟨rfl, rfl⟩⟩, trivial⟩ [] (Pick.nil _) ⟨rfl, 0, 0, rfl, .inr ⟨h240, .inl ⟨rfl, rfl, fun j h => hdone j h (by omega)⟩⟩⟩
 have hA : A.isSome = true := hrd.isSome (by omega);have hx := hel i hlt;have hat := hrd.elem (i * 12) 12;have hst := ZJ hlt;have hbi := hb i hlt
 have hex : ∀ (e : Int), ((e = 101 ∧ cards[i].name ∈ namesC (cards.take i)) ∨ (e = 130 ∧ cards[i].name ∉ namesC (cards.take i) ∧ ¬ mayP (uC cards) cards[i])) → CheckPost cards e cards[i].at_ := fun e h =>
  .inr ⟨h240, .inr ⟨i, hlt, fun j hj => hdone j (by omega) hj, rfl, h⟩⟩
 have hnext : cards[i].name ∉ namesC (cards.take i) → mayP (uC cards) cards[i] → ∀ (j : Nat) (h : j < cards.length), j < i + 1 → okAt cards j h := fun h1 h2 j h hj => by
  by_cases hji : j < i
  ·exact hdone j h hji
  ·obtain rfl : j = i := by omega
   exact ⟨h1, h2⟩
 generalize cards[i] = x at hx hst hbi hex hnext;generalize (vs.drop (i * 12)).take 12 = cs at hx hat;have hx0 := hx;have hat0 := hat;obtain ⟨PA, la, ca, PB, lb, cb, PD, ld, cd, rfl, -⟩ := hx;generalize hns' : namesC (cards.take (i + 1)) = ns' at hst;generalize namesC (cards.take i) = ns at hst hex hnext ⊢;have hgu := jH ns x.name;by_cases hin : x.name ∈ ns
 ·rw [decide_eq_true hin] at hgu;refine tr 2 ?_;refine cto 18 ?_;refine pe 11 (zC ez22 rfl rfl hA (by omega)) ?_;refine Lo 0 sg9 rfl (hat0.at_ rfl) ?_;refine lr 0 (wn ms105 rfl rfl .here mz105) ?_;rw [hgu];refine vr 9 ?_;refine Lo 0 sg3 rfl (hat0.at_ rfl) ?_;refine pe 0 (zT zl31 pl31 rfl rfl) ?_;refine Sg 7 ag31 .h2 ?_;refine zI ?_;refine zH ?_
  refine zL ?_;exact zb [_] ⟨⟨b1, _, _, _, rfl, .h2, .inr ⟨rfl, rfl⟩⟩, trivial⟩ [] (Pick.nil _) ⟨rfl, 101, x.at_, rfl, hex _ (.inl ⟨rfl, hin⟩)⟩
 rw [decide_eq_false hin] at hgu;have hput := qw hin;rw [← hst] at hput;refine tr 2 ?_;refine cto 18 ?_;refine pe 11 (zC ez22 rfl rfl hA (by omega)) ?_;refine Lo 0 sg9 rfl (hat0.at_ rfl) ?_;refine lr 0 (wn ms105 rfl rfl .here mz105) ?_;rw [hgu];refine vr 8 ?_
 refine zE ((zW cl54 rfl (fun m1 hm1 he => may9 (hT.mono hm1) (hx0.mono hm1) (hat0.mono hm1) (MapAt.of (he _ (.tail _ (.head _)))) hbi.1 hbi.2) rfl ?_)) rfl;rintro _ _ ⟨rfl, r, rfl, hr⟩;rw [hus] at hr;cases r with
 | false =>
   refine vr 10 ?_;refine Lo 0 sg3 rfl (hat0.at_ rfl) ?_;refine pe 0 (zT zl31 pl31 rfl rfl) ?_;refine Sg 7 ag31 .h2 ?_;refine zI ?_;refine zH ?_;refine zL ?_;exact zb [_] ⟨⟨b1, _, _, _, rfl, .h2, .inr ⟨rfl, rfl⟩⟩, trivial⟩ [] (Pick.nil _) ⟨rfl, 130, x.at_, rfl, hex _ (.inr ⟨rfl, hin, fun h => absurd (hr.2 h) (by decide)⟩)⟩
 | true =>
   refine vr 13 ?_;refine Lo 0 sg9 rfl (hat0.at_ rfl) ?_;refine zE (yR ms105 rfl rfl rfl .here ?_) rfl;refine vr 4 ?_;refine Pa 2 ?_;rw [hput];exact QR (i + 1) (by rw [hns']; exact Pick.refl _) ⟨hlt, hnext hin (hr.1 rfl)⟩ (by omega)
end
section
open Wd Kd
theorem YD {n : Nat} (h : capW n ≤ 3000) : n ≤ 3000 := by unfold capW at h; omega
theorem Great4 {m : Mp} {A : Option Addr} {cap : Nat} {cards : List CardT} (hc : CardsR m A cards.length cards) :
  CS Tryz.prog 12 [.slice A cards.length cap] m [] (fun v L' => L' = [] ∧ ∃ r, v = .bool r ∧ (r = false → cards.length ≤ 250 ∧ ∀ (i : Nat) (h : i < cards.length), cards[i].name.length ≤ 2000 ∧ cardW cards[i] ≤ 3999)) := by
 obtain ⟨-, hml, vs, hrd, hvl, hel⟩ := hc;unfold maxLen at hml;refine zl [.tmp 2] Tryz.func12 rfl rfl rfl ?_;refine tr 19 ?_
 refine zZ (α := Nat × Int) (fun y => [(0, .slice A cards.length cap), (3, .int .i64 y.2), (6, .int .i64 (cards.length : Nat)), (7, .int .i64 (y.1 : Nat))]) (fun _ => []) (fun y => y.1 ≤ cards.length ∧ 0 ≤ y.2 ∧ y.2 ≤ 3000 ∧ ∀ (j : Nat) (h : j < cards.length), j < y.1 → cards[j].name.length ≤ 2000 ∧ cardW cards[j] ≤ 3999) (fun y => cards.length - y.1) (0, 0) ⟨rfl, rfl, rfl, rfl, trivial⟩ (Pick.refl _) ⟨Nat.zero_le _, by decide, by decide, fun _ _ h => by cases h⟩ ?_
 rintro ⟨i, z⟩ ⟨hi, hz0, hz1, hdone⟩;dsimp only at hi hz0 hz1 hdone;dsimp only;by_cases hlt : i < cards.length
 rotate_left
 ·by_cases h250 : cards.length ≤ 250
  ·refine tr 2 ?_;refine cfo 6 ?_;refine zG ?_;refine zF ?_;refine qt 5 ?_;refine cfo 4 ?_;exact rt1 ⟨rfl, trivial⟩ ⟨rfl, _, rfl, fun _ => ⟨h250, fun j h => hdone j h (by omega)⟩⟩
  ·refine tr 2 ?_;refine cfo 6 ?_;refine zG ?_;refine zF ?_;refine qt 5 ?_;refine cto 4 ?_;exact rt1 ⟨rfl, trivial⟩ ⟨rfl, true, rfl, fun h => (by cases h)⟩
 have hA : A.isSome = true := hrd.isSome (by omega);have hx := hel i hlt;have hat := hrd.elem (i * 12) 12
 have hnext : cards[i].name.length ≤ 2000 ∧ cardW cards[i] ≤ 3999 → ∀ (j : Nat) (h : j < cards.length), j < i + 1 → cards[j].name.length ≤ 2000 ∧ cardW cards[j] ≤ 3999 := fun h2 j h hj => by
  by_cases hji : j < i
  ·exact hdone j h hji
  ·obtain rfl : j = i := by omega
   exact h2
 generalize cards[i] = x at hx hnext;generalize (vs.drop (i * 12)).take 12 = cs at hx hat;have hx0 := hx;obtain ⟨PA, la, ca, PB, lb, cb, PD, ld, cd, rfl, hnl, -⟩ := hx;unfold maxLen at hnl;have hw := yY (cardW x);have hsm := @YD (cardW x);refine tr 2 ?_;refine cto 19 ?_;refine pe 0 (zC ez22 rfl rfl hA (by omega)) ?_;refine La 0 ag48 hat ?_
 refine Cr cl36 rfl (fun m' hm he => (Weight8 (hx0.mono hm))) ?_;rintro _ rfl;unfold iV;generalize capW (cardW x) = w at hw hsm;skip;refine Pa 0 ?_;have hout : ∀ r : Bool, (r = false → cards.length ≤ 250 ∧ ∀ (i : Nat) (h : i < cards.length), cards[i].name.length ≤ 2000 ∧ cardW cards[i] ≤ 3999) → True := fun _ _ => trivial;by_cases h3 : z + w ≤ 3000
 rotate_left
 ·refine vr 6 ?_;refine cto 29 ?_;refine zI ?_;refine zH ?_;refine zL ?_;exact rt1 ⟨rfl, trivial⟩ ⟨rfl, true, rfl, fun h => (by cases h)⟩
 by_cases hn2 : x.name.length ≤ 2000
 rotate_left
 ·refine vr 6 ?_;refine cfo 3 ?_;refine pe 1 (zC ez22 rfl rfl hA (by omega)) ?_;refine Lo 0 sg9 rfl (hat.at_ rfl) ?_;refine pe 0 (zq rfl st9) ?_;refine cto 21 ?_;refine zI ?_;refine zH ?_;refine zL ?_;exact rt1 ⟨rfl, trivial⟩ ⟨rfl, true, rfl, fun h => (by cases h)⟩
 have hgo := hnext ⟨hn2, by have := hsm (by omega); omega⟩;by_cases h60 : i ≤ 60
 ·refine vr 6 ?_;refine cfo 3 ?_;refine pe 1 (zC ez22 rfl rfl hA (by omega)) ?_;refine Lo 0 sg9 rfl (hat.at_ rfl) ?_;refine pe 0 (zq rfl st9) ?_;refine cfo 3 ?_;refine cfo 13 ?_;refine Pa 2 ?_;exact QR (i + 1, z + w) (Pick.refl _) ⟨hlt, by dsimp only; omega, h3, hgo⟩ (by dsimp only; omega)
 by_cases h240 : cards.length ≤ 240
 ·refine vr 6 ?_;refine cfo 3 ?_;refine pe 1 (zC ez22 rfl rfl hA (by omega)) ?_;refine Lo 0 sg9 rfl (hat.at_ rfl) ?_;refine pe 0 (zq rfl st9) ?_;refine cfo 3 ?_;refine cto 3 ?_;refine cto 13 ?_;refine zI ?_;refine zH ?_;refine zL ?_;exact rt1 ⟨rfl, trivial⟩ ⟨rfl, true, rfl, fun h => (by cases h)⟩
 ·refine vr 6 ?_;refine cfo 3 ?_;refine pe 1 (zC ez22 rfl rfl hA (by omega)) ?_;refine Lo 0 sg9 rfl (hat.at_ rfl) ?_;refine pe 0 (zq rfl st9) ?_;refine cfo 3 ?_;refine cto 3 ?_;refine cfo 9 ?_;refine Pa 2 ?_;exact QR (i + 1, z + w) (Pick.refl _) ⟨hlt, by dsimp only; omega, h3, hgo⟩ (by dsimp only; omega)
end
section
open Wd Tp Kd
variable {m : Mp}
theorem formK {cs : List Value} {x : CardT} (h : CardX m cs x) : FormK cs := by
 obtain ⟨q, rfl, -⟩ := h;exact ⟨_, _, _, _, _, _, _, _, _, _, _, _, _, _, _, _, _, _, rfl⟩
theorem formF {cs : List Value} {x : FmtT} (h : FmtX m cs x) : FormF cs := by
 obtain ⟨q, rfl, -⟩ := h;exact ⟨_, _, _, _, _, _, _, _, _, _, _, rfl⟩
theorem cards15 {A A' : Option Addr} {c c' : Nat} {l l' : List CardT} (hC : CardsX m A l) (hC' : CardsX m A' l') (hl : l.length ≤ 140737488355328) (hl' : l'.length ≤ 140737488355328) :
  CS Tryz.prog 15 [.slice A l.length c, .slice A' l'.length c', cmpF 16] m [] (SameV (l.length = l'.length ∧ ∀ (i : Nat) (h : i < l.length) (h' : i < l'.length), sameC l[i] l'[i])) := by
 obtain ⟨vs, hrd, hvl, hel⟩ := hC;obtain ⟨vs', hrd', hvl', hel'⟩ := hC';exact eqf15 (R := sameC) hrd hvl hrd' hvl' (by omega) (by omega) (fun i h => formK (hel i h)) (fun i h => formK (hel' i h)) fun i h h' m2 hm2 => card16 ((hel i h).mono hm2) ((hel' i h').mono hm2)
theorem fmts17 {A A' : Option Addr} {c c' : Nat} {l l' : List FmtT} (hC : FmtsX m A l) (hC' : FmtsX m A' l') (hl : l.length ≤ 140737488355328) (hl' : l'.length ≤ 140737488355328)
  (hb : ∀ f ∈ l, f.banned.length ≤ 140737488355328 ∧ f.single.length ≤ 140737488355328) (hb' : ∀ f ∈ l', f.banned.length ≤ 140737488355328 ∧ f.single.length ≤ 140737488355328) :
  CS Tryz.prog 17 [.slice A l.length c, .slice A' l'.length c', cmpF 18] m [] (SameV (l.length = l'.length ∧ ∀ (i : Nat) (h : i < l.length) (h' : i < l'.length), sameF l[i] l'[i])) := by
 obtain ⟨vs, hrd, hvl, hel⟩ := hC;obtain ⟨vs', hrd', hvl', hel'⟩ := hC';exact eqf17 (R := sameF) hrd hvl hrd' hvl' (by omega) (by omega) (fun i h => formF (hel i h)) (fun i h => formF (hel' i h)) fun i h h' m2 hm2 => format18 ((hel i h).mono hm2) ((hel' i h').mono hm2) (hb _ (List.getElem_mem h)) (hb' _ (List.getElem_mem h'))
section
variable {K F K' F' : Option Addr} {kc fc kc' fc' : Nat} {a b : BkT}
theorem Same7 (hC : CardsX m K a.cards) (hF : FmtsX m F a.fmts) (hC' : CardsX m K' b.cards) (hF' : FmtsX m F' b.fmts) (hs : FmL a) (hs' : FmL b) :
  CS Tryz.prog 7 [.agg (bk2 K a.cards.length kc F a.fmts.length fc).toArray, .agg (bk2 K' b.cards.length kc' F' b.fmts.length fc').toArray] m [] (SameV (sameB a b)) := by
 refine zl [.tmp 4] Tryz.func7 rfl rfl rfl ?_;refine tr 2 ?_;refine Bx 0 rfl fun b1 => ?_;refine Bx 5 rfl fun b2 => ?_;refine Al 5 zl50 fun b3 => ?_;refine Lb 1 sg22 .h2 ?_;refine Lb 0 sg22 .h1 ?_;refine Lc 1 ag50 .here ?_;refine zE ((zW cl15 rfl (fun m' hm he => cards15 (hC.mono hm) (hC'.mono hm) hs.1 hs'.1) rfl ?_)) rfl;rintro _ _ ⟨⟨rfl, q0⟩ | ⟨rfl, hq⟩, rfl⟩
 rotate_left
 ·refine vr 13 ?_;exact rt1 ⟨rfl, trivial⟩ ⟨.inr ⟨rfl, fun h => hq ⟨h.lc, h.c⟩⟩, rfl⟩
 refine vr 2 ?_;refine Lb 1 sg23 .h2 ?_;refine Lb 0 sg23 .h1 ?_;refine Lc 1 ag50 .here ?_;refine zE ((zW cl17 rfl (fun m' hm he => fmts17 (hF.mono hm) (hF'.mono hm) hs.2.1 hs'.2.1 hs.2.2 hs'.2.2) rfl ?_)) rfl;rintro _ _ ⟨⟨rfl, q1⟩ | ⟨rfl, hq⟩, rfl⟩
 rotate_left
 ·refine vr 5 ?_;exact rt1 ⟨rfl, trivial⟩ ⟨.inr ⟨rfl, fun h => hq ⟨h.lf, h.f⟩⟩, rfl⟩
 refine vr 5 ?_;exact rt1 ⟨rfl, trivial⟩ ⟨.inl ⟨rfl, q0.1, q1.1, q0.2, q1.2⟩, rfl⟩
theorem Same8 (hC : CardsX m K a.cards) (hF : FmtsX m F a.fmts) (hC' : CardsX m K' b.cards) (hF' : FmtsX m F' b.fmts) (hs : FmL a) (hs' : FmL b) :
  CS Tryz.prog 8 [.agg (bk2 K a.cards.length kc F a.fmts.length fc).toArray, .agg (bk2 K' b.cards.length kc' F' b.fmts.length fc').toArray] m [] (SameV (sameB a b)) := by
 refine zl [.tmp 4] Tryz.func8 rfl rfl rfl ?_;refine tr 2 ?_;refine Bx 0 rfl fun b1 => ?_;refine Bx 5 rfl fun b2 => ?_;refine Lc 0 ag25 .h1 ?_;refine Lc 0 ag25 .here ?_;refine zE ((zW cl19 rfl (fun m' hm he => same9 (hC.mono hm) (hF.mono hm) (hC'.mono hm) (hF'.mono hm) hs hs') rfl ?_)) rfl;rintro _ _ ⟨⟨rfl, hq⟩ | ⟨rfl, hq⟩, rfl⟩
 ·refine vr 4 ?_;exact rt1 ⟨rfl, trivial⟩ ⟨.inl ⟨rfl, hq⟩, rfl⟩
 ·refine vr 4 ?_;exact rt1 ⟨rfl, trivial⟩ ⟨.inr ⟨rfl, hq⟩, rfl⟩
theorem Great5 (hC : CardsR m K a.cards.length a.cards) (hF : FmtsX m F a.fmts) (hs : FmL a) : CS Tryz.prog 5 [.agg (bk2 K a.cards.length kc F a.fmts.length fc).toArray] m [] (fun v L' => L' = [] ∧ ∃ r : Bool, v = .bool r) := by
 obtain ⟨hlc, hlf, hfb⟩ := hs;skip;refine zl [.tmp 2] Tryz.func5 rfl rfl rfl ?_;refine tr 2 ?_;refine Bx 4 rfl fun b1 => ?_;refine zw .here (fun ns hi _ hd1 => ?_);have hR : Rd (uni m ns) (some ⟨b1, 0, none⟩) (bk2 K a.cards.length kc F a.fmts.length fc) := (Rd.blk hi).mono (yU hd1);have hl2 : Le m (uni m ns) := yL _ _;clear hi hd1;generalize uni m ns = m9 at hR hl2
 have hc0 : mc m9 ⟨b1, 0, none⟩ = some (.slice K a.cards.length kc) := hR.at_ (i := 0) rfl;have hc1 : mc m9 ⟨b1, 1, none⟩ = some (.slice F a.fmts.length fc) := hR.at_ (i := 1) rfl;have hC := hC.mono hl2;obtain ⟨us, hrf, hul, hef⟩ := hF.mono hl2;refine tr 8 ?_;refine Lo 5 sg23 rfl hc1 ?_
 refine zZ (α := Nat × Int) (fun y => [(1, ptr b1), (3, .int .i64 y.2), (7, .int .i64 (a.fmts.length : Nat)), (8, .int .i64 (y.1 : Nat))]) (fun _ => []) (fun y => y.1 ≤ a.fmts.length) (fun y => a.fmts.length - y.1) (0, 0) ⟨rfl, rfl, rfl, rfl, trivial⟩ (Pick.nil _) (Nat.zero_le _) ?_;rintro ⟨i, z⟩ hi;dsimp only at hi;dsimp only;by_cases hlt : i < a.fmts.length
 ·have hA : F.isSome = true := hrf.isSome (by omega);have hat := hrf.elem (i * 7) 7;obtain ⟨q, e, -, -⟩ := hef i hlt;rw [e] at hat;obtain ⟨hlb, hls⟩ := hfb _ (List.getElem_mem hlt);have hc4 : mc m9 (((sa F).add (i * 7)).add 4) = some (.slice q.A a.fmts[i].banned.length q.ca) := hat 4 _ rfl;have hc5 : mc m9 (((sa F).add (i * 7)).add 5) = some (.slice q.B a.fmts[i].single.length q.cb) := hat 5 _ rfl
  refine tr 2 ?_;refine cto 14 ?_;refine Db (sq [0, 1, 2, 3, 4, 5, 6, 7, 8, 9, 10, 11, 12, 13, 14, 15, 16, 17, 18] .done) ?_;refine vB 2 ?_;refine Vr 1 rfl (zR sg23 rfl hc1) ?_;refine Vb 1 rfl (zC ez23 rfl rfl hA (by omega)) ?_;refine Vr 1 rfl (zR sg38 rfl hc4) ?_;refine Vb 1 rfl (zy rfl rfl (w64 (by omega) (by omega))) ?_;refine Vr 1 rfl (zR sg23 rfl hc1) ?_
  refine Vb 1 rfl (zC ez23 rfl rfl hA (by omega)) ?_;refine Vr 1 rfl (zR sg38 rfl hc5) ?_;refine Vb 0 rfl (zy rfl rfl (w64 (by omega) (by omega))) ?_;refine Vb 1 rfl ((zy rfl rfl rfl)) ?_;refine Vn 3 ?_;refine Pa 2 ?_;exact QR ((i + 1, _) : Nat × Int) (Pick.nil _) hlt (by dsimp only; omega)
 by_cases hz : z > 600
 ·refine tr 2 ?_;refine cfo 6 ?_;refine zG ?_;refine zF ?_;refine qt 4 ?_;refine cta 9 ?_;exact rt2 hl2 ⟨rfl, trivial⟩ ⟨rfl, _, rfl⟩
 ·refine tr 2 ?_;refine cfo 6 ?_;refine zG ?_;refine zF ?_;refine qt 4 ?_;refine cfa 2 ?_;refine Lo 0 sg22 rfl hc0 ?_;refine zE ((zW cl12 rfl (fun m' hm he => Great4 (hC.mono hm)) rfl ?_)) rfl;rintro _ _ ⟨rfl, r, rfl, -⟩;refine vr 5 ?_;exact rt2 hl2 ⟨rfl, trivial⟩ ⟨rfl, _, rfl⟩
end
end
section
open Wd Tp Kd
variable {m : Mp}
theorem find38 {cs : List Value} {x : CardT} {b : Nat} {s : List UInt8} (hx : CardX m cs x) (hb : At m ⟨b, 0, none⟩ [.string (bs s)]) : CS Tryz.prog 38 [.agg cs.toArray, ptr b] m [] (SameV (x.name = s)) := by
 have hb0 : mc m ⟨b, 0, none⟩ = some (.string (bs s)) := hb.at_ (o := 0) rfl;obtain ⟨q, rfl, -⟩ := hx;refine zl [.tmp 3] Tryz.func38 rfl rfl rfl ?_;by_cases g : x.name = s
 ·refine tr 2 ?_;refine Bx 6 rfl fun b1 => ?_;refine Lb 0 sg9 .here ?_;refine Lo 0 sg9 rfl hb0 ?_;refine cta 4 ?_;exact rt1 ⟨rfl, trivial⟩ ⟨.inl ⟨rfl, g⟩, rfl⟩
 ·refine tr 2 ?_;refine Bx 6 rfl fun b1 => ?_;refine Lb 0 sg9 .here ?_;refine Lo 0 sg9 rfl hb0 ?_;refine cfa 4 ?_;exact rt1 ⟨rfl, trivial⟩ ⟨.inr ⟨rfl, g⟩, rfl⟩
abbrev fnd38 (b : Nat) : Value := .func (.func 38) [].toArray [ptr b].toArray
def IdxCardT (l : List CardT) (s : List UInt8) : Value → List Ent → Prop := fun v L' => ((v = .int .i64 (-1) ∧ ∀ (j : Nat) (h : j < l.length), l[j].name ≠ s) ∨ ∃ (i : Nat) (h : i < l.length), v = .int .i64 (i : Nat) ∧ l[i].name = s) ∧ L' = []
theorem index65 {A : Option Addr} {c b : Nat} {l : List CardT} {s : List UInt8} (hC : CardsX m A l) (hl : l.length ≤ 140737488355328) (hb : At m ⟨b, 0, none⟩ [.string (bs s)]) : CS Tryz.prog 65 [.slice A l.length c, fnd38 b] m [] (IdxCardT l s) := by
 obtain ⟨vs, hrd, hvl, hel⟩ := hC;refine zl [.tmp 4] Tryz.func65 rfl rfl rfl ?_;refine tr 14 ?_
 refine zZ (α := Nat) (fun i => [(0, .slice A l.length c), (1, fnd38 b), (6, .slice A l.length c), (7, .int .i64 (l.length : Nat)), (8, .int .i64 (i : Nat))]) (fun _ => []) (fun i => i ≤ l.length ∧ ∀ (j : Nat) (h : j < l.length), j < i → l[j].name ≠ s) (fun i => l.length - i) 0 ⟨rfl, rfl, rfl, rfl, rfl, trivial⟩ (Pick.nil _) ⟨Nat.zero_le _, fun _ _ h => by cases h⟩ ?_;rintro i ⟨hi, hall⟩
 by_cases hlt : i < l.length
 ·have hA : A.isSome = true := hrd.isSome (by omega);have hat := hrd.elem (i * 12) 12;have hx := hel i hlt;have hx0 := hx;obtain ⟨q, e, -⟩ := hx;rw [e] at hat hx0;have hal := hall;clear hall;refine tr 2 ?_;refine cto 19 ?_;refine pe 0 (zC ez22 rfl rfl hA (by omega)) ?_;refine La 0 ag48 hat ?_
  refine zE ((yp (p := []) (q := [ptr b]) cl38 rfl rfl (fun m' hm he => find38 (hx0.mono hm) (hb.mono hm)) rfl ?_)) rfl;rintro _ _ ⟨⟨rfl, hq⟩ | ⟨rfl, hq⟩, rfl⟩
  ·refine vr 12 ?_;refine zI ?_;refine zH ?_;refine zL ?_;exact rt1 ⟨rfl, trivial⟩ ⟨.inr ⟨i, hlt, rfl, hq⟩, rfl⟩
  ·refine vr 7 ?_;refine Pa 2 ?_
   exact QR (i + 1) (Pick.nil _) ⟨hlt, fun j h hj => by
    by_cases hji : j < i
    ·exact hal j h hji
    ·obtain rfl : j = i := by omega
     exact hq⟩ (by omega)
 ·refine tr 2 ?_;refine cfo 6 ?_;refine zG ?_;refine zF ?_;refine qt 7 ?_;exact rt1 ⟨rfl, trivial⟩ ⟨.inl ⟨rfl, fun j h => hall j h (by omega)⟩, rfl⟩
def FirstCardT (m : Mp) (l : List CardT) (s : List UInt8) : Value → List Ent → Prop := fun v L' => ((v = tup [.agg [.string ByteArray.empty, .bool false, .int .i64 0, .int .i64 0, .int .i64 0, .int .i64 0, .int .i64 0, .int .i64 0, .slice none 0 0, .slice none 0 0, .slice none 0 0, .int .i64 0].toArray, .int .i64 0, .bool false] ∧ ∀ (j : Nat) (h : j < l.length), l[j].name ≠ s) ∨ ∃ (i : Nat) (h : i < l.length) (cs : List Value), v = tup [.agg cs.toArray, .int .i64 (i : Nat), .bool true] ∧ l[i].name = s ∧ CardX m cs l[i]) ∧ L' = []
theorem first37 {m0 : Mp} (hm0 : Le m0 m) {A : Option Addr} {c b : Nat} {l : List CardT} {s : List UInt8} (hC : CardsX m0 A l) (hl : l.length ≤ 140737488355328) (hb : At m ⟨b, 0, none⟩ [.string (bs s)]) : CS Tryz.prog 37 [.slice A l.length c, fnd38 b] m [] (FirstCardT m0 l s) := by
 have hC0 := hC;have hC := hC.mono hm0;refine zl [.cell 4 48, .tmp 5, .tmp 6] Tryz.func37 rfl rfl rfl ?_;refine tr 2 ?_;refine Al 8 zl48 fun b1 => ?_;refine zE ((zW cl65 rfl (fun m' hm he => index65 (hC.mono hm) hl (hb.mono hm)) rfl ?_)) rfl;rintro _ _ ⟨⟨rfl, hq⟩ | ⟨i, hlt, rfl, hq⟩, rfl⟩
 ·refine vr 7 ?_;refine cto 5 ?_;refine Lc 0 ag48 .here ?_;refine Sg 6 ag48 .here ?_;exact zb [_, _, _] ⟨⟨b1, _, _, _, rfl, .here, .inr ⟨rfl, rfl⟩⟩, rfl, rfl, trivial⟩ [] (Pick.nil _) ⟨.inl ⟨rfl, hq⟩, rfl⟩
 ·obtain ⟨vs, hrd, hvl, hel⟩ := hC0;have hA : A.isSome = true := hrd.isSome (by omega);have hat := (hrd.elem (i * 12) 12).mono hm0;have hx := hel i hlt;have hx1 := hx;obtain ⟨q, e, -⟩ := hx;rw [e] at hat hx1;refine vr 7 ?_;refine cfo 9 ?_;refine pe 0 (zC ez22 rfl rfl hA (by omega)) ?_;refine La 1 ag48 hat ?_;refine Sg 5 ag48 .here ?_
  exact zb [_, _, _] ⟨⟨b1, _, _, _, rfl, .here, .inr ⟨rfl, rfl⟩⟩, rfl, rfl, trivial⟩ [] (Pick.nil _) ⟨.inr ⟨i, hlt, _, rfl, hq, hx1⟩, rfl⟩
theorem find40 {cs : List Value} {x : FmtT} {b : Nat} {s : List UInt8} (hx : FmtX m cs x) (hb : At m ⟨b, 0, none⟩ [.string (bs s)]) : CS Tryz.prog 40 [.agg cs.toArray, ptr b] m [] (SameV (x.name = s)) := by
 have hb0 : mc m ⟨b, 0, none⟩ = some (.string (bs s)) := hb.at_ (o := 0) rfl;obtain ⟨q, rfl, -⟩ := hx;refine zl [.tmp 3] Tryz.func40 rfl rfl rfl ?_;by_cases g : x.name = s
 ·refine tr 2 ?_;refine Bx 6 rfl fun b1 => ?_;refine Lb 0 sg9 .here ?_;refine Lo 0 sg9 rfl hb0 ?_;refine cta 4 ?_;exact rt1 ⟨rfl, trivial⟩ ⟨.inl ⟨rfl, g⟩, rfl⟩
 ·refine tr 2 ?_;refine Bx 6 rfl fun b1 => ?_;refine Lb 0 sg9 .here ?_;refine Lo 0 sg9 rfl hb0 ?_;refine cfa 4 ?_;exact rt1 ⟨rfl, trivial⟩ ⟨.inr ⟨rfl, g⟩, rfl⟩
abbrev fnd40 (b : Nat) : Value := .func (.func 40) [].toArray [ptr b].toArray
def IdxFmtT (l : List FmtT) (s : List UInt8) : Value → List Ent → Prop := fun v L' => ((v = .int .i64 (-1) ∧ ∀ (j : Nat) (h : j < l.length), l[j].name ≠ s) ∨ ∃ (i : Nat) (h : i < l.length), v = .int .i64 (i : Nat) ∧ l[i].name = s) ∧ L' = []
theorem index66 {A : Option Addr} {c b : Nat} {l : List FmtT} {s : List UInt8} (hC : FmtsX m A l) (hl : l.length ≤ 140737488355328) (hb : At m ⟨b, 0, none⟩ [.string (bs s)]) : CS Tryz.prog 66 [.slice A l.length c, fnd40 b] m [] (IdxFmtT l s) := by
 obtain ⟨vs, hrd, hvl, hel⟩ := hC;refine zl [.tmp 4] Tryz.func66 rfl rfl rfl ?_;refine tr 14 ?_
 refine zZ (α := Nat) (fun i => [(0, .slice A l.length c), (1, fnd40 b), (6, .slice A l.length c), (7, .int .i64 (l.length : Nat)), (8, .int .i64 (i : Nat))]) (fun _ => []) (fun i => i ≤ l.length ∧ ∀ (j : Nat) (h : j < l.length), j < i → l[j].name ≠ s) (fun i => l.length - i) 0 ⟨rfl, rfl, rfl, rfl, rfl, trivial⟩ (Pick.nil _) ⟨Nat.zero_le _, fun _ _ h => by cases h⟩ ?_;rintro i ⟨hi, hall⟩
 by_cases hlt : i < l.length
 ·have hA : A.isSome = true := hrd.isSome (by omega);have hat := hrd.elem (i * 7) 7;have hx := hel i hlt;have hx0 := hx;obtain ⟨q, e, -⟩ := hx;rw [e] at hat hx0;have hal := hall;clear hall;refine tr 2 ?_;refine cto 19 ?_;refine pe 0 (zC ez23 rfl rfl hA (by omega)) ?_;refine La 0 ag40 hat ?_
  refine zE ((yp (p := []) (q := [ptr b]) cl40 rfl rfl (fun m' hm he => find40 (hx0.mono hm) (hb.mono hm)) rfl ?_)) rfl;rintro _ _ ⟨⟨rfl, hq⟩ | ⟨rfl, hq⟩, rfl⟩
  ·refine vr 12 ?_;refine zI ?_;refine zH ?_;refine zL ?_;exact rt1 ⟨rfl, trivial⟩ ⟨.inr ⟨i, hlt, rfl, hq⟩, rfl⟩
  ·refine vr 7 ?_;refine Pa 2 ?_
   exact QR (i + 1) (Pick.nil _) ⟨hlt, fun j h hj => by
    by_cases hji : j < i
    ·exact hal j h hji
    ·obtain rfl : j = i := by omega
     exact hq⟩ (by omega)
 ·refine tr 2 ?_;refine cfo 6 ?_;refine zG ?_;refine zF ?_;refine qt 7 ?_;exact rt1 ⟨rfl, trivial⟩ ⟨.inl ⟨rfl, fun j h => hall j h (by omega)⟩, rfl⟩
def FirstFmtT (m : Mp) (l : List FmtT) (s : List UInt8) : Value → List Ent → Prop := fun v L' => ((v = tup [.agg [.string ByteArray.empty, .int .i64 0, .int .i64 0, .int .i64 0, .slice none 0 0, .slice none 0 0, .int .i64 0].toArray, .int .i64 0, .bool false] ∧ ∀ (j : Nat) (h : j < l.length), l[j].name ≠ s) ∨ ∃ (i : Nat) (h : i < l.length) (cs : List Value), v = tup [.agg cs.toArray, .int .i64 (i : Nat), .bool true] ∧ l[i].name = s ∧ FmtX m cs l[i]) ∧ L' = []
theorem first39 {m0 : Mp} (hm0 : Le m0 m) {A : Option Addr} {c b : Nat} {l : List FmtT} {s : List UInt8} (hC : FmtsX m0 A l) (hl : l.length ≤ 140737488355328) (hb : At m ⟨b, 0, none⟩ [.string (bs s)]) : CS Tryz.prog 39 [.slice A l.length c, fnd40 b] m [] (FirstFmtT m0 l s) := by
 have hC0 := hC;have hC := hC.mono hm0;refine zl [.cell 4 40, .tmp 5, .tmp 6] Tryz.func39 rfl rfl rfl ?_;refine tr 2 ?_;refine Al 8 zl40 fun b1 => ?_;refine zE ((zW cl66 rfl (fun m' hm he => index66 (hC.mono hm) hl (hb.mono hm)) rfl ?_)) rfl;rintro _ _ ⟨⟨rfl, hq⟩ | ⟨i, hlt, rfl, hq⟩, rfl⟩
 ·refine vr 7 ?_;refine cto 5 ?_;refine Lc 0 ag40 .here ?_;refine Sg 6 ag40 .here ?_;exact zb [_, _, _] ⟨⟨b1, _, _, _, rfl, .here, .inr ⟨rfl, rfl⟩⟩, rfl, rfl, trivial⟩ [] (Pick.nil _) ⟨.inl ⟨rfl, hq⟩, rfl⟩
 ·obtain ⟨vs, hrd, hvl, hel⟩ := hC0;have hA : A.isSome = true := hrd.isSome (by omega);have hat := (hrd.elem (i * 7) 7).mono hm0;have hx := hel i hlt;have hx1 := hx;obtain ⟨q, e, -⟩ := hx;rw [e] at hat hx1;refine vr 7 ?_;refine cfo 9 ?_;refine pe 0 (zC ez23 rfl rfl hA (by omega)) ?_;refine La 1 ag40 hat ?_;refine Sg 5 ag40 .here ?_
  exact zb [_, _, _] ⟨⟨b1, _, _, _, rfl, .here, .inr ⟨rfl, rfl⟩⟩, rfl, rfl, trivial⟩ [] (Pick.nil _) ⟨.inr ⟨i, hlt, _, rfl, hq, hx1⟩, rfl⟩
def FindV (l : List CardT) (s : List UInt8) : Value → List Ent → Prop := fun v L' => ((v = tup [.int .i64 0, .bool false] ∧ ∀ (j : Nat) (h : j < l.length), l[j].name ≠ s) ∨ ∃ (i : Nat) (h : i < l.length), v = tup [.int .i64 (i : Nat), .bool true] ∧ l[i].name = s) ∧ L' = []
theorem Find13 {K F : Option Addr} {kc fc : Nat} {b : BkT} {s : List UInt8} (hC : CardsX m K b.cards) (hl : b.cards.length ≤ 140737488355328) : CS Tryz.prog 13 [.agg (bk2 K b.cards.length kc F b.fmts.length fc).toArray, .string (bs s)] m [] (FindV b.cards s) := by
 refine zl [.tmp 4, .tmp 5] Tryz.func13 rfl rfl rfl ?_;refine tr 2 ?_;refine Bx 0 rfl fun b1 => ?_;refine Bx 7 rfl fun b2 => ?_;refine Lb 1 sg22 .h1 ?_;refine zE ((zW cl37 rfl (fun m' hm he => first37 hm hC hl (At.blk (he _ (.head _)))) rfl ?_)) rfl;rintro _ _ ⟨⟨rfl, hq⟩ | ⟨i, hlt, cs, rfl, hq, hx⟩, rfl⟩
 ·refine vr 4 ?_;refine Al 0 zl48 fun b3 => ?_;refine Sg 13 ag48 .here ?_;exact zb [_, _] ⟨rfl, rfl, trivial⟩ [] (Pick.nil _) ⟨.inl ⟨rfl, hq⟩, rfl⟩
 ·obtain ⟨q, rfl, -⟩ := hx;refine vr 4 ?_;refine Al 0 zl48 fun b3 => ?_;refine Sg 13 ag48 .here ?_;exact zb [_, _] ⟨rfl, rfl, trivial⟩ [] (Pick.nil _) ⟨.inr ⟨i, hlt, rfl, hq⟩, rfl⟩
end
section
open Wd Tp Kd
variable {m : Mp}
theorem Clone41 {A : Option Addr} {c : Nat} {l : List (List UInt8)} (hA : RdN m A c l) (hl : l.length ≤ 1000000000) : CS Tryz.prog 41 [.slice A l.length c] m [] (fun v L' => (∃ A' n' c', v = .slice A' n' c') ∧ L' = []) := by
 have hr := hA.1;refine zl [.tmp 2] Tryz.func41 rfl rfl rfl ?_;cases A with
 | none =>
   refine tr 9 ?_;refine pe 10 ((Yk il38 rfl)) ?_;exact rt1 ⟨rfl, trivial⟩ ⟨⟨_, _, _, rfl⟩, rfl⟩
 | some a =>
   refine tr 9 ?_;refine pe 7 ((Yk il38 rfl)) ?_;refine Bs 1 sl38 fun b1 => ?_;refine XL (cs := []) (k := 0) (e := 9) (sz := 1) .here rfl (by decide) ?_
   refine zE (jz (A2 := some a) (j := l.length) (c2 := c) (news := l.map strV) sl38 rfl rfl rfl rfl (fun _ _ => .here) (fun h hs => hr.mono hs.base) (by simp) (fun u hu => by obtain ⟨s, -, rfl⟩ := List.mem_map.1 hu; rfl) (by simp only [maxLen]; omega) (by omega) rfl (fun A1 c1 => ?_)) rfl;refine vr 4 ?_;exact rt1 ⟨rfl, trivial⟩ ⟨⟨_, _, _, rfl⟩, rfl⟩
def FmtV (l : List FmtT) (s : List UInt8) : Value → List Ent → Prop := fun v L' => ((∃ cs, v = tup [.agg cs, .bool false] ∧ ∀ (j : Nat) (h : j < l.length), l[j].name ≠ s) ∨ ∃ (f : FmtT) (q : FmtC) (n1 n2 : Nat), f ∈ l ∧ f.name = s ∧ v = tup [.agg [.string (bs f.name), .int .i64 f.least, .int .i64 f.most, .int .i64 f.copies, .slice q.A n1 q.ca, .slice q.B n2 q.cb, .int .i64 f.at_].toArray, .bool true]) ∧ L' = []
theorem Format14 {K F : Option Addr} {kc fc : Nat} {b : BkT} {s : List UInt8} (hF : FmtsX m F b.fmts) (hl : b.fmts.length ≤ 140737488355328) (hb : ∀ f ∈ b.fmts, f.banned.length ≤ 1000000000 ∧ f.single.length ≤ 1000000000) : CS Tryz.prog 14 [.agg (bk2 K b.cards.length kc F b.fmts.length fc).toArray, .string (bs s)] m [] (FmtV b.fmts s) := by
 skip;refine zl [.cell 4 40, .tmp 5] Tryz.func14 rfl rfl rfl ?_;refine tr 2 ?_;refine Bx 0 rfl fun b1 => ?_;refine Bx 0 rfl fun b2 => ?_;refine Al 6 zl40 fun b3 => ?_;refine Lb 1 sg23 .h2 ?_;refine zE ((zW cl39 rfl (fun m' hm he => first39 hm hF hl (At.blk (he _ (.tail _ (.head _))))) rfl ?_)) rfl;rintro _ _ ⟨⟨rfl, hq⟩ | ⟨i, hlt, cs, rfl, hq, hx⟩, rfl⟩
 ·obtain ⟨f, q, hz, hB, hS, hlb, hls⟩ : ∃ (f : FmtT) (q : FmtC), ([.string ByteArray.empty, .int .i64 0, .int .i64 0, .int .i64 0, .slice none 0 0, .slice none 0 0, .int .i64 0] : List Value) = q.v f ∧ (∀ m, RdN m q.A q.ca f.banned) ∧ (∀ m, RdN m q.B q.cb f.single) ∧ f.banned.length ≤ 1000000000 ∧ f.single.length ≤ 1000000000 :=
   ⟨⟨[], 0, 0, 0, [], [], 0⟩, ⟨none, 0, none, 0⟩, rfl, fun m => RdN.z m, fun m => RdN.z m, Nat.zero_le _, Nat.zero_le _⟩
  rw [hz];clear hz;refine vr 4 ?_;refine Al 0 zl40 fun b4 => ?_;refine Sg 5 ag40 .here ?_;refine zc (sT [0, 3, 101, 104, 202, 6, 205, 307, 8, 309] .done) mixed (by kernel_rfl) (fun _ _ _ _ hq => hq) ?_;refine vt 2 ?_;refine Vl 0 rfl sg38 .here ?_;refine Vl 0 rfl sg38 .here ?_;refine zn rfl ((zW cl41 rfl (fun m' hm he => Clone41 (hB m') hlb) rfl ?_)) rfl
  rintro _ _ ⟨⟨A1, n1, c1, rfl⟩, rfl⟩;refine vt 1 ?_;refine zn rfl ((zW cl41 rfl (fun m' hm he => Clone41 (hS m') hls) rfl ?_)) rfl;rintro _ _ ⟨⟨A2, n2, c2, rfl⟩, rfl⟩;refine zS rfl rfl (yd co38 rfl rfl rfl .here .h4 ?_) rfl;refine vt 1 ?_;refine zS rfl rfl (yd co38 rfl rfl rfl .here .h5 ?_) rfl;refine Vm 3 ?_;refine Lc 1 ag40 .here ?_;refine Sg 4 ag40 .h1 ?_
  exact zb [_, _] ⟨⟨b3, _, _, _, rfl, .h1, .inr ⟨rfl, rfl⟩⟩, rfl, trivial⟩ [] (Pick.nil _) ⟨.inl ⟨_, rfl, hq⟩, rfl⟩
 ·obtain ⟨q, rfl, hB, hS⟩ := hx;have hmem := List.getElem_mem hlt;obtain ⟨hlb, hls⟩ := hb _ hmem;generalize b.fmts[i] = f at hq hB hS hmem hlb hls;refine vr 4 ?_;refine Al 0 zl40 fun b4 => ?_;refine Sg 5 ag40 .here ?_;refine zc (sT [0, 3, 101, 104, 202, 6, 205, 307, 8, 309] .done) mixed (by kernel_rfl) (fun _ _ _ _ hq => hq) ?_;refine vt 2 ?_;refine Vl 0 rfl sg38 .here ?_
  refine Vl 0 rfl sg38 .here ?_;refine zn rfl ((zW cl41 rfl (fun m' hm he => Clone41 (hB.mono hm) hlb) rfl ?_)) rfl;rintro _ _ ⟨⟨A1, n1, c1, rfl⟩, rfl⟩;refine vt 1 ?_;refine zn rfl ((zW cl41 rfl (fun m' hm he => Clone41 (hS.mono hm) hls) rfl ?_)) rfl;rintro _ _ ⟨⟨A2, n2, c2, rfl⟩, rfl⟩;refine zS rfl rfl (yd co38 rfl rfl rfl .here .h4 ?_) rfl;refine vt 1 ?_
  refine zS rfl rfl (yd co38 rfl rfl rfl .here .h5 ?_) rfl;refine Vm 3 ?_;refine Lc 1 ag40 .here ?_;refine Sg 4 ag40 .h1 ?_;exact zb [_, _] ⟨⟨b3, _, _, _, rfl, .h1, .inr ⟨rfl, rfl⟩⟩, rfl, trivial⟩ [] (Pick.nil _) ⟨.inr ⟨f, ⟨A1, c1, A2, c2⟩, n1, n2, hmem, hq, rfl⟩, rfl⟩
end
section
open Wd Tp Kd
variable {m : Mp}
def addK (acc : List (List UInt8)) (s : List UInt8) : List (List UInt8) := if s ∈ acc then acc else acc ++ [s]
def onceOf (l : List (List UInt8)) : List (List UInt8) := l.foldl addK []
theorem ZI (l : List (List UInt8)) (s : List UInt8) : onceOf (l ++ [s]) = addK (onceOf l) s := by simp [onceOf]
theorem Xz {acc : List (List UInt8)} {s t : List UInt8} : t ∈ addK acc s ↔ t ∈ acc ∨ t = s := by
 unfold addK
 split
 ·rename_i h
  exact ⟨.inl, fun h2 => h2.elim id fun e => e ▸ h⟩
 ·simp
theorem jk : ∀ (l acc : List (List UInt8)) (t : List UInt8), t ∈ l.foldl addK acc ↔ t ∈ acc ∨ t ∈ l
 | [], acc, t => by simp
 | s :: r, acc, t => by rw [List.foldl_cons, jk r, Xz, List.mem_cons, or_assoc]
theorem Z5 (l : List (List UInt8)) (t : List UInt8) : t ∈ onceOf l ↔ t ∈ l := by simp [onceOf, jk]
theorem Xo {es : List (List UInt8 × Value)} {k : List UInt8} {v : Value} (h : getM es k = some v) : putM es k v = es := by
 unfold getM at h;unfold putM;cases hf : findM k 0 es with
 | none => rw [hf] at h; cases h
 | some p =>
   obtain ⟨j, w⟩ := p;rw [hf] at h;obtain rfl : w = v := by simpa using h
   have h2 := (jK hf).2;rw [Nat.sub_zero] at h2;obtain ⟨hj, h3⟩ := List.getElem?_eq_some_iff.1 h2;dsimp only;rw [← h3, List.set_getElem_self]
theorem Xq (acc : List (List UInt8)) (s : List UInt8) : putM (entK acc) s (.bool true) = entK (addK acc s) := by
 unfold addK
 split
 ·rename_i h
  refine Xo ?_;obtain ⟨j, hj⟩ := wx acc 0 h
  simp [getM, hj]
 ·rename_i h
  exact qw h
def namesOk (cs : List CardT) (l : List (List UInt8)) : Prop := (∀ s ∈ l, s ∈ namesC cs) ∧ l.Nodup
def fmtBase (i : Nat) (seen : List (List UInt8)) (f : FmtT) : Prop := i < 240 ∧ nameP f.name = true ∧ f.name ∉ seen ∧ 0 ≤ f.least ∧ f.least ≤ f.most ∧ f.most ≤ 60 ∧ 0 ≤ f.copies ∧ f.copies ≤ 999
def fmtOk (cs : List CardT) (i : Nat) (seen : List (List UInt8)) (f : FmtT) : Prop := fmtBase i seen f ∧ namesOk cs f.banned ∧ namesOk cs f.single
def seenF (l : List FmtT) (i : Nat) : List (List UInt8) := (l.take i).map (·.name)
theorem Zz {l : List FmtT} {i : Nat} (h : i < l.length) : seenF l (i + 1) = seenF l i ++ [l[i].name] := by
 unfold seenF;rw [List.take_add_one, List.getElem?_eq_getElem h, List.map_append]
 rfl
def FmtsPost (b : BkT) (e a : Int) : Prop := (e = 0 ∧ a = 0 ∧ ∀ (i : Nat) (h : i < b.fmts.length), fmtOk b.cards i (seenF b.fmts i) b.fmts[i]) ∨
 ∃ (i : Nat) (h : i < b.fmts.length), (∀ (j : Nat) (hj : j < i), fmtOk b.cards j (seenF b.fmts j) b.fmts[j]) ∧ ¬ fmtOk b.cards i (seenF b.fmts i) b.fmts[i] ∧ e = 151 ∧ a = b.fmts[i].at_
theorem jB {cs : List CardT} {s : List UInt8} : s ∈ namesC cs ↔ ∃ (i : Nat) (h : i < cs.length), cs[i].name = s := by
 unfold namesC;rw [List.mem_map]
 constructor
 ·rintro ⟨c, hc, rfl⟩;obtain ⟨i, hi, rfl⟩ := List.getElem_of_mem hc;exact ⟨i, hi, rfl⟩
 ·rintro ⟨i, hi, rfl⟩;exact ⟨_, List.getElem_mem hi, rfl⟩
theorem Z4 {l : List (List UInt8)} {s : List UInt8} : (l ++ [s]).Nodup ↔ l.Nodup ∧ s ∉ l := by
 rw [List.nodup_append]
 simp
 intro _
 constructor
 ·intro h hs;exact h s hs rfl
 ·intro h a ha e;exact h (e ▸ ha)
theorem formats26 {K F : Option Addr} {kc fc : Nat} {b : BkT} (hT : Tabs m) (hC : CardsX m K b.cards) (hF : FmtsX m F b.fmts) (hs : FmL b) (hn : ∀ f ∈ b.fmts, f.name.length ≤ 140737488355328) :
  CS Tryz.prog 26 [.agg (bk2 K b.cards.length kc F b.fmts.length fc).toArray] m [] (fun v L' => L' = [] ∧ ∃ e a, v = faultV e a ∧ FmtsPost b e a) := by
 obtain ⟨hlc, hlf, hfb⟩ := hs;refine zl [.cell 2 31] Tryz.func26 rfl rfl rfl ?_;refine tr 2 ?_;refine Bx 0 rfl fun b1 => ?_;refine Al 3 zl31 fun b2 => ?_;refine zw .h1 (fun ns hi _ hd1 => ?_);have hR : Rd (uni m ns) (some ⟨b1, 0, none⟩) (bk2 K b.cards.length kc F b.fmts.length fc) := (Rd.blk hi).mono (yU hd1);have hl2 : Le m (uni m ns) := yL _ _;clear hi hd1
 generalize uni m ns = m9 at hR hl2;have hT := hT.mono hl2;have hC := hC.mono hl2;have hF := hF.mono hl2;have hb1 : mc m9 ⟨b1, 1, none⟩ = some (.slice F b.fmts.length fc) := hR.at_ (i := 1) rfl;have hbk : At m9 ⟨b1, 0, none⟩ (bk2 K b.cards.length kc F b.fmts.length fc) := fun i u hi => hR.at_ hi;clear hR;obtain ⟨us, hrf, hul, hef⟩ := hF;refine tr 1 ?_
 refine zE (xC rfl (fun b3 => ?_)) rfl;refine vr 7 ?_;refine Lo 5 sg23 rfl hb1 ?_
 refine zZ (α := Nat) (fun i => [(1, ptr b1), (2, ptr b2), (3, .map (some b3)), (16, .slice F b.fmts.length fc), (17, .int .i64 (b.fmts.length : Nat)), (18, .int .i64 (i : Nat))]) (fun i => [smap b3 (entK (seenF b.fmts i)), cel b2 [.int .i64 0, .int .i64 0] 31]) (fun i => i ≤ b.fmts.length ∧ ∀ (j : Nat) (h : j < b.fmts.length), j < i → fmtOk b.cards j (seenF b.fmts j) b.fmts[j]) (fun i => b.fmts.length - i) 0 ⟨rfl, rfl, rfl, rfl, rfl, rfl, trivial⟩ (Pick.refl _) ⟨Nat.zero_le _, fun _ _ h => by cases h⟩ ?_
 rintro i ⟨hi, hall⟩
 try dsimp only at hi hall
 try dsimp only
 by_cases hlt : i < b.fmts.length
 rotate_left
 ·refine tr 2 ?_;refine cfo 6 ?_;refine zG ?_;refine zF ?_;refine qt 3 ?_;refine pe 0 (zT zl31 pl31 rfl rfl) ?_;refine Sg 3 ag31 .h1 ?_;exact kn hl2 [_] ⟨⟨b2, _, _, _, rfl, .h1, .inr ⟨rfl, rfl⟩⟩, trivial⟩ [] (Pick.nil _) ⟨rfl, 0, 0, rfl, .inl ⟨rfl, rfl, fun j h => hall j h (by omega)⟩⟩
 have hA : F.isSome = true := hrf.isSome (by omega);have hat := hrf.elem (i * 7) 7;obtain ⟨q, e, hB, hS⟩ := hef i hlt;rw [e] at hat;clear e;have hnl := hn _ (List.getElem_mem hlt);obtain ⟨hlb, hls⟩ := hfb _ (List.getElem_mem hlt);have hend : ¬ fmtOk b.cards i (seenF b.fmts i) b.fmts[i] → FmtsPost b 151 b.fmts[i].at_ := fun h => .inr ⟨i, hlt, fun j hj => hall j (by omega) hj, h, rfl, rfl⟩
 have hnext : fmtOk b.cards i (seenF b.fmts i) b.fmts[i] → ∀ (j : Nat) (h : j < b.fmts.length), j < i + 1 → fmtOk b.cards j (seenF b.fmts j) b.fmts[j] := fun h2 j h hj => by
  by_cases hji : j < i
  ·exact hall j h hji
  ·obtain rfl : j = i := by omega
   exact h2
 have hst := Zz hlt;generalize b.fmts[i] = f at hat hB hS hnl hlb hls hend hnext hst;generalize hsn' : seenF b.fmts (i + 1) = sn' at hst;generalize seenF b.fmts i = sn at hst hend hnext ⊢;clear hall;refine tr 2 ?_;refine cto 11 ?_;refine pe 0 (zC ez23 rfl rfl hA (by omega)) ?_;refine La 0 ag40 hat ?_;refine Al 1 zl40 fun b4 => ?_;refine Sg 3 ag40 .here ?_
 refine zw .here (fun ns hi _ hd1 => ?_);have hR : Rd (uni m9 ns) (some ⟨b4, 0, none⟩) (q.v f) := (Rd.blk hi).mono (yU hd1);have hl3 : Le m9 (uni m9 ns) := yL _ _;clear hi hd1;generalize uni m9 ns = m8 at hR hl3;have hT := hT.mono hl3;have hC := hC.mono hl3;have hB := hB.mono hl3;have hS := hS.mono hl3;have hbk := hbk.mono hl3
 have hq0 : mc m8 ⟨b4, 0, none⟩ = some (.string (bs f.name)) := hR.at_ (i := 0) rfl;have hq1 : mc m8 ⟨b4, 1, none⟩ = some (.int .i64 f.least) := hR.at_ (i := 1) rfl;have hq2 : mc m8 ⟨b4, 2, none⟩ = some (.int .i64 f.most) := hR.at_ (i := 2) rfl;have hq3 : mc m8 ⟨b4, 3, none⟩ = some (.int .i64 f.copies) := hR.at_ (i := 3) rfl
 have hq4 : mc m8 ⟨b4, 4, none⟩ = some (.slice q.A f.banned.length q.ca) := hR.at_ (i := 4) rfl;have hq5 : mc m8 ⟨b4, 5, none⟩ = some (.slice q.B f.single.length q.cb) := hR.at_ (i := 5) rfl;have hq6 : mc m8 ⟨b4, 6, none⟩ = some (.int .i64 f.at_) := hR.at_ (i := 6) rfl;clear hR
 refine vS (α := Bool) (fun p => [(1, ptr b1), (2, ptr b2), (3, .map (some b3)), (5, ptr b4), (6, .bool p), (16, .slice F b.fmts.length fc), (17, .int .i64 (b.fmts.length : Nat)), (18, .int .i64 (i : Nat))]) (fun _ => [smap b3 (entK sn), cel b2 [.int .i64 0, .int .i64 0] 31]) (fun p => p = true ↔ fmtBase i sn f) ?_ ?_
 ·by_cases g0 : i < 240
  rotate_left
  ·refine tr 2 ?_;refine cfo 41 ?_;exact QR false (Pick.refl _) (iff_of_false Bool.false_ne_true fun h => g0 h.1) (by decide)
  refine tr 2 ?_;refine cto 2 ?_;refine Lo 0 sg9 rfl hq0 ?_;refine Cr cl56 rfl (fun m' hm he => (Ym (hT.mono hm) hnl)) ?_;rintro _ rfl;cases g1 : nameP f.name with
  | false =>
    refine vr 37 ?_;exact QR false (Pick.refl _) (iff_of_false Bool.false_ne_true fun h => by rw [h.2.1] at g1; cases g1) (by decide)
  | true =>
  have hgu := jH sn f.name;refine vr 4 ?_;refine Lo 0 sg9 rfl hq0 ?_;refine lr 0 (wn ms105 rfl rfl .here mz105) ?_;rw [hgu];by_cases g2 : f.name ∈ sn
  ·rw [decide_eq_true g2];refine vr 31 ?_;exact QR false (Pick.refl _) (iff_of_false Bool.false_ne_true fun h => h.2.2.1 g2) (by decide)
  rw [decide_eq_false g2];by_cases g3 : 0 ≤ f.least
  rotate_left
  ·refine vr 4 ?_;refine Lo 0 sg3 rfl hq1 ?_;refine cfa 25 ?_;exact QR false (Pick.refl _) (iff_of_false Bool.false_ne_true fun h => g3 h.2.2.2.1) (by decide)
  by_cases g4 : f.least ≤ f.most
  rotate_left
  ·refine vr 4 ?_;refine Lo 0 sg3 rfl hq1 ?_;refine cta 3 ?_;refine Lo 1 sg3 rfl hq1 ?_;refine Lo 0 sg3 rfl hq2 ?_;refine cfa 18 ?_;exact QR false (Pick.refl _) (iff_of_false Bool.false_ne_true fun h => g4 h.2.2.2.2.1) (by decide)
  by_cases g5 : f.most ≤ 60
  rotate_left
  ·refine vr 4 ?_;refine Lo 0 sg3 rfl hq1 ?_;refine cta 3 ?_;refine Lo 1 sg3 rfl hq1 ?_;refine Lo 0 sg3 rfl hq2 ?_;refine cta 3 ?_;refine Lo 0 sg3 rfl hq2 ?_;refine cfa 13 ?_;exact QR false (Pick.refl _) (iff_of_false Bool.false_ne_true fun h => g5 h.2.2.2.2.2.1) (by decide)
  by_cases g6 : 0 ≤ f.copies
  rotate_left
  ·refine vr 4 ?_;refine Lo 0 sg3 rfl hq1 ?_;refine cta 3 ?_;refine Lo 1 sg3 rfl hq1 ?_;refine Lo 0 sg3 rfl hq2 ?_;refine cta 3 ?_;refine Lo 0 sg3 rfl hq2 ?_;refine cta 3 ?_;refine Lo 0 sg3 rfl hq3 ?_;refine cfa 8 ?_;exact QR false (Pick.refl _) (iff_of_false Bool.false_ne_true fun h => g6 h.2.2.2.2.2.2.1) (by decide)
  by_cases g7 : f.copies ≤ 999
  rotate_left
  ·refine vr 4 ?_;refine Lo 0 sg3 rfl hq1 ?_;refine cta 3 ?_;refine Lo 1 sg3 rfl hq1 ?_;refine Lo 0 sg3 rfl hq2 ?_;refine cta 3 ?_;refine Lo 0 sg3 rfl hq2 ?_;refine cta 3 ?_;refine Lo 0 sg3 rfl hq3 ?_;refine cta 3 ?_;refine Lo 0 sg3 rfl hq3 ?_;refine cfa 3 ?_;exact QR false (Pick.refl _) (iff_of_false Bool.false_ne_true fun h => g7 h.2.2.2.2.2.2.2) (by decide)
  refine vr 4 ?_;refine Lo 0 sg3 rfl hq1 ?_;refine cta 3 ?_;refine Lo 1 sg3 rfl hq1 ?_;refine Lo 0 sg3 rfl hq2 ?_;refine cta 3 ?_;refine Lo 0 sg3 rfl hq2 ?_;refine cta 3 ?_;refine Lo 0 sg3 rfl hq3 ?_;refine cta 3 ?_;refine Lo 0 sg3 rfl hq3 ?_;refine cta 3 ?_;exact QR true (Pick.refl _) (iff_of_true rfl ⟨g0, g1, g2, g3, g4, g5, g6, g7⟩) (by decide)
 intro p hp
 try dsimp only
 generalize hbase : fmtBase i sn f = base at hp;refine tr 4 ?_;refine Lo 1 sg38 rfl hq4 ?_;refine Lo 0 sg38 rfl hq5 ?_;refine pe 4 (yr ar113 zl113 rfl rfl) ?_
 refine zZ (α := Nat × Bool) (fun y => [(1, ptr b1), (2, ptr b2), (3, .map (some b3)), (5, ptr b4), (6, .bool y.2), (16, .slice F b.fmts.length fc), (17, .int .i64 (b.fmts.length : Nat)), (18, .int .i64 (i : Nat)), (68, .agg [.slice q.A f.banned.length q.ca, .slice q.B f.single.length q.cb].toArray), (69, .int .i64 (y.1 : Nat))]) (fun _ => [smap b3 (entK sn), cel b2 [.int .i64 0, .int .i64 0] 31]) (fun y => y.1 ≤ 2 ∧ (y.2 = true ↔ base ∧ (0 < y.1 → namesOk b.cards f.banned) ∧ (1 < y.1 → namesOk b.cards f.single))) (fun y => 2 - y.1) (0, p) ⟨rfl, rfl, rfl, rfl, rfl, rfl, rfl, rfl, rfl, rfl, trivial⟩ (Pick.refl _) ⟨Nat.zero_le _, hp.trans ⟨fun h => ⟨h, fun h => (by cases h), fun h => (by cases h)⟩, fun h => h.1⟩⟩ ?_
 clear hp p;rintro ⟨j, p⟩ ⟨hj, hp⟩;dsimp only at hj hp;dsimp only;by_cases hj2 : j < 2
 rotate_left
 ·obtain rfl : j = 2 := by omega
  have hp2 : p = true ↔ fmtOk b.cards i sn f := hp.trans ⟨fun h => ⟨by rw [hbase]; exact h.1, h.2.1 (by decide), h.2.2 (by decide)⟩, fun h => ⟨by rw [← hbase]; exact h.1, fun _ => h.2.1, fun _ => h.2.2⟩⟩;cases p with
  | false =>
    have hend := hend fun h => absurd (hp2.2 h) (by decide);refine tr 2 ?_;refine cfo 6 ?_;refine zG ?_;refine zF ?_;refine qt 12 ?_;refine Lo 0 sg3 rfl hq6 ?_;refine pe 0 (zT zl31 pl31 rfl rfl) ?_;refine Sg 6 ag31 .h1 ?_;exact kn (hl2.trans hl3) [_] ⟨⟨b2, _, _, _, rfl, .h1, .inr ⟨rfl, rfl⟩⟩, trivial⟩ [] (Pick.nil _) ⟨rfl, 151, f.at_, rfl, hend⟩
  | true =>
    have hok := hp2.1 rfl;have hput := qw hok.1.2.2.1;rw [← hst] at hput;refine tr 2 ?_;refine cfo 6 ?_;refine zG ?_;refine zF ?_;refine qt 14 ?_;refine Lo 0 sg9 rfl hq0 ?_;refine zE (yR ms105 rfl rfl rfl .here ?_) rfl;refine vr 4 ?_;refine Pa 2 ?_;rw [hput]
    exact j1 hl3 (i + 1) ⟨rfl, rfl, rfl, rfl, rfl, rfl, trivial⟩ (by rw [hsn']; exact Pick.refl _) ⟨hlt, hnext hok⟩ (by omega)
 obtain ⟨A, c, l, hvn, hrl, hll, hpn⟩ : ∃ (A : Option Addr) (c : Nat) (l : List (List UInt8)), vnth [.slice q.A f.banned.length q.ca, .slice q.B f.single.length q.cb] (((j : Nat) : Int).toNat * 1) = some (.slice A l.length c) ∧ RdN m8 A c l ∧ l.length ≤ 140737488355328 ∧ ((base ∧ (0 < j → namesOk b.cards f.banned) ∧ (1 < j → namesOk b.cards f.single)) ∧ namesOk b.cards l ↔ base ∧ (0 < j + 1 → namesOk b.cards f.banned) ∧ (1 < j + 1 → namesOk b.cards f.single)) := by
  rcases Nat.lt_or_ge j 1 with h | h
  ·obtain rfl : j = 0 := by omega
   exact ⟨q.A, q.ca, f.banned, rfl, hB, hlb, fun h => ⟨h.1.1, fun _ => h.2, fun h => by omega⟩, fun h => ⟨⟨h.1, fun h => by omega, fun h => by omega⟩, h.2.1 (by decide)⟩⟩
  ·obtain rfl : j = 1 := by omega
   exact ⟨q.B, q.cb, f.single, rfl, hS, hls, fun h => ⟨h.1.1, fun _ => h.1.2.1 (by decide), fun _ => h.2⟩, fun h => ⟨⟨h.1, fun _ => h.2.1 (by decide), fun h => by omega⟩, h.2.2 (by decide)⟩⟩
 generalize hP : (base ∧ (0 < j → namesOk b.cards f.banned) ∧ (1 < j → namesOk b.cards f.single)) = P at hp hpn;have hrl := hrl.1;refine tr 2 ?_;refine cto 10 ?_;refine pe 5 ((ya ar113 ars113 rfl rfl (by omega) (by omega) hvn)) ?_;refine zE (xC rfl (fun b5 => ?_)) rfl;refine vr 11 ?_
 refine zZ (α := Nat × Bool) (fun y => [(1, ptr b1), (2, ptr b2), (3, .map (some b3)), (5, ptr b4), (6, .bool y.2), (9, .map (some b5)), (16, .slice F b.fmts.length fc), (17, .int .i64 (b.fmts.length : Nat)), (18, .int .i64 (i : Nat)), (68, .agg [.slice q.A f.banned.length q.ca, .slice q.B f.single.length q.cb].toArray), (69, .int .i64 (j : Nat)), (73, .slice A l.length c), (74, .int .i64 (l.length : Nat)), (75, .int .i64 (y.1 : Nat))]) (fun y => [smap b5 (entK (onceOf (l.take y.1))), smap b3 (entK sn), cel b2 [.int .i64 0, .int .i64 0] 31]) (fun y => y.1 ≤ l.length ∧ (y.2 = true ↔ P ∧ namesOk b.cards (l.take y.1))) (fun y => l.length - y.1) (0, p) ⟨rfl, rfl, rfl, rfl, rfl, rfl, rfl, rfl, rfl, rfl, rfl, rfl, rfl, rfl, trivial⟩ (Pick.refl _) ⟨Nat.zero_le _, hp.trans ⟨fun h => ⟨h, by rw [List.take_zero]; exact ⟨fun _ h => (by cases h), List.nodup_nil⟩⟩, fun h => h.1⟩⟩ ?_
 clear hp p;rintro ⟨k, p⟩ ⟨hk, hp⟩;dsimp only at hk hp;dsimp only;by_cases hkl : k < l.length
 rotate_left
 ·obtain rfl : k = l.length := by omega
  rw [List.take_length] at hp;refine tr 2 ?_;refine cfo 6 ?_;refine zG ?_;refine zF ?_;refine y8 ?_;refine qt 2 ?_;refine Pa 2 ?_;exact QR (j + 1, p) (.cons .h1 .p1) ⟨by omega, hp.trans hpn⟩ (by dsimp only; omega)
 have hX : A.isSome = true := hrl.isSome (by rw [List.length_map]; omega);have hcx := hrl.at_ (show (l.map strV)[k]? = some (.string (bs l[k])) by simp [hkl, strV]);have htk : l.take (k + 1) = l.take k ++ [l[k]] := List.take_succ_eq_append_getElem hkl;have hon := ZI (l.take k) l[k];rw [← htk] at hon
 have hstep : (P ∧ namesOk b.cards (l.take k)) ∧ l[k] ∈ namesC b.cards ∧ l[k] ∉ l.take k ↔ P ∧ namesOk b.cards (l.take (k + 1)) := by
  rw [htk];unfold namesOk;rw [Z4]
  constructor
  ·rintro ⟨⟨h1, h2, h3⟩, h4, h5⟩;refine ⟨h1, fun s hs => ?_, h3, h5⟩;rcases List.mem_append.1 hs with hs | hs
   ·exact h2 s hs
   ·rw [List.mem_singleton.1 hs]; exact h4
  ·rintro ⟨h1, h2, h3, h5⟩;exact ⟨⟨h1, fun s hs => h2 s (List.mem_append_left _ hs), h3⟩, h2 _ (List.mem_append_right _ (List.mem_singleton.2 rfl)), h5⟩
 have hmo := Z5 (l.take k) l[k];generalize l[k] = s at hcx hon hstep hmo;have hgu := jH (onceOf (l.take k)) s;have hput := Xq (onceOf (l.take k)) s;rw [← hon] at hput;generalize onceOf (l.take k) = on at hgu hput hmo ⊢;refine tr 2 ?_;refine cto 10 ?_;refine pe 0 (zm ez38 rfl rfl hX (by omega)) ?_;refine Lo 5 sg9 rfl hcx ?_;refine La 1 ag25 hbk ?_
 refine zE ((zW cl13 rfl (fun m' hm he => Find13 (s := s) (hC.mono hm) hlc) rfl ?_)) rfl;rintro _ _ ⟨⟨rfl, hno⟩ | ⟨ix, hix, rfl, hyes⟩, rfl⟩
 ·have hun : s ∉ namesC b.cards := fun h => by
   obtain ⟨i2, h2, h3⟩ := jB.1 h;exact hno i2 h2 h3
  cases p with
  | false =>
    refine vr 25 ?_;refine zE (yR ms105 rfl rfl rfl .here ?_) rfl;refine vr 4 ?_;refine Pa 2 ?_;rw [hput];exact QR (k + 1, false) (Pick.refl _) ⟨hkl, iff_of_false Bool.false_ne_true fun h => hun (hstep.2 h).2.1⟩ (by dsimp only; omega)
  | true =>
    refine vr 25 ?_;refine zE (yR ms105 rfl rfl rfl .here ?_) rfl;refine vr 4 ?_;refine Pa 2 ?_;rw [hput];exact QR (k + 1, false) (Pick.refl _) ⟨hkl, iff_of_false Bool.false_ne_true fun h => hun (hstep.2 h).2.1⟩ (by dsimp only; omega)
 ·have hkn : s ∈ namesC b.cards := jB.2 ⟨ix, hix, hyes⟩;cases p with
  | false =>
    refine vr 25 ?_;refine zE (yR ms105 rfl rfl rfl .here ?_) rfl;refine vr 4 ?_;refine Pa 2 ?_;rw [hput];exact QR (k + 1, false) (Pick.refl _) ⟨hkl, iff_of_false Bool.false_ne_true fun h => absurd (hp.2 (hstep.2 h).1) (by decide)⟩ (by dsimp only; omega)
  | true =>
    refine vr 16 ?_;refine lr 0 (wn ms105 rfl rfl .here mz105) ?_;rw [hgu];by_cases hin : s ∈ on
    ·rw [decide_eq_true hin];refine vr 8 ?_;refine zE (yR ms105 rfl rfl rfl .here ?_) rfl;refine vr 4 ?_;refine Pa 2 ?_;rw [hput];exact QR (k + 1, false) (Pick.refl _) ⟨hkl, iff_of_false Bool.false_ne_true fun h => (hstep.2 h).2.2 (hmo.1 hin)⟩ (by dsimp only; omega)
    ·rw [decide_eq_false hin];refine vr 8 ?_;refine zE (yR ms105 rfl rfl rfl .here ?_) rfl;refine vr 4 ?_;refine Pa 2 ?_;rw [hput];exact QR (k + 1, true) (Pick.refl _) ⟨hkl, iff_of_true rfl (hstep.1 ⟨hp.1 rfl, hkn, fun h => hin (hmo.2 h)⟩)⟩ (by dsimp only; omega)
end
namespace La
def knownP (a : Int) : Int := if a < 0 ∨ 3 < a then 3 else a
def joinK (a b : Int) : Int := if a = b ∨ b = 0 then a else if a = 0 then b else 3
def joinP (a b : Int) : Int := joinK (knownP a) (knownP b)
theorem wv (a : Int) : 0 ≤ knownP a ∧ knownP a ≤ 3 := by unfold knownP; split <;> omega
theorem uf (a : Int) : knownP a = 0 ∨ knownP a = 1 ∨ knownP a = 2 ∨ knownP a = 3 := by have := wv a; omega
def flowsP (a b : Int) : Bool := decide (joinP a b = knownP b)
end La
section
open La
def lab (a : Int) : Value := .int .i8 a
theorem vm (h : Heap) (a : Int) : C Tryz.prog 124 [lab a].toArray h fun v h' => v = lab (knownP a) ∧ h' = h := by
 refine qM [2] Tryz.func124 rfl rfl rfl ?_;unfold lab;by_cases h0 : a < 0
 ·refine zM ?_;refine zD ?_;refine zB (zK rfl) rfl rfl rfl ?_;refine zN ?_;refine zA ?_;refine zM ?_;refine zM ?_;refine zD ?_;refine zB (zV rfl) rfl rfl rfl ?_;refine zB (dt (yz rfl rfl) (by first | assumption | rfl | omega | decide)) rfl rfl rfl ?_;refine zB (zV rfl) rfl rfl rfl ?_;refine w9 rfl rfl rfl ?_
  refine w9 rfl rfl rfl ?_;refine zB (yN rfl rfl) rfl rfl rfl ?_;refine zN ?_;refine zA ?_;refine yQ rfl ?_;refine zM ?_;refine zD ?_;refine zB (zK rfl) rfl rfl rfl ?_;refine zN ?_;refine zA ?_;refine yH ?_;refine yD ?_;refine zi rfl ?_;exact ⟨by rw [knownP, if_pos (.inl h0)], rfl⟩
 ·by_cases h3 : 3 < a
  ·refine zM ?_;refine zD ?_;refine zB (zK rfl) rfl rfl rfl ?_;refine zN ?_;refine zA ?_;refine zM ?_;refine zM ?_;refine zD ?_;refine zB (zV rfl) rfl rfl rfl ?_;refine zB (df (yz rfl rfl) (by first | assumption | omega | decide | exact fun hx => hx (by assumption))) rfl rfl rfl ?_;refine zB (zV rfl) rfl rfl rfl ?_
   refine zB (zV rfl) rfl rfl rfl ?_;refine zB (dt (vv rfl rfl) (by first | assumption | rfl | omega | decide)) rfl rfl rfl ?_;refine zB (xH rfl rfl) rfl rfl rfl ?_;refine zN ?_;refine zA ?_;refine yQ rfl ?_;refine zM ?_;refine zD ?_;refine zB (zK rfl) rfl rfl rfl ?_;refine zN ?_;refine zA ?_;refine yH ?_
   refine yD ?_;refine zi rfl ?_;exact ⟨by rw [knownP, if_pos (.inr h3)], rfl⟩
  ·refine zM ?_;refine zD ?_;refine zB (zK rfl) rfl rfl rfl ?_;refine zN ?_;refine zA ?_;refine zM ?_;refine zM ?_;refine zD ?_;refine zB (zV rfl) rfl rfl rfl ?_;refine zB (df (yz rfl rfl) (by first | assumption | omega | decide | exact fun hx => hx (by assumption))) rfl rfl rfl ?_;refine zB (zV rfl) rfl rfl rfl ?_
   refine zB (zV rfl) rfl rfl rfl ?_;refine zB (df (vv rfl rfl) (by first | assumption | omega | decide | exact fun hx => hx (by assumption))) rfl rfl rfl ?_;refine zB (xH rfl rfl) rfl rfl rfl ?_;refine zN ?_;refine zA ?_;refine yW rfl ?_;refine xN ?_;refine zA ?_;refine zM ?_;refine zD ?_;refine zB (zV rfl) rfl rfl rfl ?_
   refine zB (zK rfl) rfl rfl rfl ?_;refine zN ?_;refine zA ?_;refine yH ?_;refine zi rfl ?_;exact ⟨by rw [knownP, if_neg (by omega)], rfl⟩
def joinsL : List Value := [lab 0, lab 1, lab 2, lab 3, lab 1, lab 1, lab 3, lab 3, lab 2, lab 3, lab 2, lab 3, lab 3, lab 3, lab 3, lab 3]
theorem X3 (h : Heap) : C Tryz.prog 145 [].toArray h fun v h' => v = .agg joinsL.toArray ∧ Le (mp h) (mp h') := by
 refine Wn [.cell 0 203] Tryz.func145 rfl rfl rfl ?_;refine zM ?_;refine zD ?_;refine zY (xK zl203 rfl (fun b1 h1 hn1 hb1 hl1 => ?_)) rfl;refine zN ?_;refine zA ?_;refine zM ?_;refine zD ?_
 iterate 4 (refine zB (yr ar202 zl202 rfl rfl) rfl rfl rfl ?_)
 refine zB (yr ar203 zl203 rfl rfl) rfl rfl rfl ?_;refine zY (yA ag203 rfl rfl rfl hb1 rfl rfl (fun h2 hb2 hl2 hn2 => ?_)) rfl;refine zN ?_;refine zA ?_;refine yH ?_;refine vH rfl hb2 ag203 ?_;refine ⟨rfl, fun k o hk => ?_⟩;rw [hl2 k (Xw hk hn1)];exact hl1 k o hk
theorem X4 (a b : Int) : vnth ((joinsL.drop ((knownP a).toNat * 4)).take 4) ((knownP b).toNat * 1) = some (lab (joinP a b)) := by
 unfold joinP;rcases uf a with ha | ha | ha | ha <;> rcases uf b with hb | hb | hb | hb <;> rw [ha, hb] <;> rfl
theorem xe (h : Heap) (a b : Int) : C Tryz.prog 122 [lab a, lab b].toArray h fun v h' => v = lab (joinP a b) ∧ Le (mp h) (mp h') := by
 refine qM [4] Tryz.func122 rfl rfl rfl ?_;have ha := wv a;have hb := wv b;have hj := X4 a b;refine zM ?_;refine zD ?_;refine zB (zK rfl) rfl rfl rfl ?_;refine zN ?_;refine zA ?_;refine zM ?_
 refine YJ [(1, .pure), (4, .pure), (0, .kept), (2, .kept), (3, .pure), (5, .kept), (6, .pure), (7, .pure)] mixed (by kernel_rfl) (fun _ _ _ _ hq => hq) ?_;refine xJ rfl (zV rfl) rfl rfl rfl ?_;refine xJ rfl (zV rfl) rfl rfl rfl ?_;refine wP rfl (yB cl145 rfl ((X3 h)) rfl ?_) rfl;rintro _ h1 ⟨rfl, hl⟩;refine ⟨hl, ?_⟩
 refine wP rfl (yB cl124 rfl ((vm h1 a)) rfl ?_) rfl;rintro _ h1 ⟨rfl, rfl⟩;refine ⟨Le.refl _, ?_⟩;refine xJ rfl (Wh ar203 ara203 rfl rfl (by omega) (by omega)) rfl rfl rfl ?_;refine wP rfl (yB cl124 rfl ((vm h1 b)) rfl ?_) rfl;rintro _ h1 ⟨rfl, rfl⟩;refine ⟨Le.refl _, ?_⟩
 refine xJ rfl ((ya ar202 ars202 rfl rfl hb.1 (by omega) hj)) rfl rfl rfl ?_;refine xJ rfl (zK rfl) rfl rfl rfl ?_;refine YH ?_;refine zA ?_;refine yH ?_;refine zi rfl ?_;exact ⟨rfl, hl⟩
theorem Wk (h : Heap) (a b : Int) : C Tryz.prog 125 [lab a, lab b].toArray h fun v h' => v = .bool (flowsP a b) ∧ Le (mp h) (mp h') := by
 refine qM [4] Tryz.func125 rfl rfl rfl ?_;refine zM ?_;refine zD ?_;refine zB (zK rfl) rfl rfl rfl ?_;refine zN ?_;refine zA ?_;refine zM ?_;refine zD ?_;refine zB (zV rfl) rfl rfl rfl ?_;refine zB (zV rfl) rfl rfl rfl ?_;refine zY (yB cl122 rfl ((xe h a b)) rfl ?_) rfl;rintro _ h1 ⟨rfl, hl⟩
 refine zB (zV rfl) rfl rfl rfl ?_;refine zY (yB cl124 rfl ((vm h1 b)) rfl ?_) rfl;rintro _ h1 ⟨rfl, rfl⟩;refine zB ((zz rfl rfl)) rfl rfl rfl ?_;refine zB (zK rfl) rfl rfl rfl ?_;refine zN ?_;refine zA ?_;refine yH ?_;refine zi rfl ?_;exact ⟨rfl, hl⟩
end
namespace La
mutual
def numL : NumT → Int
 | .mk op _ _ kids => if op = 6 then 3 else if 8 ≤ op ∧ op ≤ 12 then numsL 0 kids else 0
def numsL : Int → List NumT → Int
 | l, [] => l
 | l, k :: r => numsL (joinP l (numL k)) r
end
mutual
def condL : CondT → Int
 | .mk op who _ nums kids => if op = 6 then (if who = 0 then 1 else if who = 1 then 2 else 3) else condsL (numsL 0 nums) kids
def condsL : Int → List CondT → Int
 | l, [] => l
 | l, k :: r => condsL (joinP l (condL k)) r
end
mutual
def rightE : Int → EffT → Bool
 | u, .mk op _ n _ cond thn els =>
   if op = 5 then flowsP (joinP u (numL n)) 1
   else if op = 8 then rightS (joinP u (condL cond)) thn && rightS (joinP u (condL cond)) els
   else if 0 ≤ op ∧ op ≤ 3 then decide (joinP u (numL n) = 0)
   else decide (knownP u = 0)
def rightS : Int → List EffT → Bool
 | _, [] => true
 | u, x :: r => rightE u x && rightS u r
end
theorem kG (l : Int) (a b : List NumT) : numsL l (a ++ b) = numsL (numsL l a) b := by
 induction a generalizing l with
 | nil => simp [numsL]
 | cons x r ih => simp [numsL, ih]
theorem jZ (l : Int) (a b : List CondT) : condsL l (a ++ b) = condsL (condsL l a) b := by
 induction a generalizing l with
 | nil => simp [condsL]
 | cons x r ih => simp [condsL, ih]
theorem vn (u : Int) (a b : List EffT) : rightS u (a ++ b) = (rightS u a && rightS u b) := by
 induction a with
 | nil => simp [rightS]
 | cons x r ih => simp [rightS, ih, Bool.and_assoc]
theorem jA {l : Int} {k : List NumT} {i : Nat} (h : i < k.length) : numsL l (k.take (i + 1)) = joinP (numsL l (k.take i)) (numL k[i]) := by
 rw [List.take_succ_eq_append_getElem h, kG]; simp [numsL]
theorem Ze {l : Int} {k : List CondT} {i : Nat} (h : i < k.length) : condsL l (k.take (i + 1)) = joinP (condsL l (k.take i)) (condL k[i]) := by
 rw [List.take_succ_eq_append_getElem h, jZ]; simp [condsL]
theorem ZE {u : Int} {k : List EffT} {i : Nat} (h : i < k.length) : rightS u (k.take (i + 1)) = (rightS u (k.take i) && rightE u k[i]) := by
 rw [List.take_succ_eq_append_getElem h, vn]; simp [rightS]
end La
namespace La
theorem four {a : Int} (h : 0 ≤ a ∧ a ≤ 3) : a = 0 ∨ a = 1 ∨ a = 2 ∨ a = 3 := by omega
end La
section
open La
theorem kv {m : Mp} {cs : List Value} {x : NumT} (hx : NumR m cs x) : ∀ h : Heap, Le m (mp h) → C Tryz.prog 123 [.agg cs.toArray].toArray h fun v h' => v = lab (numL x) ∧ Le (mp h) (mp h') := by
 induction hx with
 | @mk op n who kids A len c vs ho hl hm hr hv hk ih =>
   intro h hle;subst hl;simp only [maxLen] at hm;have kle := Kept.mk hle;refine qM [2] Tryz.func123 rfl rfl rfl ?_;by_cases h6 : op = 6
   ·refine zM ?_;refine zD ?_;refine zY (yl rfl rfl (fun b1 h1 hn1 hb1 hl1 => ?_)) rfl
    replace hle := Le.trans hle hl1
    refine zB (zK rfl) rfl rfl rfl ?_;refine zN ?_;refine zA ?_;refine zM ?_;refine zD ?_;refine zB (zK rfl) rfl rfl rfl ?_;refine zN ?_;refine zA ?_;refine zM ?_;refine yo ?_;refine zM ?_;refine zD ?_;refine zB (zJ uH rfl) rfl rfl rfl ?_;refine zO (za sg82 rfl (zU hb1 rfl)) rfl rfl rfl ?_
    refine zB (dt (zz rfl rfl) (by first | assumption | rfl | omega | decide)) rfl rfl rfl ?_;refine zB (zK rfl) rfl rfl rfl ?_;refine zN ?_;refine zA ?_;refine yQ rfl ?_;refine zM ?_;refine zD ?_;refine zB (zK rfl) rfl rfl rfl ?_;refine zN ?_;refine zA ?_;refine yH ?_;refine yS ?_;refine yD ?_
    refine zi rfl ?_;exact ⟨by rw [numL, if_pos h6]; rfl, hl1⟩
   ·by_cases h8 : 8 ≤ op ∧ op ≤ 12
    ·obtain ⟨h8a, h8b⟩ := h8;refine zM ?_;refine zD ?_;refine zY (yl rfl rfl (fun b1 h1 hn1 hb1 hl1 => ?_)) rfl
     replace hle := Le.trans hle hl1
     refine zB (zK rfl) rfl rfl rfl ?_;refine zN ?_;refine zA ?_;refine zM ?_;refine zD ?_;refine zB (zK rfl) rfl rfl rfl ?_;refine zN ?_;refine zA ?_;refine zM ?_;refine yo ?_;refine zM ?_;refine zD ?_;refine zB (zJ uH rfl) rfl rfl rfl ?_;refine zO (za sg82 rfl (zU hb1 rfl)) rfl rfl rfl ?_
     refine zB (df (zz rfl rfl) (by first | assumption | omega | decide | exact fun hx => hx (by assumption))) rfl rfl rfl ?_;refine zB (zK rfl) rfl rfl rfl ?_;refine zN ?_;refine zA ?_;refine yW rfl ?_;refine zM ?_;refine zD ?_;refine zB (zJ uH rfl) rfl rfl rfl ?_;refine zO (za sg82 rfl (zU hb1 rfl)) rfl rfl rfl ?_
     refine zB (dt (xd rfl rfl) (by first | assumption | rfl | omega | decide)) rfl rfl rfl ?_;refine zB (zV rfl) rfl rfl rfl ?_;refine zB (zJ uH rfl) rfl rfl rfl ?_;refine zO (za sg82 rfl (zU hb1 rfl)) rfl rfl rfl ?_;refine zB (dt (qY rfl rfl) (by first | assumption | rfl | omega | decide)) rfl rfl rfl ?_
     refine zB (yN rfl rfl) rfl rfl rfl ?_;refine zB (zK rfl) rfl rfl rfl ?_;refine zN ?_;refine zA ?_;refine yQ rfl ?_;refine zM ?_;refine zD ?_;refine zB (zJ fo85_3 rfl) rfl rfl rfl ?_;refine zO (za sg83 rfl (zU hb1 rfl)) rfl rfl rfl ?_;refine zB (j2 il83 rfl) rfl rfl rfl ?_;refine zB (zV rfl) rfl rfl rfl ?_
     refine zN ?_;refine zA ?_;refine yo ?_;have hlab : numL (.mk op n who kids) = numsL 0 kids := by rw [numL, if_neg h6, if_pos ⟨h8a, h8b⟩]
     rw [hlab];refine qI (fun i : Nat => [(3, lab (numsL 0 (kids.take i))), (20, .slice A kids.length c), (21, .int .i64 kids.length), (22, .int .i64 i)]) (fun i h' => i ≤ kids.length ∧ Le (mp h) (mp h')) (fun i => kids.length - i) 0 ⟨rfl, rfl, rfl, rfl, trivial⟩ ⟨Nat.zero_le _, hl1⟩ ?_;clear hb1 hl1 hn1;rintro i h2 ⟨hi, hle2⟩;by_cases hlt : i < kids.length
     ·obtain ⟨a1, a2, a3, a4, a5, a6, hc⟩ := (hk i hlt).form;have hA : A.isSome = true := hr.isSome (by omega);have hat := (hr.elem (i * 4) 4).mono (kle.out.trans hle2);have ih1 := ih i hlt;rw [hc] at hat ih1;have hs := jA (l := 0) hlt;have kle2 := Kept.mk hle2;refine zM ?_;refine zD ?_;refine zB (dt (yz rfl rfl) (by first | assumption | rfl | omega | decide)) rfl rfl rfl ?_
      refine zN ?_;refine zA ?_;refine zM ?_;refine yQ rfl ?_;refine xN ?_;refine zA ?_;refine zM ?_;refine yo ?_;refine zM ?_;refine zD ?_;refine zB (y9 ez83 rfl rfl hA (by omega) (by omega)) rfl rfl rfl ?_;refine zO (zX ag85 rfl rfl hat) rfl rfl rfl ?_;refine zY (xK zl85 rfl (fun b2 h3 hn1 hb1 hl1 => ?_)) rfl
      replace hle2 := Le.trans hle2 hl1
      replace hat := hat.mono hl1
      refine zY (yA ag85 rfl rfl rfl hb1 rfl rfl (fun h4 hb2 hl2 hn2 => ?_)) rfl;refine zN ?_;refine zA ?_;refine zD ?_;refine zB (zV rfl) rfl rfl rfl ?_;refine zO (zX ag85 rfl rfl (At.blk hb2)) rfl rfl rfl ?_;have hl24 := kle2.out.trans (hl1.stored hn1 hl2);refine zY (yB cl123 rfl ((ih1 _ (kle.out.trans hl24))) rfl ?_) rfl
      rintro _ h5 ⟨rfl, hl5⟩;refine zY (yB cl122 rfl ((xe h5 _ _)) rfl ?_) rfl;rintro _ h6 ⟨rfl, hl6⟩;refine zB (zK rfl) rfl rfl rfl ?_;refine zN ?_;refine yG ?_;refine zA ?_;refine zD ?_;refine zB (zy rfl rfl (w64 (by omega) (by omega))) rfl rfl rfl ?_;refine zB (zV rfl) rfl rfl rfl ?_;refine zN ?_
      exact ⟨i + 1, ⟨by rw [hs]; rfl, rfl, rfl, rfl, trivial⟩, ⟨by omega, hl24.trans (hl5.trans hl6)⟩, by show kids.length - (i + 1) < kids.length - i; omega⟩
     ·refine zM ?_;refine zD ?_;refine zB (df (yz rfl rfl) (by first | assumption | omega | decide | exact fun hx => hx (by assumption))) rfl rfl rfl ?_;refine zN ?_;refine zA ?_;refine zM ?_;refine yW rfl ?_;refine qJ ?_;refine xf ?_;refine xQ ?_;refine xT ?_;refine yG ?_;refine zA ?_;refine zM ?_
      refine zD ?_;refine zB (zV rfl) rfl rfl rfl ?_;refine zB (zK rfl) rfl rfl rfl ?_;refine zN ?_;refine zA ?_;refine yH ?_;refine zi rfl ?_;refine ⟨?_, hle2⟩;rw [List.take_of_length_le (by omega)]
    ·refine zM ?_;refine zD ?_;refine zY (yl rfl rfl (fun b1 h1 hn1 hb1 hl1 => ?_)) rfl
     replace hle := Le.trans hle hl1
     refine zB (zK rfl) rfl rfl rfl ?_;refine zN ?_;refine zA ?_;refine zM ?_;refine zD ?_;refine zB (zK rfl) rfl rfl rfl ?_;refine zN ?_;refine zA ?_;refine zM ?_;refine yo ?_;refine zM ?_;refine zD ?_;refine zB (zJ uH rfl) rfl rfl rfl ?_;refine zO (za sg82 rfl (zU hb1 rfl)) rfl rfl rfl ?_
     refine zB (df (zz rfl rfl) (by first | assumption | omega | decide | exact fun hx => hx (by assumption))) rfl rfl rfl ?_;refine zB (zK rfl) rfl rfl rfl ?_;refine zN ?_;refine zA ?_;refine yW rfl ?_;refine zM ?_;refine zD ?_;refine zB (zJ uH rfl) rfl rfl rfl ?_;refine zO (za sg82 rfl (zU hb1 rfl)) rfl rfl rfl ?_
     refine V_if (xd rfl rfl) rfl rfl rfl (fun hc1 => ?_) (fun hc1 => ?_);refine zB (zV rfl) rfl rfl rfl ?_;refine zB (zJ uH rfl) rfl rfl rfl ?_;refine zO (za sg82 rfl (zU hb1 rfl)) rfl rfl rfl ?_;refine zB (df (qY rfl rfl) (by first | assumption | omega | decide | exact fun hx => hx (by assumption))) rfl rfl rfl ?_
     refine zB (yN rfl rfl) rfl rfl rfl ?_;refine zB (zK rfl) rfl rfl rfl ?_;refine zN ?_;refine zA ?_;refine yW rfl ?_;refine xN ?_;refine yG ?_;refine zA ?_;refine zM ?_;refine zD ?_;refine zB (zV rfl) rfl rfl rfl ?_;refine zB (zK rfl) rfl rfl rfl ?_;refine zN ?_;refine zA ?_;refine yH ?_
     refine zi rfl ?_;exact ⟨by rw [numL, if_neg h6, if_neg h8]; rfl, by assumption⟩;refine zB (zV rfl) rfl rfl rfl ?_
     iterate 3 (refine w9 rfl rfl rfl ?_)
     refine zB (xH rfl rfl) rfl rfl rfl ?_;refine zB (zK rfl) rfl rfl rfl ?_;refine zN ?_;refine zA ?_;refine yW rfl ?_;refine xN ?_;refine yG ?_;refine zA ?_;refine zM ?_;refine zD ?_;refine zB (zV rfl) rfl rfl rfl ?_;refine zB (zK rfl) rfl rfl rfl ?_;refine zN ?_;refine zA ?_;refine yH ?_
     refine zi rfl ?_;exact ⟨by rw [numL, if_neg h6, if_neg h8]; rfl, by assumption⟩
theorem Wj {m : Mp} {cs : List Value} {x : CondT} (hx : CondR m cs x) : ∀ h : Heap, Le m (mp h) → C Tryz.prog 126 [.agg cs.toArray].toArray h fun v h' => v = lab (condL x) ∧ Le (mp h) (mp h') := by
 induction hx with
 | @mk op who name nums kids A B la ca lb cb vs us ho hw hn hla hma hra hva hka hlb hmb hrb hvb hkb ih =>
   intro h hle;subst hla hlb;simp only [maxLen] at hma hmb;have kle := Kept.mk hle;refine qM [2] Tryz.func126 rfl rfl rfl ?_;by_cases h6 : op = 6
   ·refine zM ?_;refine zD ?_;refine zY (yl rfl rfl (fun b1 h1 hn1 hb1 hl1 => ?_)) rfl
    replace hle := Le.trans hle hl1
    refine zB (zK rfl) rfl rfl rfl ?_;refine zN ?_;refine zA ?_;refine zM ?_;refine zM ?_;refine zD ?_;refine zB (zJ WB rfl) rfl rfl rfl ?_;refine zO (za sg82 rfl (zU hb1 rfl)) rfl rfl rfl ?_;refine zB (dt (zz rfl rfl) (by first | assumption | rfl | omega | decide)) rfl rfl rfl ?_;refine zN ?_;refine zA ?_
    refine yQ rfl ?_;refine zM ?_;refine zM ?_;refine zD ?_;refine zB (zJ fo88_1 rfl) rfl rfl rfl ?_;refine zO (za sg82 rfl (zU hb1 rfl)) rfl rfl rfl ?_;refine zN ?_;refine zA ?_;refine yo ?_;refine zM ?_;refine zD ?_;refine V_if (zz rfl rfl) rfl rfl rfl (fun hc1 => ?_) (fun hc1 => ?_)
    refine zB (zK rfl) rfl rfl rfl ?_;refine zN ?_;refine zA ?_;refine yQ rfl ?_;refine zM ?_;refine zD ?_;refine zB (zK rfl) rfl rfl rfl ?_;refine zN ?_;refine zA ?_;refine yH ?_;refine yS ?_;refine yD ?_;refine yD ?_;refine zi rfl ?_
    exact ⟨by rw [condL, if_pos h6]; (repeat' split) <;> first | rfl | omega, by assumption⟩;refine zB (zK rfl) rfl rfl rfl ?_;refine zN ?_;refine zA ?_;refine yW rfl ?_;refine zM ?_;refine zD ?_;refine V_if (zz rfl rfl) rfl rfl rfl (fun hc2 => ?_) (fun hc2 => ?_);refine zB (zK rfl) rfl rfl rfl ?_;refine zN ?_;refine zA ?_
    refine yQ rfl ?_;refine zM ?_;refine zD ?_;refine zB (zK rfl) rfl rfl rfl ?_;refine zN ?_;refine zA ?_;refine yH ?_;refine yS ?_;refine yD ?_;refine yD ?_;refine zi rfl ?_;exact ⟨by rw [condL, if_pos h6]; (repeat' split) <;> first | rfl | omega, by assumption⟩;refine zB (zK rfl) rfl rfl rfl ?_;refine zN ?_
    refine zA ?_;refine yW rfl ?_;refine xN ?_;refine yG ?_;refine zA ?_;refine zM ?_;refine zD ?_;refine zB (zK rfl) rfl rfl rfl ?_;refine zN ?_;refine zA ?_;refine yH ?_;refine yD ?_;refine zi rfl ?_;exact ⟨by rw [condL, if_pos h6]; (repeat' split) <;> first | rfl | omega, by assumption⟩
   ·refine zM ?_;refine zD ?_;refine zY (yl rfl rfl (fun b1 h1 hn1 hb1 hl1 => ?_)) rfl
    replace hle := Le.trans hle hl1
    refine zB (zK rfl) rfl rfl rfl ?_;refine zN ?_;refine zA ?_;refine zM ?_;refine zM ?_;refine zD ?_;refine zB (zJ WB rfl) rfl rfl rfl ?_;refine zO (za sg82 rfl (zU hb1 rfl)) rfl rfl rfl ?_;refine zB (df (zz rfl rfl) (by first | assumption | omega | decide | exact fun hx => hx (by assumption))) rfl rfl rfl ?_;refine zN ?_
    refine zA ?_;refine yW rfl ?_;refine xN ?_;refine zA ?_;refine zM ?_;refine zD ?_;refine zB (zK rfl) rfl rfl rfl ?_;refine zN ?_;refine zA ?_;refine zM ?_;refine zM ?_;refine zD ?_;refine zB (zJ fo88_3 rfl) rfl rfl rfl ?_;refine zO (za sg83 rfl (zU hb1 rfl)) rfl rfl rfl ?_
    refine zB (j2 il83 rfl) rfl rfl rfl ?_;refine zB (zV rfl) rfl rfl rfl ?_;refine zN ?_;refine zA ?_;refine yo ?_;have hlab : condL (.mk op who name nums kids) = condsL (numsL 0 nums) kids := by rw [condL, if_neg h6]
    rw [hlab];refine qI (fun i : Nat => [(1, .pointer (some ⟨b1, 0, none⟩)), (3, lab (numsL 0 (nums.take i))), (18, .slice A nums.length ca), (19, .int .i64 nums.length), (20, .int .i64 i)]) (fun i h' => i ≤ nums.length ∧ Le (mp h1) (mp h')) (fun i => nums.length - i) 0 ⟨rfl, rfl, rfl, rfl, rfl, trivial⟩ ⟨Nat.zero_le _, Le.refl _⟩ ?_;have kb1 := Kept.mk hb1;have kl1 := Kept.mk hl1
    clear hb1 hl1 hn1;rintro i h2 ⟨hi, hle2⟩;by_cases hlt : i < nums.length
    ·obtain ⟨a1, a2, a3, a4, a5, a6, hc⟩ := (hka i hlt).form;have hA : A.isSome = true := hra.isSome (by omega);have hat := (hra.elem (i * 4) 4).mono (hle.trans hle2);have ih1 := kv (hka i hlt);rw [hc] at hat ih1;have hs := jA (l := 0) hlt;have kle2 := Kept.mk hle2;refine zM ?_;refine zD ?_
     refine zB (dt (yz rfl rfl) (by first | assumption | rfl | omega | decide)) rfl rfl rfl ?_;refine zN ?_;refine zA ?_;refine zM ?_;refine yQ rfl ?_;refine xN ?_;refine zA ?_;refine zM ?_;refine yo ?_;refine zM ?_;refine zD ?_;refine zB (y9 ez83 rfl rfl hA (by omega) (by omega)) rfl rfl rfl ?_
     refine zO (zX ag85 rfl rfl hat) rfl rfl rfl ?_;refine zY (xK zl85 rfl (fun b2 h3 hn1 hb1 hl1 => ?_)) rfl
     replace hle2 := Le.trans hle2 hl1
     replace hat := hat.mono hl1
     refine zY (yA ag85 rfl rfl rfl hb1 rfl rfl (fun h4 hb2 hl2 hn2 => ?_)) rfl;refine zN ?_;refine zA ?_;refine zD ?_;refine zB (zV rfl) rfl rfl rfl ?_;refine zO (zX ag85 rfl rfl (At.blk hb2)) rfl rfl rfl ?_;have hl24 := kle2.out.trans (hl1.stored hn1 hl2);refine zY (yB cl123 rfl ((ih1 _ (hle.trans hl24))) rfl ?_) rfl;rintro _ h5 ⟨rfl, hl5⟩
     refine zY (yB cl122 rfl ((xe h5 _ _)) rfl ?_) rfl;rintro _ h6 ⟨rfl, hl6⟩;refine zB (zK rfl) rfl rfl rfl ?_;refine zN ?_;refine yG ?_;refine zA ?_;refine zD ?_;refine zB (zy rfl rfl (w64 (by omega) (by omega))) rfl rfl rfl ?_;refine zB (zV rfl) rfl rfl rfl ?_;refine zN ?_
     exact ⟨i + 1, ⟨rfl, by rw [hs]; rfl, rfl, rfl, rfl, trivial⟩, ⟨by omega, hl24.trans (hl5.trans hl6)⟩, by show nums.length - (i + 1) < nums.length - i; omega⟩
    have hb2 := hle2 _ _ kb1.out;have hnt : nums.take i = nums := List.take_of_length_le (by omega);rw [hnt];refine zM ?_;refine zD ?_;refine zB (df (yz rfl rfl) (by first | assumption | omega | decide | exact fun hx => hx (by assumption))) rfl rfl rfl ?_;refine zN ?_;refine zA ?_;refine zM ?_;refine yW rfl ?_;refine qJ ?_;refine xf ?_
    refine xQ ?_;refine xT ?_;refine zA ?_;refine zM ?_;refine zM ?_;refine zD ?_;refine zB (zJ fo88_4 rfl) rfl rfl rfl ?_;refine zO (za sg86 rfl (zU hb2 rfl)) rfl rfl rfl ?_;refine zB (j2 il86 rfl) rfl rfl rfl ?_;refine zB (zV rfl) rfl rfl rfl ?_;refine zN ?_;refine zA ?_;refine yo ?_
    refine qI (fun i : Nat => [(3, lab (condsL (numsL 0 nums) (kids.take i))), (30, .slice B kids.length cb), (31, .int .i64 kids.length), (32, .int .i64 i)]) (fun i h' => i ≤ kids.length ∧ Le (mp h1) (mp h')) (fun i => kids.length - i) 0 ⟨by rw [List.take_zero, condsL]; rfl, rfl, rfl, rfl, trivial⟩ ⟨Nat.zero_le _, hle2⟩ ?_;clear hb2 hle2 hnt hi hlt i h2;rintro i h2 ⟨hi, hle2⟩
    by_cases hlt : i < kids.length
    ·obtain ⟨a1, a2, a3, a4, a5, a6, a7, a8, a9, hc⟩ := (hkb i hlt).form;have hB : B.isSome = true := hrb.isSome (by omega);have hat := (hrb.elem (i * 5) 5).mono (hle.trans hle2);have ih1 := ih i hlt;rw [hc] at hat ih1;have hs := Ze (l := numsL 0 nums) hlt;have kle2 := Kept.mk hle2;refine zM ?_;refine zD ?_
     refine zB (dt (yz rfl rfl) (by first | assumption | rfl | omega | decide)) rfl rfl rfl ?_;refine zN ?_;refine zA ?_;refine zM ?_;refine yQ rfl ?_;refine xN ?_;refine zA ?_;refine zM ?_;refine yo ?_;refine zM ?_;refine zD ?_;refine zB (y9 ez86 rfl rfl hB (by omega) (by omega)) rfl rfl rfl ?_
     refine zO (zX ag88 rfl rfl hat) rfl rfl rfl ?_;refine zY (xK zl88 rfl (fun b2 h3 hn1 hb1 hl1 => ?_)) rfl
     replace hle2 := Le.trans hle2 hl1
     replace hat := hat.mono hl1
     refine zY (yA ag88 rfl rfl rfl hb1 rfl rfl (fun h4 hb2 hl2 hn2 => ?_)) rfl;refine zN ?_;refine zA ?_;refine zD ?_;refine zB (zV rfl) rfl rfl rfl ?_;refine zO (zX ag88 rfl rfl (At.blk hb2)) rfl rfl rfl ?_;have hl24 := kle2.out.trans (hl1.stored hn1 hl2);refine zY (yB cl126 rfl ((ih1 _ (hle.trans hl24))) rfl ?_) rfl;rintro _ h5 ⟨rfl, hl5⟩
     refine zY (yB cl122 rfl ((xe h5 _ _)) rfl ?_) rfl;rintro _ h6 ⟨rfl, hl6⟩;refine zB (zK rfl) rfl rfl rfl ?_;refine zN ?_;refine yG ?_;refine zA ?_;refine zD ?_;refine zB (zy rfl rfl (w64 (by omega) (by omega))) rfl rfl rfl ?_;refine zB (zV rfl) rfl rfl rfl ?_;refine zN ?_
     exact ⟨i + 1, ⟨by rw [hs]; rfl, rfl, rfl, rfl, trivial⟩, ⟨by omega, hl24.trans (hl5.trans hl6)⟩, by show kids.length - (i + 1) < kids.length - i; omega⟩
    ·refine zM ?_;refine zD ?_;refine zB (df (yz rfl rfl) (by first | assumption | omega | decide | exact fun hx => hx (by assumption))) rfl rfl rfl ?_;refine zN ?_;refine zA ?_;refine zM ?_;refine yW rfl ?_;refine qJ ?_;refine xf ?_;refine xQ ?_;refine xT ?_;refine zA ?_;refine zM ?_;refine zD ?_
     refine zB (zV rfl) rfl rfl rfl ?_;refine zB (zK rfl) rfl rfl rfl ?_;refine zN ?_;refine zA ?_;refine yH ?_;refine zi rfl ?_;refine ⟨?_, kl1.out.trans hle2⟩;rw [List.take_of_length_le (by omega)]
end
section
open La
def ptrL (b : Nat) : Value := .pointer (some ⟨b, 0, none⟩)
def chk (u : Int) : Value := .agg [lab u].toArray
theorem wZ (h : Heap) (u : Int) (cs : List Value) : C Tryz.prog 95 [chk u, .agg cs.toArray].toArray h fun v h' => v = .bool (decide (knownP u = 0)) ∧ Le (mp h) (mp h') := by
 refine qM [4] Tryz.func95 rfl rfl rfl ?_;unfold chk;refine zM ?_;refine zD ?_;refine zY (yl rfl rfl (fun b1 h1 hn1 hb1 hl1 => ?_)) rfl;refine zY (yl rfl rfl (fun b2 h2 hn2 hb2 hl2 => ?_)) rfl
 replace hb1 := hl2 _ _ hb1
 replace hl1 := Le.trans hl1 hl2
 refine zB (zK rfl) rfl rfl rfl ?_;refine zN ?_;refine zA ?_;refine zM ?_;refine zD ?_;refine zB (zJ qh rfl) rfl rfl rfl ?_;refine zO (za sg109 rfl (zU hb1 rfl)) rfl rfl rfl ?_;have hl := hl1;refine zY (yB cl124 rfl ((vm h2 u)) rfl ?_) rfl;rintro _ h2 ⟨rfl, rfl⟩;refine zB ((zz rfl rfl)) rfl rfl rfl ?_
 refine zB (zK rfl) rfl rfl rfl ?_;refine zN ?_;refine zA ?_;refine yH ?_;refine zi rfl ?_;exact ⟨rfl, hl⟩
theorem vY {m : Mp} {cs : List Value} {op who : Int} {n : NumT} {name : List UInt8} {cond : CondT} {thn els : List EffT} (hx : EffR m cs (.mk op who n name cond thn els)) (h : Heap) (u : Int) (hle : Le m (mp h)) :
  C Tryz.prog 94 [chk u, .agg cs.toArray].toArray h fun v h' => v = .bool (decide (joinP u (numL n) = 0)) ∧ Le (mp h) (mp h') := by
 obtain ⟨op', who', nop, nn, nwho, nA, nlen, nc, name', cop, cwho, cname, cA, cla, cca, cB, clb, ccb, A1, la, ca, B1, lb, cb, n', cond', thn', els', rfl, hmk, _, hn, hcd, _, _⟩ := hx.parts
 injection hmk with e1 e2 e3 e4 e5 e6 e7
 subst e1 e2 e3 e4 e5 e6 e7;refine qM [4] Tryz.func94 rfl rfl rfl ?_;unfold chk;have kle := Kept.mk hle;clear hle hx;refine zM ?_;refine zD ?_;refine zY (yl rfl rfl (fun b1 h1 hn1 hb1 hl1 => ?_)) rfl;refine zY (yl rfl rfl (fun b2 h2 hn2 hb2 hl2 => ?_)) rfl
 replace hb1 := hl2 _ _ hb1
 replace hl1 := Le.trans hl1 hl2
 refine zB (zK rfl) rfl rfl rfl ?_;refine zN ?_;refine zA ?_;refine zM ?_;have hl := hl1;have hat : At (mp h2) ⟨b2, 2, none⟩ [.int .i8 nop, .int .i64 nn, .int .i8 nwho, .slice nA nlen nc] := At.blkO (k := 4) hb2;refine YJ [(0, .pure), (2, .pure), (1, .read), (3, .read), (4, .kept), (5, .kept), (6, .pure), (7, .pure)] mixed (by kernel_rfl) (fun _ _ _ _ hq => hq) ?_
 refine xJ rfl (zJ qh rfl) rfl rfl rfl ?_;refine xJ rfl (zJ WA rfl) rfl rfl rfl ?_;refine ql rfl (za sg109 rfl (zU hb1 rfl)) rfl rfl rfl ?_;refine ql rfl (zX ag85 rfl rfl hat) rfl rfl rfl ?_;refine wP rfl (yB cl123 rfl ((kv hn h2 (kle.out.trans hl))) rfl ?_) rfl;rintro _ h3 ⟨rfl, hl3⟩;refine ⟨hl3, ?_⟩
 refine wP rfl (yB cl122 rfl ((xe h3 _ _)) rfl ?_) rfl;rintro _ h4 ⟨rfl, hl4⟩;refine ⟨hl4, ?_⟩;refine xJ rfl ((zz rfl rfl)) rfl rfl rfl ?_;refine xJ rfl (zK rfl) rfl rfl rfl ?_;refine YH ?_;refine zA ?_;refine yH ?_;refine zi rfl ?_;exact ⟨rfl, hl.trans (hl3.trans hl4)⟩
theorem look_ok {m : Mp} {cs : List Value} {op who : Int} {n : NumT} {name : List UInt8} {cond : CondT} {thn els : List EffT} (hx : EffR m cs (.mk op who n name cond thn els)) (h : Heap) (u : Int) (hle : Le m (mp h)) :
  C Tryz.prog 96 [chk u, .agg cs.toArray].toArray h fun v h' => v = .bool (flowsP (joinP u (numL n)) 1) ∧ Le (mp h) (mp h') := by
 obtain ⟨op', who', nop, nn, nwho, nA, nlen, nc, name', cop, cwho, cname, cA, cla, cca, cB, clb, ccb, A1, la, ca, B1, lb, cb, n', cond', thn', els', rfl, hmk, _, hn, hcd, _, _⟩ := hx.parts
 injection hmk with e1 e2 e3 e4 e5 e6 e7
 subst e1 e2 e3 e4 e5 e6 e7;refine qM [4] Tryz.func96 rfl rfl rfl ?_;unfold chk;have kle := Kept.mk hle;clear hle hx;refine zM ?_;refine zD ?_;refine zY (yl rfl rfl (fun b1 h1 hn1 hb1 hl1 => ?_)) rfl;refine zY (yl rfl rfl (fun b2 h2 hn2 hb2 hl2 => ?_)) rfl
 replace hb1 := hl2 _ _ hb1
 replace hl1 := Le.trans hl1 hl2
 refine zB (zK rfl) rfl rfl rfl ?_;refine zN ?_;refine zA ?_;refine zM ?_;have hl := hl1;have hat : At (mp h2) ⟨b2, 2, none⟩ [.int .i8 nop, .int .i64 nn, .int .i8 nwho, .slice nA nlen nc] := At.blkO (k := 4) hb2;refine YJ [(0, .pure), (2, .pure), (1, .read), (3, .read), (4, .kept), (5, .kept), (6, .kept), (7, .pure)] mixed (by kernel_rfl) (fun _ _ _ _ hq => hq) ?_
 refine xJ rfl (zJ qh rfl) rfl rfl rfl ?_;refine xJ rfl (zJ WA rfl) rfl rfl rfl ?_;refine ql rfl (za sg109 rfl (zU hb1 rfl)) rfl rfl rfl ?_;refine ql rfl (zX ag85 rfl rfl hat) rfl rfl rfl ?_;refine wP rfl (yB cl123 rfl ((kv hn h2 (kle.out.trans hl))) rfl ?_) rfl;rintro _ h3 ⟨rfl, hl3⟩;refine ⟨hl3, ?_⟩
 refine wP rfl (yB cl122 rfl ((xe h3 _ _)) rfl ?_) rfl;rintro _ h4 ⟨rfl, hl4⟩;refine ⟨hl4, ?_⟩;refine wP rfl (yB cl125 rfl ((Wk h4 _ 1)) rfl ?_) rfl;rintro _ h5 ⟨rfl, hl5⟩;refine ⟨hl5, ?_⟩;refine xJ rfl (zK rfl) rfl rfl rfl ?_;refine YH ?_;refine zA ?_;refine yH ?_;refine zi rfl ?_;exact ⟨rfl, hl.trans (hl3.trans (hl4.trans hl5))⟩
def AllOK (m : Mp) (v : Value) (l : List EffT) : Prop := ∀ (u : Int) (h : Heap), Le m (mp h) → C Tryz.prog 55 [chk u, v].toArray h fun r h' => r = .bool (rightS u l) ∧ Le (mp h) (mp h')
def AllKids (m : Mp) (cs : List Value) : EffT → Prop
 | .mk _ _ _ _ _ thn els => (∀ v, cs[12]? = some v → AllOK m v thn) ∧ (∀ v, cs[13]? = some v → AllOK m v els)
theorem XG {m : Mp} {cs : List Value} {op who : Int} {n : NumT} {name : List UInt8} {cond : CondT} {thn els : List EffT} (hx : EffR m cs (.mk op who n name cond thn els)) (hk : AllKids m cs (.mk op who n name cond thn els)) (h : Heap) (u : Int) (hle : Le m (mp h)) :
  C Tryz.prog 97 [chk u, .agg cs.toArray].toArray h fun v h' => v = .bool (rightS (joinP u (condL cond)) thn && rightS (joinP u (condL cond)) els) ∧ Le (mp h) (mp h') := by
 obtain ⟨op', who', nop, nn, nwho, nA, nlen, nc, name', cop, cwho, cname, cA, cla, cca, cB, clb, ccb, A1, la, ca, B1, lb, cb, n', cond', thn', els', rfl, hmk, _, hn, hcd, _, _⟩ := hx.parts
 injection hmk with e1 e2 e3 e4 e5 e6 e7
 subst e1 e2 e3 e4 e5 e6 e7;obtain ⟨hkA, hkB⟩ := hk;have hkA := hkA _ rfl;have hkB := hkB _ rfl;refine qM [4] Tryz.func97 rfl rfl rfl ?_;unfold chk;have kle := Kept.mk hle;clear hle hx;refine zM ?_;refine zD ?_;refine zY (yl rfl rfl (fun b1 h1 hn1 hb1 hl1 => ?_)) rfl;refine zY (yl rfl rfl (fun b2 h2 hn2 hb2 hl2 => ?_)) rfl
 replace hb1 := hl2 _ _ hb1
 replace hl1 := Le.trans hl1 hl2
 refine zB (zK rfl) rfl rfl rfl ?_;refine zN ?_;refine zA ?_;refine zM ?_;have hl := hl1;have hat : At (mp h2) ⟨b2, 7, none⟩ [.int .i8 cop, .int .i8 cwho, .string (bs cname), .slice cA cla cca, .slice cB clb ccb] := At.blkO (k := 5) hb2;have kb2 := Kept.mk hb2;have kl := Kept.mk hl
 refine T_cut (fun b3 : Nat => [(3, ptrL b2), (5, ptrL b3)]) (fun b3 h' => mp h' b3 = some (.cells [lab (joinP u (condL cond))].toArray 111 (0, 0)) ∧ Le (mp h2) (mp h')) ?_ ?_
 ·have hcc := Wj hcd;clear hl hl1 hl2 hn1 hn2
  refine Yg (.step 0 .pure (.step 2 .pure (.step 1 .read (.step 3 .read (.fork (.step 4 .kept (.fork (.step 5 .kept (.step 6 .pure (.step 7 .kept (.step 8 .wild (.done))))) (.step 7 .kept (.step 5 .kept (.step 6 .pure (.step 8 .wild (.done))))))) (.step 7 .kept (.step 4 .kept (.step 5 .kept (.step 6 .pure (.step 8 .wild (.done))))))))))) mixed (by kernel_rfl) (fun _ _ _ _ hq => hq) ?_
  refine vj rfl (zJ qh rfl) rfl rfl rfl ?_;refine vj rfl (zJ fo90_4 rfl) rfl rfl rfl ?_;refine ki rfl (za sg109 rfl (zU hb1 rfl)) rfl rfl rfl ?_;refine ki rfl (zX ag88 rfl rfl hat) rfl rfl rfl ?_;refine kk ?_ ?_
  ·refine xu rfl (yB cl126 rfl ((hcc h2 (kle.out.trans kl.out))) rfl ?_) rfl;rintro _ h3 ⟨rfl, hl3⟩;refine ⟨hl3, ?_⟩;clear hb1 hb2 hat;refine kk ?_ ?_
   ·refine xu rfl (yB cl122 rfl ((xe h3 _ _)) rfl ?_) rfl;rintro _ h4 ⟨rfl, hl4⟩;refine ⟨hl4, ?_⟩;have hl34 := Kept.mk (hl3.trans hl4);clear hl3 hl4;refine vj rfl (zT zl111 pl111 rfl rfl) rfl rfl rfl ?_;refine xu rfl (xK zl111 rfl (fun b3 h5 hn1 hb1 hl1 => ⟨hl1, ?_⟩)) rfl
    refine qj rfl rfl (yA ag111 rfl rfl rfl hb1 rfl rfl (fun h6 hb2 hl2 hn2 => ?_)) rfl;refine kj ?_;exact ⟨b3, ⟨rfl, rfl, trivial⟩, ⟨hb2, hl34.out.trans (hl1.stored hn1 hl2)⟩, Nat.zero_lt_one⟩
   ·have kl3 := Kept.mk hl3;clear hl3;refine xu rfl (xK zl111 rfl (fun b3 h4 hn1 hb1 hl1 => ⟨hl1, ?_⟩)) rfl;refine xu rfl (yB cl122 rfl ((xe _ _ _)) rfl ?_) rfl;rintro _ h5 ⟨rfl, hl5⟩;refine ⟨hl5, ?_⟩;have hb1' := hl5 _ _ hb1;clear hb1;refine vj rfl (zT zl111 pl111 rfl rfl) rfl rfl rfl ?_
    refine qj rfl rfl (yA ag111 rfl rfl rfl hb1' rfl rfl (fun h6 hb1 hl2 hn2 => ?_)) rfl;refine kj ?_;exact ⟨b3, ⟨rfl, rfl, trivial⟩, ⟨hb1, kl3.out.trans ((hl1.trans hl5).stored hn1 hl2)⟩, Nat.zero_lt_one⟩
  ·clear hb1 hb2 hat;refine xu rfl (xK zl111 rfl (fun b3 h3 hn1 hb1 hl1 => ⟨hl1, ?_⟩)) rfl;refine xu rfl (yB cl126 rfl ((hcc _ (kle.out.trans (kl.out.trans hl1)))) rfl ?_) rfl;rintro _ h4 ⟨rfl, hl4⟩;refine ⟨hl4, ?_⟩;refine xu rfl (yB cl122 rfl ((xe _ _ _)) rfl ?_) rfl;rintro _ h5 ⟨rfl, hl5⟩;refine ⟨hl5, ?_⟩;have hb1' := hl5 _ _ (hl4 _ _ hb1);clear hb1
   refine vj rfl (zT zl111 pl111 rfl rfl) rfl rfl rfl ?_;refine qj rfl rfl (yA ag111 rfl rfl rfl hb1' rfl rfl (fun h6 hb1 hl2 hn2 => ?_)) rfl;refine kj ?_;exact ⟨b3, ⟨rfl, rfl, trivial⟩, ⟨hb1, (hl1.trans (hl4.trans hl5)).stored hn1 hl2⟩, Nat.zero_lt_one⟩
 ·rintro b3 h3 ⟨hb3, hl3⟩;clear hl hl1 hl2 hn1 hn2 hb1 hb2 hat;have hb2 := hl3 _ _ kb2.out;have hl03 := kl.out.trans hl3;have kl03 := Kept.mk hl03;generalize joinP u (condL cond) = j at *;have c1 := hkA j h3 (kle.out.trans hl03);refine zM ?_;refine zD ?_;refine zO (zX ag111 rfl rfl (At.blk hb3)) rfl rfl rfl ?_;refine zB (zJ fo90_5 rfl) rfl rfl rfl ?_
  refine zO (za sg46 rfl (zU hb2 rfl)) rfl rfl rfl ?_;refine zY (yB cl55 rfl (c1) rfl ?_) rfl;rintro _ h4 ⟨rfl, hl4⟩;have hb2' := hl4 _ _ hb2;have hb3' := hl4 _ _ hb3;clear hb2 hb3 hl3 hl03;have c2 := hkB j h4 (kle.out.trans (kl03.out.trans hl4));cases hr : rightS j thn with
  | false =>
    refine zB (zV rfl) rfl rfl rfl ?_
    iterate 4 (refine w9 rfl rfl rfl ?_)
    refine zB (xH rfl rfl) rfl rfl rfl ?_;refine zB (zK rfl) rfl rfl rfl ?_;refine zN ?_;refine zA ?_;refine yH ?_;refine zi rfl ?_;exact ⟨rfl, kl03.out.trans hl4⟩
  | true =>
    refine zB (zV rfl) rfl rfl rfl ?_;refine zO (zX ag111 rfl rfl (At.blk hb3')) rfl rfl rfl ?_;refine zB (zJ fo90_6 rfl) rfl rfl rfl ?_;refine zO (za sg46 rfl (zU hb2' rfl)) rfl rfl rfl ?_;refine zY (yB cl55 rfl (c2) rfl ?_) rfl;rintro _ h5 ⟨rfl, hl5⟩;refine zB (yN rfl rfl) rfl rfl rfl ?_;refine zB (zK rfl) rfl rfl rfl ?_
    refine zN ?_;refine zA ?_;refine yH ?_;refine zi rfl ?_;exact ⟨by simp, kl03.out.trans (hl4.trans hl5)⟩
def fnV (f : Nat) (u : Int) : Value := .func (.func f) [chk u].toArray [].toArray
def asksL (u : Int) : List Value := [fnV 94 u, fnV 94 u, fnV 94 u, fnV 94 u, fnV 95 u, fnV 96 u, fnV 95 u, fnV 95 u, fnV 97 u]
theorem clos_ok {m : Mp} {cs : List Value} {x : EffT} (hx : EffR m cs x) (hk : AllKids m cs x) (u : Int) (h : Heap) (b1 b2 : Nat) (hle : Le m (mp h)) (hb1 : mp h b1 = some (.cells [lab u].toArray 111 (0, 0))) (hb2 : mp h b2 = some (.cells (asksL u).toArray 153 (0, 0))) :
  C Tryz.prog 99 [.agg cs.toArray, ptrL b1, ptrL b2].toArray h fun v h' => v = .bool (!rightE u x) ∧ Le (mp h) (mp h') := by
 obtain ⟨op, who, nop, nn, nwho, nA, nlen, nc, name, cop, cwho, cname, cA, cla, cca, cB, clb, ccb, A1, la, ca, B1, lb, cb, n, cond, thn, els, rfl, rfl, ho, hn, hcd, _, _⟩ := hx.parts;refine qM [4] Tryz.func99 rfl rfl rfl ?_;have kle := Kept.mk hle;clear hle;unfold asksL at hb2;have hcase : op = 0 ∨ op = 1 ∨ op = 2 ∨ op = 3 ∨ op = 4 ∨ op = 5 ∨ op = 6 ∨ op = 7 ∨ op = 8 ∨ op < 0 ∨ 9 ≤ op := by omega
 have ho1 := ho.1;have ho2 := ho.2;rcases hcase with h0 | h0 | h0 | h0 | h0 | h0 | h0 | h0 | h0 | h0 | h0
 ·subst h0;refine zM ?_;refine zD ?_;refine zY (yl rfl rfl (fun b3 h1 hn1 hb3 hl1 => ?_)) rfl
  replace hb1 := hl1 _ _ hb1
  replace hb2 := hl1 _ _ hb2
  refine zB (zK rfl) rfl rfl rfl ?_;refine zN ?_;refine zA ?_;refine zM ?_;refine zD ?_;refine zO (zX ag111 rfl rfl (At.blk hb1)) rfl rfl rfl ?_;refine zB (zt rfl rfl) rfl rfl rfl ?_;refine zB (zK rfl) rfl rfl rfl ?_;refine zN ?_;refine zA ?_;refine zM ?_;refine zM ?_;refine zD ?_
  refine zB (zJ yF rfl) rfl rfl rfl ?_;refine zO (za sg82 rfl (zU hb3 rfl)) rfl rfl rfl ?_;refine zB (dt (xd rfl rfl) (by first | assumption | rfl | omega | decide)) rfl rfl rfl ?_;refine zB (zV rfl) rfl rfl rfl ?_;refine zB (zJ yF rfl) rfl rfl rfl ?_;refine zO (za sg82 rfl (zU hb3 rfl)) rfl rfl rfl ?_
  refine zB (yK us82 ik3 rfl (w64 (by omega) (by omega))) rfl rfl rfl ?_;refine zB (dt (yz rfl rfl) (by first | assumption | rfl | omega | decide)) rfl rfl rfl ?_;refine zB (yN rfl rfl) rfl rfl rfl ?_;refine zN ?_;refine zA ?_;refine yQ rfl ?_;refine zD ?_;refine zB (zJ yF rfl) rfl rfl rfl ?_
  refine zO (za sg82 rfl (zU hb3 rfl)) rfl rfl rfl ?_;refine zB (yJ ar153 rfl rfl (by omega) (by omega)) rfl rfl rfl ?_;refine zO (za sg152 rfl (zU hb2 rfl)) rfl rfl rfl ?_;refine zB (zK rfl) rfl rfl rfl ?_;refine zN ?_;refine zA ?_;refine zM ?_;refine zD ?_;refine zB (zV rfl) rfl rfl rfl ?_
  refine zO (zX ag90 rfl rfl (At.blk hb3)) rfl rfl rfl ?_;refine zY (xD (by kernel_rfl) rfl rfl ((vY hx _ u (kle.out.trans hl1))) rfl ?_) rfl;rintro _ h4 ⟨rfl, hl4⟩;refine zB (xb rfl) rfl rfl rfl ?_;refine zB (zK rfl) rfl rfl rfl ?_;refine zN ?_;refine zA ?_;refine yH ?_;refine zi rfl ?_;exact ⟨by simp [rightE], hl1.trans hl4⟩
 ·subst h0;refine zM ?_;refine zD ?_;refine zY (yl rfl rfl (fun b3 h1 hn1 hb3 hl1 => ?_)) rfl
  replace hb1 := hl1 _ _ hb1
  replace hb2 := hl1 _ _ hb2
  refine zB (zK rfl) rfl rfl rfl ?_;refine zN ?_;refine zA ?_;refine zM ?_;refine zD ?_;refine zO (zX ag111 rfl rfl (At.blk hb1)) rfl rfl rfl ?_;refine zB (zt rfl rfl) rfl rfl rfl ?_;refine zB (zK rfl) rfl rfl rfl ?_;refine zN ?_;refine zA ?_;refine zM ?_;refine zM ?_;refine zD ?_
  refine zB (zJ yF rfl) rfl rfl rfl ?_;refine zO (za sg82 rfl (zU hb3 rfl)) rfl rfl rfl ?_;refine zB (dt (xd rfl rfl) (by first | assumption | rfl | omega | decide)) rfl rfl rfl ?_;refine zB (zV rfl) rfl rfl rfl ?_;refine zB (zJ yF rfl) rfl rfl rfl ?_;refine zO (za sg82 rfl (zU hb3 rfl)) rfl rfl rfl ?_
  refine zB (yK us82 ik3 rfl (w64 (by omega) (by omega))) rfl rfl rfl ?_;refine zB (dt (yz rfl rfl) (by first | assumption | rfl | omega | decide)) rfl rfl rfl ?_;refine zB (yN rfl rfl) rfl rfl rfl ?_;refine zN ?_;refine zA ?_;refine yQ rfl ?_;refine zD ?_;refine zB (zJ yF rfl) rfl rfl rfl ?_
  refine zO (za sg82 rfl (zU hb3 rfl)) rfl rfl rfl ?_;refine zB (yJ ar153 rfl rfl (by omega) (by omega)) rfl rfl rfl ?_;refine zO (za sg152 rfl (zU hb2 rfl)) rfl rfl rfl ?_;refine zB (zK rfl) rfl rfl rfl ?_;refine zN ?_;refine zA ?_;refine zM ?_;refine zD ?_;refine zB (zV rfl) rfl rfl rfl ?_
  refine zO (zX ag90 rfl rfl (At.blk hb3)) rfl rfl rfl ?_;refine zY (xD (by kernel_rfl) rfl rfl ((vY hx _ u (kle.out.trans hl1))) rfl ?_) rfl;rintro _ h4 ⟨rfl, hl4⟩;refine zB (xb rfl) rfl rfl rfl ?_;refine zB (zK rfl) rfl rfl rfl ?_;refine zN ?_;refine zA ?_;refine yH ?_;refine zi rfl ?_;exact ⟨by simp [rightE], hl1.trans hl4⟩
 ·subst h0;refine zM ?_;refine zD ?_;refine zY (yl rfl rfl (fun b3 h1 hn1 hb3 hl1 => ?_)) rfl
  replace hb1 := hl1 _ _ hb1
  replace hb2 := hl1 _ _ hb2
  refine zB (zK rfl) rfl rfl rfl ?_;refine zN ?_;refine zA ?_;refine zM ?_;refine zD ?_;refine zO (zX ag111 rfl rfl (At.blk hb1)) rfl rfl rfl ?_;refine zB (zt rfl rfl) rfl rfl rfl ?_;refine zB (zK rfl) rfl rfl rfl ?_;refine zN ?_;refine zA ?_;refine zM ?_;refine zM ?_;refine zD ?_
  refine zB (zJ yF rfl) rfl rfl rfl ?_;refine zO (za sg82 rfl (zU hb3 rfl)) rfl rfl rfl ?_;refine zB (dt (xd rfl rfl) (by first | assumption | rfl | omega | decide)) rfl rfl rfl ?_;refine zB (zV rfl) rfl rfl rfl ?_;refine zB (zJ yF rfl) rfl rfl rfl ?_;refine zO (za sg82 rfl (zU hb3 rfl)) rfl rfl rfl ?_
  refine zB (yK us82 ik3 rfl (w64 (by omega) (by omega))) rfl rfl rfl ?_;refine zB (dt (yz rfl rfl) (by first | assumption | rfl | omega | decide)) rfl rfl rfl ?_;refine zB (yN rfl rfl) rfl rfl rfl ?_;refine zN ?_;refine zA ?_;refine yQ rfl ?_;refine zD ?_;refine zB (zJ yF rfl) rfl rfl rfl ?_
  refine zO (za sg82 rfl (zU hb3 rfl)) rfl rfl rfl ?_;refine zB (yJ ar153 rfl rfl (by omega) (by omega)) rfl rfl rfl ?_;refine zO (za sg152 rfl (zU hb2 rfl)) rfl rfl rfl ?_;refine zB (zK rfl) rfl rfl rfl ?_;refine zN ?_;refine zA ?_;refine zM ?_;refine zD ?_;refine zB (zV rfl) rfl rfl rfl ?_
  refine zO (zX ag90 rfl rfl (At.blk hb3)) rfl rfl rfl ?_;refine zY (xD (by kernel_rfl) rfl rfl ((vY hx _ u (kle.out.trans hl1))) rfl ?_) rfl;rintro _ h4 ⟨rfl, hl4⟩;refine zB (xb rfl) rfl rfl rfl ?_;refine zB (zK rfl) rfl rfl rfl ?_;refine zN ?_;refine zA ?_;refine yH ?_;refine zi rfl ?_;exact ⟨by simp [rightE], hl1.trans hl4⟩
 ·subst h0;refine zM ?_;refine zD ?_;refine zY (yl rfl rfl (fun b3 h1 hn1 hb3 hl1 => ?_)) rfl
  replace hb1 := hl1 _ _ hb1
  replace hb2 := hl1 _ _ hb2
  refine zB (zK rfl) rfl rfl rfl ?_;refine zN ?_;refine zA ?_;refine zM ?_;refine zD ?_;refine zO (zX ag111 rfl rfl (At.blk hb1)) rfl rfl rfl ?_;refine zB (zt rfl rfl) rfl rfl rfl ?_;refine zB (zK rfl) rfl rfl rfl ?_;refine zN ?_;refine zA ?_;refine zM ?_;refine zM ?_;refine zD ?_
  refine zB (zJ yF rfl) rfl rfl rfl ?_;refine zO (za sg82 rfl (zU hb3 rfl)) rfl rfl rfl ?_;refine zB (dt (xd rfl rfl) (by first | assumption | rfl | omega | decide)) rfl rfl rfl ?_;refine zB (zV rfl) rfl rfl rfl ?_;refine zB (zJ yF rfl) rfl rfl rfl ?_;refine zO (za sg82 rfl (zU hb3 rfl)) rfl rfl rfl ?_
  refine zB (yK us82 ik3 rfl (w64 (by omega) (by omega))) rfl rfl rfl ?_;refine zB (dt (yz rfl rfl) (by first | assumption | rfl | omega | decide)) rfl rfl rfl ?_;refine zB (yN rfl rfl) rfl rfl rfl ?_;refine zN ?_;refine zA ?_;refine yQ rfl ?_;refine zD ?_;refine zB (zJ yF rfl) rfl rfl rfl ?_
  refine zO (za sg82 rfl (zU hb3 rfl)) rfl rfl rfl ?_;refine zB (yJ ar153 rfl rfl (by omega) (by omega)) rfl rfl rfl ?_;refine zO (za sg152 rfl (zU hb2 rfl)) rfl rfl rfl ?_;refine zB (zK rfl) rfl rfl rfl ?_;refine zN ?_;refine zA ?_;refine zM ?_;refine zD ?_;refine zB (zV rfl) rfl rfl rfl ?_
  refine zO (zX ag90 rfl rfl (At.blk hb3)) rfl rfl rfl ?_;refine zY (xD (by kernel_rfl) rfl rfl ((vY hx _ u (kle.out.trans hl1))) rfl ?_) rfl;rintro _ h4 ⟨rfl, hl4⟩;refine zB (xb rfl) rfl rfl rfl ?_;refine zB (zK rfl) rfl rfl rfl ?_;refine zN ?_;refine zA ?_;refine yH ?_;refine zi rfl ?_;exact ⟨by simp [rightE], hl1.trans hl4⟩
 ·subst h0;refine zM ?_;refine zD ?_;refine zY (yl rfl rfl (fun b3 h1 hn1 hb3 hl1 => ?_)) rfl
  replace hb1 := hl1 _ _ hb1
  replace hb2 := hl1 _ _ hb2
  refine zB (zK rfl) rfl rfl rfl ?_;refine zN ?_;refine zA ?_;refine zM ?_;refine zD ?_;refine zO (zX ag111 rfl rfl (At.blk hb1)) rfl rfl rfl ?_;refine zB (zt rfl rfl) rfl rfl rfl ?_;refine zB (zK rfl) rfl rfl rfl ?_;refine zN ?_;refine zA ?_;refine zM ?_;refine zM ?_;refine zD ?_
  refine zB (zJ yF rfl) rfl rfl rfl ?_;refine zO (za sg82 rfl (zU hb3 rfl)) rfl rfl rfl ?_;refine zB (dt (xd rfl rfl) (by first | assumption | rfl | omega | decide)) rfl rfl rfl ?_;refine zB (zV rfl) rfl rfl rfl ?_;refine zB (zJ yF rfl) rfl rfl rfl ?_;refine zO (za sg82 rfl (zU hb3 rfl)) rfl rfl rfl ?_
  refine zB (yK us82 ik3 rfl (w64 (by omega) (by omega))) rfl rfl rfl ?_;refine zB (dt (yz rfl rfl) (by first | assumption | rfl | omega | decide)) rfl rfl rfl ?_;refine zB (yN rfl rfl) rfl rfl rfl ?_;refine zN ?_;refine zA ?_;refine yQ rfl ?_;refine zD ?_;refine zB (zJ yF rfl) rfl rfl rfl ?_
  refine zO (za sg82 rfl (zU hb3 rfl)) rfl rfl rfl ?_;refine zB (yJ ar153 rfl rfl (by omega) (by omega)) rfl rfl rfl ?_;refine zO (za sg152 rfl (zU hb2 rfl)) rfl rfl rfl ?_;refine zB (zK rfl) rfl rfl rfl ?_;refine zN ?_;refine zA ?_;refine zM ?_;refine zD ?_;refine zB (zV rfl) rfl rfl rfl ?_
  refine zO (zX ag90 rfl rfl (At.blk hb3)) rfl rfl rfl ?_;refine zY (xD (by kernel_rfl) rfl rfl ((wZ _ u _)) rfl ?_) rfl;rintro _ h4 ⟨rfl, hl4⟩;refine zB (xb rfl) rfl rfl rfl ?_;refine zB (zK rfl) rfl rfl rfl ?_;refine zN ?_;refine zA ?_;refine yH ?_;refine zi rfl ?_;exact ⟨by simp [rightE], hl1.trans hl4⟩
 ·subst h0;refine zM ?_;refine zD ?_;refine zY (yl rfl rfl (fun b3 h1 hn1 hb3 hl1 => ?_)) rfl
  replace hb1 := hl1 _ _ hb1
  replace hb2 := hl1 _ _ hb2
  refine zB (zK rfl) rfl rfl rfl ?_;refine zN ?_;refine zA ?_;refine zM ?_;refine zD ?_;refine zO (zX ag111 rfl rfl (At.blk hb1)) rfl rfl rfl ?_;refine zB (zt rfl rfl) rfl rfl rfl ?_;refine zB (zK rfl) rfl rfl rfl ?_;refine zN ?_;refine zA ?_;refine zM ?_;refine zM ?_;refine zD ?_
  refine zB (zJ yF rfl) rfl rfl rfl ?_;refine zO (za sg82 rfl (zU hb3 rfl)) rfl rfl rfl ?_;refine zB (dt (xd rfl rfl) (by first | assumption | rfl | omega | decide)) rfl rfl rfl ?_;refine zB (zV rfl) rfl rfl rfl ?_;refine zB (zJ yF rfl) rfl rfl rfl ?_;refine zO (za sg82 rfl (zU hb3 rfl)) rfl rfl rfl ?_
  refine zB (yK us82 ik3 rfl (w64 (by omega) (by omega))) rfl rfl rfl ?_;refine zB (dt (yz rfl rfl) (by first | assumption | rfl | omega | decide)) rfl rfl rfl ?_;refine zB (yN rfl rfl) rfl rfl rfl ?_;refine zN ?_;refine zA ?_;refine yQ rfl ?_;refine zD ?_;refine zB (zJ yF rfl) rfl rfl rfl ?_
  refine zO (za sg82 rfl (zU hb3 rfl)) rfl rfl rfl ?_;refine zB (yJ ar153 rfl rfl (by omega) (by omega)) rfl rfl rfl ?_;refine zO (za sg152 rfl (zU hb2 rfl)) rfl rfl rfl ?_;refine zB (zK rfl) rfl rfl rfl ?_;refine zN ?_;refine zA ?_;refine zM ?_;refine zD ?_;refine zB (zV rfl) rfl rfl rfl ?_
  refine zO (zX ag90 rfl rfl (At.blk hb3)) rfl rfl rfl ?_;refine zY (xD (by kernel_rfl) rfl rfl ((look_ok hx _ u (kle.out.trans hl1))) rfl ?_) rfl;rintro _ h4 ⟨rfl, hl4⟩;refine zB (xb rfl) rfl rfl rfl ?_;refine zB (zK rfl) rfl rfl rfl ?_;refine zN ?_;refine zA ?_;refine yH ?_;refine zi rfl ?_;exact ⟨by simp [rightE], hl1.trans hl4⟩
 ·subst h0;refine zM ?_;refine zD ?_;refine zY (yl rfl rfl (fun b3 h1 hn1 hb3 hl1 => ?_)) rfl
  replace hb1 := hl1 _ _ hb1
  replace hb2 := hl1 _ _ hb2
  refine zB (zK rfl) rfl rfl rfl ?_;refine zN ?_;refine zA ?_;refine zM ?_;refine zD ?_;refine zO (zX ag111 rfl rfl (At.blk hb1)) rfl rfl rfl ?_;refine zB (zt rfl rfl) rfl rfl rfl ?_;refine zB (zK rfl) rfl rfl rfl ?_;refine zN ?_;refine zA ?_;refine zM ?_;refine zM ?_;refine zD ?_
  refine zB (zJ yF rfl) rfl rfl rfl ?_;refine zO (za sg82 rfl (zU hb3 rfl)) rfl rfl rfl ?_;refine zB (dt (xd rfl rfl) (by first | assumption | rfl | omega | decide)) rfl rfl rfl ?_;refine zB (zV rfl) rfl rfl rfl ?_;refine zB (zJ yF rfl) rfl rfl rfl ?_;refine zO (za sg82 rfl (zU hb3 rfl)) rfl rfl rfl ?_
  refine zB (yK us82 ik3 rfl (w64 (by omega) (by omega))) rfl rfl rfl ?_;refine zB (dt (yz rfl rfl) (by first | assumption | rfl | omega | decide)) rfl rfl rfl ?_;refine zB (yN rfl rfl) rfl rfl rfl ?_;refine zN ?_;refine zA ?_;refine yQ rfl ?_;refine zD ?_;refine zB (zJ yF rfl) rfl rfl rfl ?_
  refine zO (za sg82 rfl (zU hb3 rfl)) rfl rfl rfl ?_;refine zB (yJ ar153 rfl rfl (by omega) (by omega)) rfl rfl rfl ?_;refine zO (za sg152 rfl (zU hb2 rfl)) rfl rfl rfl ?_;refine zB (zK rfl) rfl rfl rfl ?_;refine zN ?_;refine zA ?_;refine zM ?_;refine zD ?_;refine zB (zV rfl) rfl rfl rfl ?_
  refine zO (zX ag90 rfl rfl (At.blk hb3)) rfl rfl rfl ?_;refine zY (xD (by kernel_rfl) rfl rfl ((wZ _ u _)) rfl ?_) rfl;rintro _ h4 ⟨rfl, hl4⟩;refine zB (xb rfl) rfl rfl rfl ?_;refine zB (zK rfl) rfl rfl rfl ?_;refine zN ?_;refine zA ?_;refine yH ?_;refine zi rfl ?_;exact ⟨by simp [rightE], hl1.trans hl4⟩
 ·subst h0;refine zM ?_;refine zD ?_;refine zY (yl rfl rfl (fun b3 h1 hn1 hb3 hl1 => ?_)) rfl
  replace hb1 := hl1 _ _ hb1
  replace hb2 := hl1 _ _ hb2
  refine zB (zK rfl) rfl rfl rfl ?_;refine zN ?_;refine zA ?_;refine zM ?_;refine zD ?_;refine zO (zX ag111 rfl rfl (At.blk hb1)) rfl rfl rfl ?_;refine zB (zt rfl rfl) rfl rfl rfl ?_;refine zB (zK rfl) rfl rfl rfl ?_;refine zN ?_;refine zA ?_;refine zM ?_;refine zM ?_;refine zD ?_
  refine zB (zJ yF rfl) rfl rfl rfl ?_;refine zO (za sg82 rfl (zU hb3 rfl)) rfl rfl rfl ?_;refine zB (dt (xd rfl rfl) (by first | assumption | rfl | omega | decide)) rfl rfl rfl ?_;refine zB (zV rfl) rfl rfl rfl ?_;refine zB (zJ yF rfl) rfl rfl rfl ?_;refine zO (za sg82 rfl (zU hb3 rfl)) rfl rfl rfl ?_
  refine zB (yK us82 ik3 rfl (w64 (by omega) (by omega))) rfl rfl rfl ?_;refine zB (dt (yz rfl rfl) (by first | assumption | rfl | omega | decide)) rfl rfl rfl ?_;refine zB (yN rfl rfl) rfl rfl rfl ?_;refine zN ?_;refine zA ?_;refine yQ rfl ?_;refine zD ?_;refine zB (zJ yF rfl) rfl rfl rfl ?_
  refine zO (za sg82 rfl (zU hb3 rfl)) rfl rfl rfl ?_;refine zB (yJ ar153 rfl rfl (by omega) (by omega)) rfl rfl rfl ?_;refine zO (za sg152 rfl (zU hb2 rfl)) rfl rfl rfl ?_;refine zB (zK rfl) rfl rfl rfl ?_;refine zN ?_;refine zA ?_;refine zM ?_;refine zD ?_;refine zB (zV rfl) rfl rfl rfl ?_
  refine zO (zX ag90 rfl rfl (At.blk hb3)) rfl rfl rfl ?_;refine zY (xD (by kernel_rfl) rfl rfl ((wZ _ u _)) rfl ?_) rfl;rintro _ h4 ⟨rfl, hl4⟩;refine zB (xb rfl) rfl rfl rfl ?_;refine zB (zK rfl) rfl rfl rfl ?_;refine zN ?_;refine zA ?_;refine yH ?_;refine zi rfl ?_;exact ⟨by simp [rightE], hl1.trans hl4⟩
 ·subst h0;refine zM ?_;refine zD ?_;refine zY (yl rfl rfl (fun b3 h1 hn1 hb3 hl1 => ?_)) rfl
  replace hb1 := hl1 _ _ hb1
  replace hb2 := hl1 _ _ hb2
  refine zB (zK rfl) rfl rfl rfl ?_;refine zN ?_;refine zA ?_;refine zM ?_;refine zD ?_;refine zO (zX ag111 rfl rfl (At.blk hb1)) rfl rfl rfl ?_;refine zB (zt rfl rfl) rfl rfl rfl ?_;refine zB (zK rfl) rfl rfl rfl ?_;refine zN ?_;refine zA ?_;refine zM ?_;refine zM ?_;refine zD ?_
  refine zB (zJ yF rfl) rfl rfl rfl ?_;refine zO (za sg82 rfl (zU hb3 rfl)) rfl rfl rfl ?_;refine zB (dt (xd rfl rfl) (by first | assumption | rfl | omega | decide)) rfl rfl rfl ?_;refine zB (zV rfl) rfl rfl rfl ?_;refine zB (zJ yF rfl) rfl rfl rfl ?_;refine zO (za sg82 rfl (zU hb3 rfl)) rfl rfl rfl ?_
  refine zB (yK us82 ik3 rfl (w64 (by omega) (by omega))) rfl rfl rfl ?_;refine zB (dt (yz rfl rfl) (by first | assumption | rfl | omega | decide)) rfl rfl rfl ?_;refine zB (yN rfl rfl) rfl rfl rfl ?_;refine zN ?_;refine zA ?_;refine yQ rfl ?_;refine zD ?_;refine zB (zJ yF rfl) rfl rfl rfl ?_
  refine zO (za sg82 rfl (zU hb3 rfl)) rfl rfl rfl ?_;refine zB (yJ ar153 rfl rfl (by omega) (by omega)) rfl rfl rfl ?_;refine zO (za sg152 rfl (zU hb2 rfl)) rfl rfl rfl ?_;refine zB (zK rfl) rfl rfl rfl ?_;refine zN ?_;refine zA ?_;refine zM ?_;refine zD ?_;refine zB (zV rfl) rfl rfl rfl ?_
  refine zO (zX ag90 rfl rfl (At.blk hb3)) rfl rfl rfl ?_;refine zY (xD (by kernel_rfl) rfl rfl ((XG hx hk _ u (kle.out.trans hl1))) rfl ?_) rfl;rintro _ h4 ⟨rfl, hl4⟩;refine zB (xb rfl) rfl rfl rfl ?_;refine zB (zK rfl) rfl rfl rfl ?_;refine zN ?_;refine zA ?_;refine yH ?_;refine zi rfl ?_;exact ⟨by simp [rightE], hl1.trans hl4⟩
 ·refine zM ?_;refine zD ?_;refine zY (yl rfl rfl (fun b3 h1 hn1 hb3 hl1 => ?_)) rfl
  replace hb1 := hl1 _ _ hb1
  replace hb2 := hl1 _ _ hb2
  refine zB (zK rfl) rfl rfl rfl ?_;refine zN ?_;refine zA ?_;refine zM ?_;refine zD ?_;refine zO (zX ag111 rfl rfl (At.blk hb1)) rfl rfl rfl ?_;refine zB (zt rfl rfl) rfl rfl rfl ?_;refine zB (zK rfl) rfl rfl rfl ?_;refine zN ?_;refine zA ?_;refine zM ?_;refine zM ?_;refine zD ?_
  refine zB (zJ yF rfl) rfl rfl rfl ?_;refine zO (za sg82 rfl (zU hb3 rfl)) rfl rfl rfl ?_;refine zB (df (xd rfl rfl) (by first | assumption | omega | decide | exact fun hx => hx (by assumption))) rfl rfl rfl ?_;refine zB (zV rfl) rfl rfl rfl ?_
  iterate 4 (refine w9 rfl rfl rfl ?_)
  refine zB (xH rfl rfl) rfl rfl rfl ?_;refine zN ?_;refine zA ?_;refine yW rfl ?_;refine xN ?_;refine zA ?_;refine zM ?_;refine zD ?_;refine zB (zV rfl) rfl rfl rfl ?_;refine zO (zX ag90 rfl rfl (At.blk hb3)) rfl rfl rfl ?_;refine zY (xD (by kernel_rfl) rfl rfl ((wZ _ u _)) rfl ?_) rfl;rintro _ h4 ⟨rfl, hl4⟩
  refine zB (xb rfl) rfl rfl rfl ?_;refine zB (zK rfl) rfl rfl rfl ?_;refine zN ?_;refine zA ?_;refine yH ?_;refine zi rfl ?_;exact ⟨by rw [rightE, if_neg (by omega), if_neg (by omega), if_neg (by omega)], hl1.trans hl4⟩
 ·refine zM ?_;refine zD ?_;refine zY (yl rfl rfl (fun b3 h1 hn1 hb3 hl1 => ?_)) rfl
  replace hb1 := hl1 _ _ hb1
  replace hb2 := hl1 _ _ hb2
  refine zB (zK rfl) rfl rfl rfl ?_;refine zN ?_;refine zA ?_;refine zM ?_;refine zD ?_;refine zO (zX ag111 rfl rfl (At.blk hb1)) rfl rfl rfl ?_;refine zB (zt rfl rfl) rfl rfl rfl ?_;refine zB (zK rfl) rfl rfl rfl ?_;refine zN ?_;refine zA ?_;refine zM ?_;refine zM ?_;refine zD ?_
  refine zB (zJ yF rfl) rfl rfl rfl ?_;refine zO (za sg82 rfl (zU hb3 rfl)) rfl rfl rfl ?_;refine zB (dt (xd rfl rfl) (by first | assumption | rfl | omega | decide)) rfl rfl rfl ?_;refine zB (zV rfl) rfl rfl rfl ?_;refine zB (zJ yF rfl) rfl rfl rfl ?_;refine zO (za sg82 rfl (zU hb3 rfl)) rfl rfl rfl ?_
  refine zB (yK us82 ik3 rfl (w64 (by omega) (by omega))) rfl rfl rfl ?_;refine zB (df (yz rfl rfl) (by first | assumption | omega | decide | exact fun hx => hx (by assumption))) rfl rfl rfl ?_;refine zB (yN rfl rfl) rfl rfl rfl ?_;refine zN ?_;refine zA ?_;refine yW rfl ?_;refine xN ?_;refine zA ?_;refine zM ?_;refine zD ?_
  refine zB (zV rfl) rfl rfl rfl ?_;refine zO (zX ag90 rfl rfl (At.blk hb3)) rfl rfl rfl ?_;refine zY (xD (by kernel_rfl) rfl rfl ((wZ _ u _)) rfl ?_) rfl;rintro _ h4 ⟨rfl, hl4⟩;refine zB (xb rfl) rfl rfl rfl ?_;refine zB (zK rfl) rfl rfl rfl ?_;refine zN ?_;refine zA ?_;refine yH ?_;refine zi rfl ?_
  exact ⟨by rw [rightE, if_neg (by omega), if_neg (by omega), if_neg (by omega)], hl1.trans hl4⟩
end
section
open La
def closV (b1 b2 : Nat) : Value := .func (.func 99) [].toArray [ptrL b1, ptrL b2].toArray
theorem XR {m : Mp} {A : Option Addr} {c : Nat} {vs : List Value} {l : List EffT} (hm : l.length ≤ maxLen) (hr : Rd m A vs) (hv : vs.length = l.length * 14) (hk : ∀ (i : Nat) (hi : i < l.length), EffR m ((vs.drop (i * 14)).take 14) l[i])
  (hs : ∀ (i : Nat) (hi : i < l.length), AllKids m ((vs.drop (i * 14)).take 14) l[i]) (u : Int) (h : Heap) (b1 b2 : Nat) (hle : Le m (mp h)) (hb1 : mp h b1 = some (.cells [lab u].toArray 111 (0, 0))) (hb2 : mp h b2 = some (.cells (asksL u).toArray 153 (0, 0))) :
  C Tryz.prog 127 [.slice A l.length c, closV b1 b2].toArray h fun v h' => ∃ z : Int, v = .int .i64 z ∧ (0 ≤ z ↔ rightS u l = false) ∧ Le (mp h) (mp h') := by
 simp only [maxLen] at hm;refine qM [4] Tryz.func127 rfl rfl rfl ?_;refine zM ?_;refine zD ?_;refine zB (zK rfl) rfl rfl rfl ?_;refine zN ?_;refine zA ?_;refine zM ?_;refine zM ?_;refine zD ?_;refine zB (zV rfl) rfl rfl rfl ?_;refine zB (j2 il46 rfl) rfl rfl rfl ?_;refine zB (zV rfl) rfl rfl rfl ?_;refine zN ?_
 refine zA ?_;refine yo ?_;refine qI (fun i : Nat => [(0, .slice A l.length c), (1, closV b1 b2), (7, .int .i64 l.length), (8, .int .i64 i)]) (fun i h' => i ≤ l.length ∧ rightS u (l.take i) = true ∧ Le (mp h) (mp h')) (fun i => l.length - i) 0 ⟨rfl, rfl, rfl, rfl, trivial⟩ ⟨Nat.zero_le _, by simp [rightS], Le.refl _⟩ ?_;rintro i h2 ⟨hi, hright, hle2⟩;by_cases hlt : i < l.length
 ·have he := hk i hlt;have hcl := fun h3 (hl3 : Le (mp h) (mp h3)) => clos_ok he (hs i hlt) u h3 b1 b2 (hle.trans hl3) (hl3 _ _ hb1) (hl3 _ _ hb2);have hA : A.isSome = true := hr.isSome (by omega);have hat := (hr.elem (i * 14) 14).mono (hle.trans hle2);obtain ⟨op, who, nop, nn, nwho, nA, nlen, nc, name, cop, cwho, cname, cA, cla, cca, cB, clb, ccb, A1, la, ca, B1, lb, cb, hc⟩ := he.form
  rw [hc] at hat hcl;have hsu := ZE (u := u) hlt;rw [hright, Bool.true_and] at hsu;clear he hc hk hs hb1 hb2;refine zM ?_;refine zD ?_;refine zB (dt (yz rfl rfl) (by first | assumption | rfl | omega | decide)) rfl rfl rfl ?_;refine zN ?_;refine zA ?_;refine zM ?_;refine yQ rfl ?_;refine xN ?_;refine zA ?_;refine zM ?_;refine yo ?_
  refine zM ?_;refine zD ?_;refine zB (zV rfl) rfl rfl rfl ?_;refine zB (zK rfl) rfl rfl rfl ?_;refine zN ?_;refine zA ?_;refine zM ?_;refine zD ?_
  iterate 3 (refine zB (zV rfl) rfl rfl rfl ?_)
  refine zB (y9 ez46 rfl rfl hA (by omega) (by omega)) rfl rfl rfl ?_;refine zO (zX ag90 rfl rfl hat) rfl rfl rfl ?_;refine zY (xD (by kernel_rfl) rfl rfl ((hcl h2 hle2)) rfl ?_) rfl;rintro _ h4 ⟨rfl, hl4⟩;cases hre : rightE u l[i] with
  | true =>
    rw [hre] at hsu;refine zN ?_;refine zA ?_;refine yW rfl ?_;refine xN ?_;refine yG ?_;refine zA ?_;refine zD ?_;refine zB (zy rfl rfl (w64 (by omega) (by omega))) rfl rfl rfl ?_;refine zB (zV rfl) rfl rfl rfl ?_;refine zN ?_
    exact ⟨i + 1, ⟨rfl, rfl, rfl, rfl, trivial⟩, ⟨by omega, hsu, hle2.trans hl4⟩, by show l.length - (i + 1) < l.length - i; omega⟩
  | false =>
    rw [hre] at hsu;refine zN ?_;refine zA ?_;refine yQ rfl ?_;refine zM ?_;refine zD ?_;refine zB (zV rfl) rfl rfl rfl ?_;refine zB (zK rfl) rfl rfl rfl ?_;refine zN ?_;refine zA ?_;refine yH ?_;refine yS ?_;refine yD ?_;refine wC ?_;refine yS ?_;refine yD ?_;refine zi rfl ?_
    refine ⟨i, rfl, ⟨fun _ => ?_, fun _ => by omega⟩, hle2.trans hl4⟩;rw [← List.take_append_drop (i + 1) l, vn, hsu]
    rfl
 ·refine zM ?_;refine zD ?_;refine zB (df (yz rfl rfl) (by first | assumption | omega | decide | exact fun hx => hx (by assumption))) rfl rfl rfl ?_;refine zN ?_;refine zA ?_;refine zM ?_;refine yW rfl ?_;refine qJ ?_;refine xf ?_;refine xQ ?_;refine xT ?_;refine zA ?_;refine zM ?_;refine zD ?_
  refine zB (zK rfl) rfl rfl rfl ?_;refine zN ?_;refine zA ?_;refine yH ?_;refine zi rfl ?_;rw [List.take_of_length_le (by omega)] at hright;exact ⟨-1, rfl, ⟨fun h => by omega, fun h => by rw [hright] at h; cases h⟩, hle2⟩
theorem Zd {m : Mp} {A : Option Addr} {c : Nat} {vs : List Value} {l : List EffT} (hm : l.length ≤ maxLen) (hr : Rd m A vs) (hv : vs.length = l.length * 14) (hk : ∀ (i : Nat) (hi : i < l.length), EffR m ((vs.drop (i * 14)).take 14) l[i])
  (hs : ∀ (i : Nat) (hi : i < l.length), AllKids m ((vs.drop (i * 14)).take 14) l[i]) (u : Int) (h : Heap) (b1 b2 : Nat) (hle : Le m (mp h)) (hb1 : mp h b1 = some (.cells [lab u].toArray 111 (0, 0))) (hb2 : mp h b2 = some (.cells (asksL u).toArray 153 (0, 0))) :
  C Tryz.prog 98 [.slice A l.length c, closV b1 b2].toArray h fun v h' => v = .bool (!rightS u l) ∧ Le (mp h) (mp h') := by
 have hc := XR (c := c) hm hr hv hk hs u h b1 b2 hle hb1 hb2;refine qM [4] Tryz.func98 rfl rfl rfl ?_;refine zM ?_;refine zD ?_;refine zB (zK rfl) rfl rfl rfl ?_;refine zN ?_;refine zA ?_;refine zM ?_;refine zD ?_;refine zB (zV rfl) rfl rfl rfl ?_;refine zB (zV rfl) rfl rfl rfl ?_;refine zY (yB cl127 rfl (hc) rfl ?_) rfl
 rintro _ h2 ⟨z, rfl, hz, hl2⟩
 have hd : decide (0 ≤ z) = !rightS u l := by
  cases hr : rightS u l with
  | true => rw [hr] at hz; simp at hz ⊢; omega
  | false => rw [hr] at hz; simp at hz ⊢; exact hz
 refine zB ((pv (xd rfl rfl) hd)) rfl rfl rfl ?_;refine zB (zK rfl) rfl rfl rfl ?_;refine zN ?_;refine zA ?_;refine yH ?_;refine zi rfl ?_;exact ⟨rfl, hl2⟩
theorem jR {m : Mp} {A : Option Addr} {c : Nat} {vs : List Value} {l : List EffT} (hm : l.length ≤ maxLen) (hr : Rd m A vs) (hv : vs.length = l.length * 14) (hk : ∀ (i : Nat) (hi : i < l.length), EffR m ((vs.drop (i * 14)).take 14) l[i])
  (hs : ∀ (i : Nat) (hi : i < l.length), AllKids m ((vs.drop (i * 14)).take 14) l[i]) : AllOK m (.slice A l.length c) l := by
 intro u h hle;refine qM [4] Tryz.func55 rfl rfl rfl ?_;unfold chk;have kle := Kept.mk hle;clear hle;refine zM ?_;refine zD ?_;refine zY (yl rfl rfl (fun b1 h1 hn1 hb1 hl1 => ?_)) rfl;refine zB (zK rfl) rfl rfl rfl ?_;refine zN ?_;refine zA ?_;refine zM ?_;refine zD ?_;refine zO (zX ag111 rfl rfl (At.blk hb1)) rfl rfl rfl ?_
 refine zB (zt rfl rfl) rfl rfl rfl ?_;refine zO (zX ag111 rfl rfl (At.blk hb1)) rfl rfl rfl ?_;refine zB (zt rfl rfl) rfl rfl rfl ?_;refine zO (zX ag111 rfl rfl (At.blk hb1)) rfl rfl rfl ?_;refine zB (zt rfl rfl) rfl rfl rfl ?_;refine zO (zX ag111 rfl rfl (At.blk hb1)) rfl rfl rfl ?_;refine zB (zt rfl rfl) rfl rfl rfl ?_
 refine zO (zX ag111 rfl rfl (At.blk hb1)) rfl rfl rfl ?_;refine zB (zt rfl rfl) rfl rfl rfl ?_;refine zO (zX ag111 rfl rfl (At.blk hb1)) rfl rfl rfl ?_;refine zB (zt rfl rfl) rfl rfl rfl ?_;refine zO (zX ag111 rfl rfl (At.blk hb1)) rfl rfl rfl ?_;refine zB (zt rfl rfl) rfl rfl rfl ?_
 refine zO (zX ag111 rfl rfl (At.blk hb1)) rfl rfl rfl ?_;refine zB (zt rfl rfl) rfl rfl rfl ?_;refine zO (zX ag111 rfl rfl (At.blk hb1)) rfl rfl rfl ?_;refine zB (zt rfl rfl) rfl rfl rfl ?_;refine zB (yr ar153 zl153 rfl rfl) rfl rfl rfl ?_;have kl1 := Kept.mk hl1;have kb1 := Kept.mk hb1;clear hl1 hb1 hn1
 refine zY (xK zl153 rfl (fun b2 h2 hn1 hb1 hl1 => ?_)) rfl;refine zY (yA ag153 rfl rfl rfl hb1 rfl rfl (fun h3 hb2 hl2 hn2 => ?_)) rfl;refine zN ?_;refine zA ?_;refine zM ?_;refine zD ?_;refine zB (zV rfl) rfl rfl rfl ?_;refine zB (zt rfl rfl) rfl rfl rfl ?_;have hl13 := hl1.stored hn1 hl2;have hl03 := kl1.out.trans hl13
 refine zY (yB cl98 rfl ((Zd (c := c) hm hr hv hk hs u _ b1 b2 (kle.out.trans hl03) (hl13 _ _ kb1.out) hb2)) rfl ?_) rfl;rintro _ h4 ⟨rfl, hl4⟩;refine zB (xb rfl) rfl rfl rfl ?_;refine zB (zK rfl) rfl rfl rfl ?_;refine zN ?_;refine zA ?_;refine yH ?_;refine zi rfl ?_;exact ⟨by simp, hl03.trans hl4⟩
theorem eff_all {m : Mp} {cs : List Value} {x : EffT} (hx : EffR m cs x) : AllKids m cs x := by
 induction hx with
 | @mk op who n name cond thn els ns cs A B la ca lb cb vs us ho hw hn hnm hc hla hma hra hva hka hlb hmb hrb hvb hkb ih1 ih2 =>
   obtain ⟨_, _, _, _, _, _, rfl⟩ := hn.form;obtain ⟨_, _, _, _, _, _, _, _, _, rfl⟩ := hc.form;subst hla hlb;have hA := jR (c := ca) hma hra hva hka ih1;have hB := jR (c := cb) hmb hrb hvb hkb ih2;refine ⟨fun u hu => ?_, fun u hu => ?_⟩
   ·simp at hu
    subst hu;exact hA
   ·simp at hu
    subst hu;exact hB
theorem ku {m : Mp} {A : Option Addr} {len c : Nat} {l : List EffT} (h : EffsR m A len l) : AllOK m (.slice A len c) l := by
 obtain ⟨rfl, hm, vs, hr, hv, hk⟩ := h;exact jR hm hr hv hk fun i hi => eff_all (hk i hi)
end
section
open La
def rightC (x : CardT) : Bool := rightS 0 x.played && (rightS 0 x.dead && rightS 0 x.dawn)
def lcheckP : List CardT → List Int
 | [] => [0, 0]
 | x :: r => if rightC x then lcheckP r else [140, x.at_]
theorem ue {l : List CardT} {i : Nat} (h : ∀ x ∈ l.take i, rightC x = true) : lcheckP l = lcheckP (l.drop i) := by
 induction l generalizing i with
 | nil => simp
 | cons x r ih =>
   cases i with
   | zero => rfl
   | succ i =>
     rw [lcheckP, if_pos (h x (by simp)), List.drop_succ_cons];exact ih fun y hy => h y (by simp [hy])
def faultL (l : List Int) : Value := .agg (intL [.i64, .i64] l).toArray
theorem XS {m : Mp} {A : Option Addr} {len c : Nat} {l : List CardT} (hl : CardsR m A len l) (h : Heap) (hle : Le m (mp h)) : C Tryz.prog 24 [.slice A len c].toArray h fun v h' => v = faultL (lcheckP l) ∧ Le (mp h) (mp h') := by
 obtain ⟨rfl, hm, vs, hr, hv, hk⟩ := hl;simp only [maxLen] at hm;refine Wn [.cell 2 31] Tryz.func24 rfl rfl rfl ?_;have kle := Kept.mk hle;clear hle;refine zM ?_;refine zD ?_;refine zY (xK zl31 rfl (fun b1 h1 hn1 hb1 hl1 => ?_)) rfl;refine zN ?_;refine zA ?_;refine zM ?_;refine zD ?_;refine zB (zT zl111 pl111 rfl rfl) rfl rfl rfl ?_
 have kl1 := Kept.mk hl1;have kb1 := Kept.mk hb1;have kn1 := Kept.mk hn1;clear hl1 hb1 hn1;refine zY (xK zl111 rfl (fun b2 h2 hn1 hb1 hl1 => ?_)) rfl;refine zY (yA ag111 rfl rfl rfl hb1 rfl rfl (fun h3 hb2 hl2 hn2 => ?_)) rfl;refine zN ?_;refine zA ?_;refine zM ?_;refine zM ?_;refine zD ?_;refine zB (zV rfl) rfl rfl rfl ?_
 refine zB (j2 il22 rfl) rfl rfl rfl ?_;refine zB (zV rfl) rfl rfl rfl ?_;refine zN ?_;refine zA ?_;refine yo ?_;have hl13 := hl1.stored hn1 hl2;have hl03 := kl1.out.trans hl13;have hb13 := hl13 _ _ kb1.out
 refine qI (fun i : Nat => [(2, ptrL b1), (3, ptrL b2), (7, .slice A l.length c), (8, .int .i64 l.length), (9, .int .i64 i)]) (fun i h' => i ≤ l.length ∧ (∀ x ∈ l.take i, rightC x = true) ∧ Le (mp h3) (mp h')) (fun i => l.length - i) 0 ⟨rfl, rfl, rfl, rfl, rfl, trivial⟩ ⟨Nat.zero_le _, by simp, Le.refl _⟩ ?_;have kl03 := Kept.mk hl03;have kb13 := Kept.mk hb13;have kb2 := Kept.mk hb2
 clear hl1 hn1 hl2 hl13 hl03 hb13 hb2 hb1 hn2;rintro i h2 ⟨hi, hright, hle2⟩;have hbr := hle2 _ _ kb13.out;have hbc := hle2 _ _ kb2.out;have kle2 := Kept.mk hle2;have kl02 := Kept.mk (kl03.out.trans hle2);by_cases hlt : i < l.length
 ·have hA : A.isSome = true := hr.isSome (by omega);have hat := (hr.elem (i * 12) 12).mono (kle.out.trans kl02.out);obtain ⟨P, lp, cp, D, ld, cd, W, lw, cw, hc, _, hP, hD, hW, _⟩ := hk i hlt;have hcx := hc;rw [hc] at hat
  have hcp : lcheckP l = if rightC l[i] then lcheckP (l.drop (i + 1)) else [140, l[i].at_] := by
   rw [ue hright, List.drop_eq_getElem_cons hlt, lcheckP]
  have hyes : rightC l[i] = true → ∀ x ∈ l.take (i + 1), rightC x = true := fun hx x hm => by
   rw [List.take_succ_eq_append_getElem hlt] at hm;rcases List.mem_append.1 hm with hm | hm
   ·exact hright x hm
   ·simp at hm; subst hm; exact hx
  have cP := fun h' (hh : Le (mp h) (mp h')) => ku (c := cp) hP 0 h' (kle.out.trans hh);have cD := fun h' (hh : Le (mp h) (mp h')) => ku (c := cd) hD 0 h' (kle.out.trans hh);have cW := fun h' (hh : Le (mp h) (mp h')) => ku (c := cw) hW 0 h' (kle.out.trans hh);generalize l[i] = x at *;clear hle2 hc hat;have hbr2 := Kept.mk hbr;have hbc2 := Kept.mk hbc;clear hbr hbc
  have hat := (hr.elem (i * 12) 12).mono (kle.out.trans kl02.out);rw [hcx] at hat;refine zM ?_;refine zD ?_;refine zB (dt (yz rfl rfl) (by first | assumption | rfl | omega | decide)) rfl rfl rfl ?_;refine zN ?_;refine zA ?_;refine zM ?_;refine yQ rfl ?_;refine xN ?_;refine zA ?_;refine zM ?_;refine yo ?_;refine zM ?_;refine zD ?_
  refine zB (y9 ez22 rfl rfl hA (by omega) (by omega)) rfl rfl rfl ?_;refine zO (zX ag48 rfl rfl hat) rfl rfl rfl ?_;refine zY (xK zl48 rfl (fun b3 h4 hn1 hb1 hl1 => ?_)) rfl
  replace hat := hat.mono hl1
  refine zY (yA ag48 rfl rfl rfl hb1 rfl rfl (fun h5 hb2 hl2 hn2 => ?_)) rfl;refine zN ?_;refine zA ?_;refine zM ?_;refine zD ?_;have hl24 := hl1.stored hn1 hl2;have hbr := hl24 _ _ hbr2.out;have hbc := hl24 _ _ hbc2.out;clear hl1 hn1 hl2 hn2 hb1 hat;refine zO (zX ag111 rfl rfl (At.blk hbc)) rfl rfl rfl ?_
  refine zB (zJ fo48_8 rfl) rfl rfl rfl ?_;refine zO (za sg46 rfl (zU hb2 rfl)) rfl rfl rfl ?_;refine zY (yB cl55 rfl ((cP _ (kl02.out.trans hl24))) rfl ?_) rfl;rintro _ h6 ⟨rfl, hl6⟩
  replace hb2 := hl6 _ _ hb2
  replace hl24 := Le.trans hl24 hl6
  replace hbr := hl6 _ _ hbr
  replace hbc := hl6 _ _ hbc
  clear hl6;cases hr1 : rightS 0 x.played with
  | false =>
    refine zB (xb rfl) rfl rfl rfl ?_;refine zB (zV rfl) rfl rfl rfl ?_
    iterate 5 (refine w9 rfl rfl rfl ?_)
    refine zB (yN rfl rfl) rfl rfl rfl ?_;refine zB (zV rfl) rfl rfl rfl ?_
    iterate 5 (refine w9 rfl rfl rfl ?_)
    refine zB (yN rfl rfl) rfl rfl rfl ?_;refine zN ?_;refine zA ?_;refine yQ rfl ?_;refine zM ?_;refine zD ?_;refine zB (zJ kR rfl) rfl rfl rfl ?_;refine zO (za sg3 rfl (zU hb2 rfl)) rfl rfl rfl ?_;refine zB (zT zl31 pl31 rfl rfl) rfl rfl rfl ?_
    refine zY (yA ag31 rfl rfl rfl hbr rfl rfl (fun h7 hb1 hl1 hn1 => ?_)) rfl;refine zN ?_;refine zA ?_;refine yH ?_;refine yS ?_;refine yD ?_;refine wC ?_;refine yS ?_;refine yD ?_;refine vH rfl hb1 ag31 ?_;refine ⟨?_, (kl02.out.trans hl24).stored kn1.out hl1⟩;rw [hcp, if_neg (by simp [rightC, hr1])]
    rfl
  | true =>
    refine zB (xb rfl) rfl rfl rfl ?_;refine zB (zV rfl) rfl rfl rfl ?_;refine zO (zX ag111 rfl rfl (At.blk hbc)) rfl rfl rfl ?_;refine zB (zJ fo48_9 rfl) rfl rfl rfl ?_;refine zO (za sg46 rfl (zU hb2 rfl)) rfl rfl rfl ?_;refine zY (yB cl55 rfl ((cD _ (kl02.out.trans hl24))) rfl ?_) rfl;rintro _ h7 ⟨rfl, hl7⟩
    replace hb2 := hl7 _ _ hb2
    replace hl24 := Le.trans hl24 hl7
    replace hbr := hl7 _ _ hbr
    replace hbc := hl7 _ _ hbc
    clear hl7;cases hr2 : rightS 0 x.dead with
    | false =>
      refine zB (xb rfl) rfl rfl rfl ?_;refine zB (xH rfl rfl) rfl rfl rfl ?_;refine zB (zV rfl) rfl rfl rfl ?_
      iterate 5 (refine w9 rfl rfl rfl ?_)
      refine zB (yN rfl rfl) rfl rfl rfl ?_;refine zN ?_;refine zA ?_;refine yQ rfl ?_;refine zM ?_;refine zD ?_;refine zB (zJ kR rfl) rfl rfl rfl ?_;refine zO (za sg3 rfl (zU hb2 rfl)) rfl rfl rfl ?_;refine zB (zT zl31 pl31 rfl rfl) rfl rfl rfl ?_
      refine zY (yA ag31 rfl rfl rfl hbr rfl rfl (fun h8 hb1 hl1 hn1 => ?_)) rfl;refine zN ?_;refine zA ?_;refine yH ?_;refine yS ?_;refine yD ?_;refine wC ?_;refine yS ?_;refine yD ?_;refine vH rfl hb1 ag31 ?_;refine ⟨?_, (kl02.out.trans hl24).stored kn1.out hl1⟩;rw [hcp, if_neg (by simp [rightC, hr2])]
      rfl
    | true =>
      refine zB (xb rfl) rfl rfl rfl ?_;refine zB (xH rfl rfl) rfl rfl rfl ?_;refine zB (zV rfl) rfl rfl rfl ?_;refine zO (zX ag111 rfl rfl (At.blk hbc)) rfl rfl rfl ?_;refine zB (zJ fo48_10 rfl) rfl rfl rfl ?_;refine zO (za sg46 rfl (zU hb2 rfl)) rfl rfl rfl ?_;refine zY (yB cl55 rfl ((cW _ (kl02.out.trans hl24))) rfl ?_) rfl
      rintro _ h8 ⟨rfl, hl8⟩
      replace hb2 := hl8 _ _ hb2
      replace hl24 := Le.trans hl24 hl8
      replace hbr := hl8 _ _ hbr
      replace hbc := hl8 _ _ hbc
      clear hl8;cases hr3 : rightS 0 x.dawn with
      | false =>
        refine zB (xb rfl) rfl rfl rfl ?_;refine zB (xH rfl rfl) rfl rfl rfl ?_;refine zN ?_;refine zA ?_;refine yQ rfl ?_;refine zM ?_;refine zD ?_;refine zB (zJ kR rfl) rfl rfl rfl ?_;refine zO (za sg3 rfl (zU hb2 rfl)) rfl rfl rfl ?_;refine zB (zT zl31 pl31 rfl rfl) rfl rfl rfl ?_
        refine zY (yA ag31 rfl rfl rfl hbr rfl rfl (fun h9 hb1 hl1 hn1 => ?_)) rfl;refine zN ?_;refine zA ?_;refine yH ?_;refine yS ?_;refine yD ?_;refine wC ?_;refine yS ?_;refine yD ?_;refine vH rfl hb1 ag31 ?_;refine ⟨?_, (kl02.out.trans hl24).stored kn1.out hl1⟩;rw [hcp, if_neg (by simp [rightC, hr3])]
        rfl
      | true =>
        refine zB (xb rfl) rfl rfl rfl ?_;refine zB (xH rfl rfl) rfl rfl rfl ?_;refine zN ?_;refine zA ?_;refine yW rfl ?_;refine xN ?_;refine yG ?_;refine zA ?_;refine zD ?_;refine zB (zy rfl rfl (w64 (by omega) (by omega))) rfl rfl rfl ?_;refine zB (zV rfl) rfl rfl rfl ?_;refine zN ?_
        exact ⟨i + 1, ⟨rfl, rfl, rfl, rfl, rfl, trivial⟩, ⟨by omega, hyes (by simp [rightC, hr1, hr2, hr3]), kle2.out.trans hl24⟩, by show l.length - (i + 1) < l.length - i; omega⟩
 ·refine zM ?_;refine zD ?_;refine zB (df (yz rfl rfl) (by first | assumption | omega | decide | exact fun hx => hx (by assumption))) rfl rfl rfl ?_;refine zN ?_;refine zA ?_;refine zM ?_;refine yW rfl ?_;refine qJ ?_;refine xf ?_;refine xQ ?_;refine xT ?_;refine zA ?_;refine zM ?_;refine zD ?_
  refine zB (zT zl31 pl31 rfl rfl) rfl rfl rfl ?_;refine zY (yA ag31 rfl rfl rfl hbr rfl rfl (fun h4 hb1 hl1 hn1 => ?_)) rfl;refine zN ?_;refine zA ?_;refine yH ?_;refine vH rfl hb1 ag31 ?_;refine ⟨?_, kl02.out.stored kn1.out hl1⟩;rw [ue hright, List.drop_of_length_le (by omega)]
  rfl
end
namespace Tp
open Go Go.Eng Wd Kd
abbrev sSp : List UInt8 := [32]
def d8 (k : Nat) : UInt8 := UInt8.ofNat (48 + k)
def dg (n : Nat) : List UInt8 := if n < 10 then [d8 n] else if n < 100 then [d8 (n / 10), d8 (n % 10)] else [d8 (n / 100), d8 (n / 10 % 10), d8 (n % 10)]
def decP (n : Int) : List UInt8 := dg n.toNat
def sideP (w : Int) : Option (List UInt8) := if w = 0 then some sMe else if w = 1 then some sFoe else none
def leafP (op n who : Int) : Option (List UInt8) :=
 if op = 0 then (if who = 0 ∧ 0 ≤ n ∧ n ≤ 999 then some (decP n) else none)
 else if n ≠ 0 then none
 else if op = 1 then (sideP who).map fun s => sLife ++ sOpen ++ s ++ sClose
 else if op = 2 then (sideP who).map fun s => sHand ++ sOpen ++ s ++ sClose
 else if op = 3 then (sideP who).map fun s => sDeck ++ sOpen ++ s ++ sClose
 else if op = 4 then (sideP who).map fun s => sUnits ++ sOpen ++ s ++ sClose
 else if who ≠ 0 then none
 else if op = 5 then some (sMana ++ sOpen ++ sMe ++ sClose)
 else if op = 6 then some (sCost ++ sOpen ++ sTop ++ sOpen ++ sMe ++ sClose ++ sClose)
 else if op = 7 then some (sPower ++ sOpen ++ sTarget ++ sClose)
 else none
def inP (d : Nat) (f : Nat → Option (List UInt8)) : Option (List UInt8) := if d + 1 ≤ 8 then f (d + 1) else none
def brP (br : Bool) (d : Nat) (f : Nat → Option (List UInt8)) : Option (List UInt8) := if br then (inP d f).map fun s => sOpen ++ s ++ sClose else f d
def opN : NumT → Int | .mk op _ _ _ => op
def isSum (x : NumT) : Bool := decide (opN x = 8) || decide (opN x = 9)
def opC : CondT → Int | .mk op _ _ _ _ => op
def putP (f : List UInt8 → List UInt8 → List UInt8) (a b : Option (List UInt8)) : Option (List UInt8) := a.bind fun s => b.bind fun t => some (f s t)
def minT (w s t : List UInt8) : List UInt8 := w ++ sOpen ++ s ++ sComma ++ sSp ++ t ++ sClose
def sgnT (w s t : List UInt8) : List UInt8 := s ++ sSp ++ w ++ sSp ++ t
def numP : NumT → Nat → Option (List UInt8)
 | .mk op n who [], _ => leafP op n who
 | .mk op n who [a, b], d =>
   if ¬ (n = 0 ∧ who = 0) then none
   else if op = 11 then putP (minT sMin) (inP d (numP a)) (inP d (numP b))
   else if op = 12 then putP (minT sMax) (inP d (numP a)) (inP d (numP b))
   else if op = 10 then putP (sgnT sStar) (brP (isSum a) d (numP a)) (brP (isSum b || decide (opN b = 10)) d (numP b))
   else if op = 8 then putP (sgnT sPlus) (numP a d) (brP (isSum b) d (numP b))
   else if op = 9 then putP (sgnT sMinus) (numP a d) (brP (isSum b) d (numP b))
   else none
 | _, _ => none
termination_by structural x => x
def condP : CondT → Nat → Option (List UInt8)
 | .mk op who name [a, b] [], d =>
   if ¬ (who = 0 ∧ name = []) then none
   else if op = 0 then putP (sgnT sLt) (numP a d) (numP b d)
   else if op = 1 then putP (sgnT sLe) (numP a d) (numP b d)
   else if op = 2 then putP (sgnT sEq) (numP a d) (numP b d)
   else none
 | .mk op who name [] [], _ => if op = 6 ∧ nameP name = true then (sideP who).map fun s => sHolds ++ sOpen ++ s ++ sComma ++ sSp ++ name ++ sClose else none
 | .mk op who name [] [k], d => if op = 3 ∧ who = 0 ∧ name = [] then (inP d fun d => brP (decide (opC k = 4) || decide (opC k = 5)) d (condP k)).map fun s => sNot ++ sSp ++ s else none
 | .mk op who name [] [a, b], d =>
   if ¬ (who = 0 ∧ name = []) then none
   else if op = 5 then putP (sgnT sOr) (condP a d) (brP (decide (opC b = 5)) d (condP b))
   else if op = 4 then putP (sgnT sAnd) (brP (decide (opC a = 5)) d (condP a)) (brP (decide (opC b = 5) || decide (opC b = 4)) d (condP b))
   else none
 | _, _ => none
termination_by structural x => x
def whoP (w : Int) : Option (List UInt8) := if w = 2 then some sTarget else sideP w
def zeroN : NumT → Bool | .mk op n who k => decide (op = 0) && decide (n = 0) && decide (who = 0) && k.isEmpty
def zeroC : CondT → Bool | .mk op who name ns k => decide (op = 0) && decide (who = 0) && name.isEmpty && ns.isEmpty && k.isEmpty
def lineP (w : List UInt8) (a b : Option (List UInt8)) : Option (List UInt8) := putP (fun s t => w ++ sSp ++ s ++ sSp ++ t ++ sSemi) a b
def line1 (w : List UInt8) (a : Option (List UInt8)) : Option (List UInt8) := a.map fun s => w ++ sSp ++ s ++ sSemi
mutual
def effP : EffT → Nat → Option (List UInt8)
 | .mk op who n name c t e, d =>
   if op = 8 then
    if who = 0 ∧ name = [] ∧ zeroN n = true then
     inP d fun d => (condP c d).bind fun s => (blkP t d).bind fun u => (blkP e d).bind fun v => some (sIf ++ sSp ++ s ++ sSp ++ sLb ++ u ++ sSp ++ sRb ++ sSp ++ sElse ++ sSp ++ sLb ++ v ++ sSp ++ sRb)
    else none
   else if ¬ (zeroC c = true ∧ t.isEmpty = true ∧ e.isEmpty = true) then none
   else if op = 7 then (if who = 0 ∧ zeroN n = true ∧ nameP name = true then line1 sSummon (some name) else none)
   else if ¬ name = [] then none
   else if op = 0 then lineP sHarm (whoP who) (numP n d)
   else if op = 1 then lineP sMend (whoP who) (numP n d)
   else if op = 2 then lineP sDraw (sideP who) (numP n d)
   else if op = 3 then (if who = 0 then line1 sGain (numP n d) else none)
   else if op = 5 then (if who = 0 then line1 sLook (numP n d) else none)
   else if op = 4 then (if zeroN n = true then line1 sDrop (sideP who) else none)
   else if op = 6 then (if zeroN n = true then line1 sShow (sideP who) else none)
   else none
termination_by structural x => x
def blkP : List EffT → Nat → Option (List UInt8)
 | [], _ => some []
 | x :: r, d => (effP x d).bind fun s => (blkP r d).bind fun u => some (sSp ++ s ++ u)
termination_by structural x => x
end
end Tp
namespace Tp
open Go Go.Eng Wd Kd
theorem uz (op n who : Int) (d : Nat) : numP (.mk op n who []) d = leafP op n who := by rw [numP]
def twoP (op : Int) (a b : NumT) (d : Nat) : Option (List UInt8) :=
 if op = 11 then putP (minT sMin) (inP d (numP a)) (inP d (numP b))
 else if op = 12 then putP (minT sMax) (inP d (numP a)) (inP d (numP b))
 else if op = 10 then putP (sgnT sStar) (brP (isSum a) d (numP a)) (brP (isSum b || decide (opN b = 10)) d (numP b))
 else if op = 8 then putP (sgnT sPlus) (numP a d) (brP (isSum b) d (numP b))
 else if op = 9 then putP (sgnT sMinus) (numP a d) (brP (isSum b) d (numP b))
 else none
theorem vK (op n who : Int) (a b : NumT) (d : Nat) : numP (.mk op n who [a, b]) d = if ¬ (n = 0 ∧ who = 0) then none else twoP op a b d := by rw [numP]; rfl
theorem Xv (op n who : Int) (k : List NumT) (d : Nat) (h0 : k ≠ []) (h2 : ∀ a b, k ≠ [a, b]) : numP (.mk op n who k) d = none := by
 match k, h0, h2 with
 | [], h0, _ => exact absurd rfl h0
 | [a], _, _ => rw [numP]; all_goals (intros; simp_all)
 | [a, b], _, h2 => exact absurd rfl (h2 a b)
 | a :: b :: c :: r, _, _ => rw [numP]; all_goals (intros; simp_all)
theorem xz {f : List UInt8 → List UInt8 → List UInt8} {a b : Option (List UInt8)} {s : List UInt8} (h : putP f a b = some s) : ∃ u v, a = some u ∧ b = some v ∧ s = f u v := by
 unfold putP at h;cases a with
 | none => cases h
 | some u =>
   cases b with
   | none => cases h
   | some v => exact ⟨u, v, rfl, rfl, (Option.some.inj h).symm⟩
theorem jE {d : Nat} {f : Nat → Option (List UInt8)} {s : List UInt8} (h : inP d f = some s) : d + 1 ≤ 8 ∧ f (d + 1) = some s := by
 unfold inP at h
 split at h
 ·exact ⟨‹_›, h⟩
 ·cases h
theorem WP {br : Bool} {d : Nat} {f : Nat → Option (List UInt8)} {s : List UInt8} (h : brP br d f = some s) : (br = false ∧ f d = some s) ∨ (br = true ∧ d + 1 ≤ 8 ∧ ∃ t, f (d + 1) = some t ∧ s = sOpen ++ t ++ sClose) := by
 unfold brP at h;cases br with
 | false => exact .inl ⟨rfl, h⟩
 | true =>
   rw [if_pos rfl] at h;cases hi : inP d f with
   | none => rw [hi] at h; cases h
   | some t =>
     rw [hi] at h;cases h;obtain ⟨h1, h2⟩ := jE hi;exact .inr ⟨rfl, h1, t, h2, rfl⟩
theorem Yu {op n who : Int} {k : List NumT} {d : Nat} {s : List UInt8} (h : numP (.mk op n who k) d = some s) : (k = [] ∧ leafP op n who = some s) ∨ ∃ a b, k = [a, b] ∧ n = 0 ∧ who = 0 ∧ twoP op a b d = some s := by
 by_cases h0 : k = []
 ·subst h0;rw [uz] at h;exact .inl ⟨rfl, h⟩
 by_cases h2 : ∀ a b, k ≠ [a, b]
 ·rw [Xv _ _ _ _ _ h0 h2] at h; cases h
 ·simp only [Classical.not_forall, Classical.not_not] at h2;obtain ⟨a, b, rfl⟩ := h2;rw [vK] at h
  split at h
  ·cases h
  ·rename_i hn
   have hn : n = 0 ∧ who = 0 := Classical.not_not.1 hn;exact .inr ⟨a, b, rfl, hn.1, hn.2, h⟩
end Tp
namespace Tp
open Go Go.Eng Wd Kd
inductive CondSm : CondT → Prop
 | mk {op who : Int} {name : List UInt8} {ns : List NumT} {ks : List CondT} (h : name.length ≤ 140737488355328) (hk : ∀ k ∈ ks, CondSm k) : CondSm (.mk op who name ns ks)
def shapeC (op : Int) (a b : Nat) : Prop :=
 ((op = 0 ∨ op = 1 ∨ op = 2) → a = 2 ∧ b = 0) ∧ (op = 3 → a = 0 ∧ b = 1) ∧ ((op = 4 ∨ op = 5) → a = 0 ∧ b = 2) ∧ (op = 6 → a = 0 ∧ b = 0) ∧ (0 ≤ op ∧ op ≤ 6)
theorem Zf {op who : Int} {name : List UInt8} {ns : List NumT} {ks : List CondT} {d : Nat} (h : ¬ shapeC op ns.length ks.length) : condP (.mk op who name ns ks) d = none := by
 unfold shapeC at h;rw [condP.eq_def]
 split
 ·rename_i heq
  cases heq
  split
  ·rfl
  ·have e1 : ∀ a b : NumT, [a, b].length = 2 := fun _ _ => rfl;have e2 : ([] : List CondT).length = 0 := rfl;rw [e1, e2] at h;rw [if_neg (by omega), if_neg (by omega), if_neg (by omega)]
 ·rename_i heq
  cases heq;have e1 : ([] : List NumT).length = 0 := rfl;have e2 : ([] : List CondT).length = 0 := rfl;rw [e1, e2] at h;rw [if_neg (fun h6 => by have := h6.1; omega)]
 ·rename_i heq
  cases heq;have e1 : ([] : List NumT).length = 0 := rfl;have e2 : ∀ a : CondT, [a].length = 1 := fun _ => rfl;rw [e1, e2] at h;rw [if_neg (fun h6 => by have := h6.1; omega)]
 ·rename_i heq
  cases heq
  split
  ·rfl
  ·have e1 : ([] : List NumT).length = 0 := rfl;have e2 : ∀ a b : CondT, [a, b].length = 2 := fun _ _ => rfl;rw [e1, e2] at h;rw [if_neg (by omega), if_neg (by omega)]
 ·rfl
theorem XD {op who : Int} {name : List UInt8} {ns : List NumT} {ks : List CondT} {d : Nat} (h6 : op ≠ 6) (h : ¬ (who = 0 ∧ name = [])) : condP (.mk op who name ns ks) d = none := by
 rw [condP.eq_def]
 split
 ·rename_i heq
  cases heq;rw [if_pos h]
 ·rename_i heq
  cases heq;rw [if_neg (fun h => h6 h.1)]
 ·rename_i heq
  cases heq;rw [if_neg (fun h2 => h h2.2)]
 ·rename_i heq
  cases heq;rw [if_pos h]
 ·rfl
theorem vQ (who : Int) (name : List UInt8) (d : Nat) : condP (.mk 6 who name [] []) d = if nameP name = true then (sideP who).map fun s => sHolds ++ sOpen ++ s ++ sComma ++ sSp ++ name ++ sClose else none := by
 rw [condP];by_cases h : nameP name = true
 ·rw [if_pos ⟨rfl, h⟩, if_pos h]
 ·rw [if_neg (fun h2 => h h2.2), if_neg h]
theorem uM (a b : NumT) (d : Nat) : condP (.mk 0 0 [] [a, b] []) d = putP (sgnT sLt) (numP a d) (numP b d) := by rw [condP]; rfl
theorem uL (a b : NumT) (d : Nat) : condP (.mk 1 0 [] [a, b] []) d = putP (sgnT sLe) (numP a d) (numP b d) := by rw [condP]; rfl
theorem uK (a b : NumT) (d : Nat) : condP (.mk 2 0 [] [a, b] []) d = putP (sgnT sEq) (numP a d) (numP b d) := by rw [condP]; rfl
theorem qB (k : CondT) (d : Nat) : condP (.mk 3 0 [] [] [k]) d = (inP d fun d => brP (decide (opC k = 4) || decide (opC k = 5)) d (condP k)).map fun s => sNot ++ sSp ++ s := by rw [condP]; rfl
theorem jM (a b : CondT) (d : Nat) : condP (.mk 5 0 [] [] [a, b]) d = putP (sgnT sOr) (condP a d) (brP (decide (opC b = 5)) d (condP b)) := by rw [condP]; rfl
theorem qC (a b : CondT) (d : Nat) : condP (.mk 4 0 [] [] [a, b]) d = putP (sgnT sAnd) (brP (decide (opC a = 5)) d (condP a)) (brP (decide (opC b = 5) || decide (opC b = 4)) d (condP b)) := by rw [condP]; rfl
inductive CondS : CondT → Nat → List UInt8 → Prop
 | cmp {op : Int} {w : List UInt8} {a b : NumT} {d : Nat} {u v : List UInt8} (hw : (op = 0 ∧ w = sLt) ∨ (op = 1 ∧ w = sLe) ∨ (op = 2 ∧ w = sEq)) (ha : numP a d = some u) (hb : numP b d = some v) : CondS (.mk op 0 [] [a, b] []) d (sgnT w u v)
 | holds {who : Int} {name s : List UInt8} {d : Nat} (hn : nameP name = true) (hs : sideP who = some s) : CondS (.mk 6 who name [] []) d (sHolds ++ sOpen ++ s ++ sComma ++ sSp ++ name ++ sClose)
 | not {k : CondT} {d : Nat} {s : List UInt8} (hd : d + 1 ≤ 8) (hk : brP (decide (opC k = 4) || decide (opC k = 5)) (d + 1) (condP k) = some s) : CondS (.mk 3 0 [] [] [k]) d (sNot ++ sSp ++ s)
 | or {a b : CondT} {d : Nat} {u v : List UInt8} (ha : condP a d = some u) (hb : brP (decide (opC b = 5)) d (condP b) = some v) : CondS (.mk 5 0 [] [] [a, b]) d (sgnT sOr u v)
 | and {a b : CondT} {d : Nat} {u v : List UInt8} (ha : brP (decide (opC a = 5)) d (condP a) = some u) (hb : brP (decide (opC b = 5) || decide (opC b = 4)) d (condP b) = some v) : CondS (.mk 4 0 [] [] [a, b]) d (sgnT sAnd u v)
theorem YA {x : CondT} {d : Nat} {s : List UInt8} (h : condP x d = some s) : CondS x d s := by
 obtain ⟨op, who, name, ns, ks⟩ := x;by_cases hs : shapeC op ns.length ks.length
 rotate_left
 ·rw [Zf hs] at h; cases h
 unfold shapeC at hs;by_cases h6 : op = 6
 ·subst h6;have hn := List.eq_nil_of_length_eq_zero (hs.2.2.2.1 rfl).1;have hk := List.eq_nil_of_length_eq_zero (hs.2.2.2.1 rfl).2;subst hn hk;rw [vQ] at h
  split at h
  ·cases hw : sideP who with
   | none => rw [hw] at h; cases h
   | some t =>
     rw [hw] at h;cases h;exact .holds ‹_› hw
  ·cases h
 by_cases hw : who = 0 ∧ name = []
 rotate_left
 ·rw [XD h6 hw] at h; cases h
 obtain ⟨rfl, rfl⟩ := hw
 have two : ∀ {α : Type} {l : List α}, l.length = 2 → ∃ a b, l = [a, b] := fun {α l} h => by
  match l, h with
  | [a, b], _ => exact ⟨a, b, rfl⟩
 by_cases h3 : op = 3
 ·subst h3;have hn := List.eq_nil_of_length_eq_zero (hs.2.1 rfl).1;obtain ⟨k, rfl⟩ := List.length_eq_one_iff.1 (hs.2.1 rfl).2;subst hn;rw [qB] at h;cases hi : (inP d fun d => brP (decide (opC k = 4) || decide (opC k = 5)) d (condP k)) with
  | none => rw [hi] at h; cases h
  | some t =>
    rw [hi] at h;cases h;obtain ⟨h1, h2⟩ := jE hi;exact .not h1 h2
 by_cases h4 : op = 4
 ·subst h4;have hn := List.eq_nil_of_length_eq_zero (hs.2.2.1 (.inl rfl)).1;obtain ⟨a, b, rfl⟩ := two (hs.2.2.1 (.inl rfl)).2;subst hn;rw [qC] at h;obtain ⟨u, v, h1, h2, rfl⟩ := xz h;exact .and h1 h2
 by_cases h5 : op = 5
 ·subst h5;have hn := List.eq_nil_of_length_eq_zero (hs.2.2.1 (.inr rfl)).1;obtain ⟨a, b, rfl⟩ := two (hs.2.2.1 (.inr rfl)).2;subst hn;rw [jM] at h;obtain ⟨u, v, h1, h2, rfl⟩ := xz h;exact .or h1 h2
 have h02 : op = 0 ∨ op = 1 ∨ op = 2 := by have := hs.2.2.2.2; omega
 have hk := List.eq_nil_of_length_eq_zero (hs.1 h02).2;obtain ⟨a, b, rfl⟩ := two (hs.1 h02).1;subst hk;rcases h02 with rfl | rfl | rfl
 ·rw [uM] at h;obtain ⟨u, v, h1, h2, rfl⟩ := xz h;exact .cmp (.inl ⟨rfl, rfl⟩) h1 h2
 ·rw [uL] at h;obtain ⟨u, v, h1, h2, rfl⟩ := xz h;exact .cmp (.inr (.inl ⟨rfl, rfl⟩)) h1 h2
 ·rw [uK] at h;obtain ⟨u, v, h1, h2, rfl⟩ := xz h;exact .cmp (.inr (.inr ⟨rfl, rfl⟩)) h1 h2
end Tp
namespace Tp
open Go Go.Eng Wd Kd
inductive EffSm : EffT → Prop
 | mk {op who : Int} {n : NumT} {name : List UInt8} {c : CondT} {t e : List EffT} (h : name.length ≤ 140737488355328) (hc : CondSm c) (hlt : t.length ≤ 140737488355328) (hle : e.length ≤ 140737488355328) (ht : ∀ x ∈ t, EffSm x) (he : ∀ x ∈ e, EffSm x) : EffSm (.mk op who n name c t e)
def EffsSm (l : List EffT) : Prop := ∀ x ∈ l, EffSm x
def bareE (c : CondT) (t e : List EffT) : Prop := zeroC c = true ∧ t.length + e.length = 0
instance {c : CondT} {t e : List EffT} : Decidable (bareE c t e) := by unfold bareE; infer_instance
theorem WS {c : CondT} {t e : List EffT} : (zeroC c = true ∧ t.isEmpty = true ∧ e.isEmpty = true) ↔ bareE c t e := by
 unfold bareE;rw [List.isEmpty_iff, List.isEmpty_iff]
 constructor
 ·rintro ⟨h1, rfl, rfl⟩; exact ⟨h1, rfl⟩
 ·rintro ⟨h1, h2⟩; exact ⟨h1, List.eq_nil_of_length_eq_zero (by omega), List.eq_nil_of_length_eq_zero (by omega)⟩
def ifT (s u v : List UInt8) : List UInt8 := sIf ++ sSp ++ s ++ sSp ++ sLb ++ u ++ sSp ++ sRb ++ sSp ++ sElse ++ sSp ++ sLb ++ v ++ sSp ++ sRb
def ifP (c : CondT) (t e : List EffT) (d : Nat) : Option (List UInt8) := (condP c d).bind fun s => (blkP t d).bind fun u => (blkP e d).bind fun v => some (ifT s u v)
theorem effP_if (who : Int) (n : NumT) (name : List UInt8) (c : CondT) (t e : List EffT) (d : Nat) : effP (.mk 8 who n name c t e) d = if who = 0 ∧ name = [] ∧ zeroN n = true then inP d (ifP c t e) else none := by rw [effP]; rfl
theorem wM {op who : Int} {n : NumT} {name : List UInt8} {c : CondT} {t e : List EffT} {d : Nat} (h8 : op ≠ 8) : effP (.mk op who n name c t e) d =
  if ¬ bareE c t e then none
  else if op = 7 then (if who = 0 ∧ zeroN n = true ∧ nameP name = true then line1 sSummon (some name) else none)
  else if ¬ name = [] then none
  else if op = 0 then lineP sHarm (whoP who) (numP n d)
  else if op = 1 then lineP sMend (whoP who) (numP n d)
  else if op = 2 then lineP sDraw (sideP who) (numP n d)
  else if op = 3 then (if who = 0 then line1 sGain (numP n d) else none)
  else if op = 5 then (if who = 0 then line1 sLook (numP n d) else none)
  else if op = 4 then (if zeroN n = true then line1 sDrop (sideP who) else none)
  else if op = 6 then (if zeroN n = true then line1 sShow (sideP who) else none)
  else none := by
 rw [effP, if_neg h8];simp only [WS]
section
variable {who : Int} {n : NumT} {c : CondT} {t e : List EffT} {d : Nat} (hb : bareE c t e)
include hb
theorem Y7 : effP (.mk 0 who n [] c t e) d = lineP sHarm (whoP who) (numP n d) := by rw [wM (by decide), if_neg (fun h => h hb)]; rfl
theorem Y5 : effP (.mk 1 who n [] c t e) d = lineP sMend (whoP who) (numP n d) := by rw [wM (by decide), if_neg (fun h => h hb)]; rfl
theorem XA : effP (.mk 2 who n [] c t e) d = lineP sDraw (sideP who) (numP n d) := by rw [wM (by decide), if_neg (fun h => h hb)]; rfl
theorem Y8 : effP (.mk 3 0 n [] c t e) d = line1 sGain (numP n d) := by rw [wM (by decide), if_neg (fun h => h hb)]; rfl
theorem Y6 : effP (.mk 5 0 n [] c t e) d = line1 sLook (numP n d) := by rw [wM (by decide), if_neg (fun h => h hb)]; rfl
theorem Y9 (hz : zeroN n = true) : effP (.mk 4 who n [] c t e) d = line1 sDrop (sideP who) := by
 rw [wM (by decide), if_neg (fun h => h hb), if_neg (by decide), if_neg (by simp), if_neg (by decide), if_neg (by decide), if_neg (by decide), if_neg (by decide), if_neg (by decide), if_pos rfl, if_pos hz]
theorem Y4 (hz : zeroN n = true) : effP (.mk 6 who n [] c t e) d = line1 sShow (sideP who) := by
 rw [wM (by decide), if_neg (fun h => h hb), if_neg (by decide), if_neg (by simp), if_neg (by decide), if_neg (by decide), if_neg (by decide), if_neg (by decide), if_neg (by decide), if_neg (by decide), if_pos rfl, if_pos hz]
theorem Za {name : List UInt8} (hz : zeroN n = true) (hn : nameP name = true) : effP (.mk 7 0 n name c t e) d = some (sSummon ++ sSp ++ name ++ sSemi) := by
 rw [wM (by decide), if_neg (fun h => h hb), if_pos rfl, if_pos ⟨rfl, hz, hn⟩]; rfl
end
theorem WQ (d : Nat) : blkP [] d = some [] := by rw [blkP]
theorem XH (x : EffT) (l : List EffT) (d : Nat) : blkP (x :: l) d = (effP x d).bind fun s => (blkP l d).bind fun u => some (sSp ++ s ++ u) := by rw [blkP]
inductive EffS : EffT → Nat → List UInt8 → Prop
 | line {op who : Int} {n : NumT} {c : CondT} {t e : List EffT} {d : Nat} {w u v : List UInt8} (hop : (op = 0 ∧ w = sHarm ∧ whoP who = some u) ∨ (op = 1 ∧ w = sMend ∧ whoP who = some u) ∨ (op = 2 ∧ w = sDraw ∧ sideP who = some u)) (hb : bareE c t e) (hn : numP n d = some v) :
   EffS (.mk op who n [] c t e) d (w ++ sSp ++ u ++ sSp ++ v ++ sSemi)
 | num {op : Int} {n : NumT} {c : CondT} {t e : List EffT} {d : Nat} {w v : List UInt8} (hop : (op = 3 ∧ w = sGain) ∨ (op = 5 ∧ w = sLook)) (hb : bareE c t e) (hn : numP n d = some v) : EffS (.mk op 0 n [] c t e) d (w ++ sSp ++ v ++ sSemi)
 | side {op who : Int} {n : NumT} {c : CondT} {t e : List EffT} {d : Nat} {w u : List UInt8} (hop : (op = 4 ∧ w = sDrop) ∨ (op = 6 ∧ w = sShow)) (hb : bareE c t e) (hz : zeroN n = true) (hs : sideP who = some u) : EffS (.mk op who n [] c t e) d (w ++ sSp ++ u ++ sSemi)
 | summon {n : NumT} {name : List UInt8} {c : CondT} {t e : List EffT} {d : Nat} (hb : bareE c t e) (hz : zeroN n = true) (hn : nameP name = true) : EffS (.mk 7 0 n name c t e) d (sSummon ++ sSp ++ name ++ sSemi)
 | iff {n : NumT} {c : CondT} {t e : List EffT} {d : Nat} {s u v : List UInt8} (hz : zeroN n = true) (hd : d + 1 ≤ 8) (hc : condP c (d + 1) = some s) (ht : blkP t (d + 1) = some u) (he : blkP e (d + 1) = some v) : EffS (.mk 8 0 n [] c t e) d (ifT s u v)
theorem bind_some {α β : Type} {a : Option α} {f : α → Option β} {y : β} (h : a.bind f = some y) : ∃ x, a = some x ∧ f x = some y := by
 cases a with
 | none => cases h
 | some x => exact ⟨x, rfl, h⟩
end Tp
namespace Tp
open Go Go.Eng Wd Kd
def smallB (n : Int) : Bool := decide (0 ≤ n ∧ n ≤ 999)
def secP (w : List UInt8) (l : List EffT) : Option (List UInt8) := if l.length = 0 then some [] else (blkP l 0).map fun s => sSp ++ w ++ [32, 123] ++ s ++ [32, 125, 10]
def headT (c : CardT) : List UInt8 := if c.unit = true then sSp ++ sUnit ++ sSp ++ decP c.cost ++ sSp ++ decP c.power ++ sSlash ++ decP c.health ++ [32, 123, 10] else sSp ++ sCharm ++ sSp ++ decP c.cost ++ [32, 123, 10]
def auraT (c : CardT) : List UInt8 := if c.apow = 0 ∧ c.aheal = 0 then [] else sSp ++ sAura ++ sSp ++ decP c.apow ++ sSlash ++ decP c.aheal ++ [59, 10]
def shldT (c : CardT) : List UInt8 := if c.shield = 0 then [] else sSp ++ sShield ++ sSp ++ decP c.shield ++ [59, 10]
def numsB (c : CardT) : Bool := smallB c.cost && smallB c.power && smallB c.health && smallB c.shield && smallB c.apow && smallB c.aheal
def kindB (c : CardT) : Bool := c.unit || (decide (c.power = 0) && decide (c.health = 0))
def secsP (c : CardT) : Option (List UInt8) := (secP sPlayed c.played).bind fun a => (secP sDead c.dead).bind fun b => (secP sDawn c.dawn).map fun e => a ++ b ++ e
def cardP (c : CardT) : Option (List UInt8) :=
 if nameP c.name = true ∧ kindB c = true ∧ numsB c = true ∧ cardWt c ≤ 200 then (secsP c).map fun t => sCard ++ sSp ++ c.name ++ headT c ++ t ++ auraT c ++ shldT c ++ [125, 10] else none
def ruleT (w : List UInt8) (n : Int) : List UInt8 := if n = 0 then [] else sSp ++ w ++ sSp ++ decP n ++ [59, 10]
def namesT (w : List UInt8) (l : List (List UInt8)) : List UInt8 := if l.length = 0 then [] else sSp ++ w ++ sSp ++ Lib.join l [44, 32] ++ [59, 10]
def fmtP (f : FmtT) : Option (List UInt8) :=
 if nameP f.name = true ∧ smallB f.least = true ∧ smallB f.most = true ∧ smallB f.copies = true ∧ f.banned.all nameP = true ∧ f.single.all nameP = true then
  some (sFormat ++ sSp ++ f.name ++ [32, 123, 10] ++ ruleT sLeast f.least ++ ruleT sMost f.most ++ ruleT sCopies f.copies ++ namesT sBanned f.banned ++ namesT sSingle f.single ++ [125, 10]) else none
def catP : List (Option (List UInt8)) → Option (List UInt8)
 | [] => some []
 | a :: r => a.bind fun s => (catP r).map fun t => s ++ t
def bookP (b : BkT) : Option (List UInt8) := if b.cards.length ≤ 240 ∧ b.fmts.length ≤ 240 then catP (b.cards.map cardP ++ b.fmts.map fmtP) else none
structure CardSm (c : CardT) : Prop where
 name : c.name.length ≤ 140737488355328
 lp : c.played.length ≤ 140737488355328
 ld : c.dead.length ≤ 140737488355328
 lw : c.dawn.length ≤ 140737488355328
 p : EffsSm c.played
 d : EffsSm c.dead
 w : EffsSm c.dawn
structure FmtSm (f : FmtT) : Prop where
 name : f.name.length ≤ 140737488355328
 lb : f.banned.length ≤ 1000000000
 ls : f.single.length ≤ 1000000000
 b : ∀ s ∈ f.banned, s.length ≤ 140737488355328
 s : ∀ s ∈ f.single, s.length ≤ 140737488355328
theorem YC {c : CardT} {s : List UInt8} (h : cardP c = some s) : nameP c.name = true ∧ kindB c = true ∧ numsB c = true ∧ cardWt c ≤ 200 ∧ ∃ a b e, secP sPlayed c.played = some a ∧ secP sDead c.dead = some b ∧ secP sDawn c.dawn = some e ∧ s = sCard ++ sSp ++ c.name ++ headT c ++ (a ++ b ++ e) ++ auraT c ++ shldT c ++ [125, 10] := by
 unfold cardP at h
 split at h
 ·rename_i h0
  refine ⟨h0.1, h0.2.1, h0.2.2.1, h0.2.2.2, ?_⟩;unfold secsP at h;cases ha : secP sPlayed c.played with
  | none => rw [ha] at h; cases h
  | some a =>
    rw [ha] at h;cases hb : secP sDead c.dead with
    | none => rw [hb] at h; cases h
    | some b =>
      rw [hb] at h;cases he : secP sDawn c.dawn with
      | none => rw [he] at h; cases h
      | some e =>
        rw [he] at h;cases h;exact ⟨a, b, e, rfl, rfl, rfl, rfl⟩
 ·cases h
structure BkSm (b : BkT) : Prop where
 lc : b.cards.length ≤ 140737488355328
 lf : b.fmts.length ≤ 140737488355328
 c : ∀ x ∈ b.cards, CardSm x
 f : ∀ x ∈ b.fmts, FmtSm x
end Tp
namespace Tp
open Go Go.Eng Wd Kd
structure Tok where
 kind : Int
 text : List UInt8
 n : Int
deriving DecidableEq
def tok (w : Wrd) : Tok := ⟨w.kind, w.text, w.n⟩
def Cut (s : List UInt8) (p : Nat) (K : List Tok) (q : Nat) : Prop := ∃ ws : List Wrd, ws.map tok = K ∧ ∀ acc, goR s p acc = goR s q (acc ++ ws)
theorem Cut.nil (s : List UInt8) (p : Nat) : Cut s p [] p := ⟨[], rfl, fun acc => by rw [List.append_nil]⟩
theorem Cut.trans {s : List UInt8} {p q r : Nat} {a b : List Tok} (h : Cut s p a q) (k : Cut s q b r) : Cut s p (a ++ b) r := by
 obtain ⟨u, hu, h⟩ := h;obtain ⟨v, hv, k⟩ := k;exact ⟨u ++ v, by rw [List.map_append, hu, hv], fun acc => by rw [h, k, List.append_assoc]⟩
theorem Cut.step {s : List UInt8} {p q : Nat} {ws : List Wrd} (hp : p < s.length) (h : stepR s p = .next q ws) : Cut s p (ws.map tok) q := ⟨ws, rfl, fun _ => vO hp h⟩
def Fol (r : List UInt8) : Prop := r = [] ∨ ∃ b t, r = b :: t ∧ b.toNat < 128 ∧ letterP b.toNat = false ∧ digitP b.toNat = false ∧ b.toNat ≠ 39
theorem Fol.app {b : UInt8} {t r : List UInt8} (h : Fol (b :: t)) : Fol (b :: t ++ r) := by
 rcases h with h | ⟨b', t', h, h1⟩
 ·cases h
 ·cases h;exact .inr ⟨b, t ++ r, rfl, h1⟩
def Lay (f : Bool) (T : List UInt8) (K : List Tok) : Prop := ∀ (s : List UInt8) (p : Nat) (r : List UInt8), s.drop p = T ++ r → (f = true → Fol r) → Cut s p K (p + T.length)
theorem WG {s A r : List UInt8} {p : Nat} (h : s.drop p = A ++ r) : s.drop (p + A.length) = r := by
 rw [← List.drop_drop, h, List.drop_left]
theorem Lay.app {f g : Bool} {A B : List UInt8} {a b : List Tok} (h : Lay f A a) (k : Lay g B b) (hf : f = true → ∃ x t, B = x :: t ∧ Fol B) : Lay g (A ++ B) (a ++ b) := by
 intro s p r hs hr;rw [List.append_assoc] at hs;have h1 := h s p (B ++ r) hs (fun e => by obtain ⟨x, t, rfl, hF⟩ := hf e; exact hF.app);have h2 := k s (p + A.length) r (WG hs) hr;rw [List.length_append, ← Nat.add_assoc];exact h1.trans h2
theorem Lay.nil : Lay false [] [] := fun s p r _ _ => Cut.nil s p
theorem Lay.congr {f : Bool} {T T' : List UInt8} {K K' : List Tok} (h : Lay f T K) (e : T' = T) (e' : K' = K) : Lay f T' K' := by subst e e'; exact h
abbrev mk3 (m : List UInt8) : Tok := ⟨3, m, 0⟩
structure Word (w : List UInt8) : Prop where
 go : (nameGo w 0 0).1 = w.length
 lo : 1 ≤ (nameGo w 0 0).2
 hi : (nameGo w 0 0).2 ≤ 24
 len : w.length ≤ 40
abbrev mk1 (w : List UInt8) : Tok := ⟨1, w, 0⟩
end Tp
namespace Tp
open Go Go.Eng Wd Kd
theorem Lay.fm {g : Bool} {A B : List UInt8} {a b : List Tok} (h : Lay false A a) (k : Lay g B b) : Lay g (A ++ B) (a ++ b) := h.app k fun e => by cases e
abbrev mk2 (n : Int) : Tok := ⟨2, [], n⟩
def sideK (w : Int) : Tok := mk1 (if w = 0 then sMe else sFoe)
def callK (s : List UInt8) (w : Int) : List Tok := [mk1 s, mk3 sOpen, sideK w, mk3 sClose]
def leafK (op n who : Int) : List Tok :=
 if op = 0 then [mk2 n] else if op = 1 then callK sLife who else if op = 2 then callK sHand who else if op = 3 then callK sDeck who else if op = 4 then callK sUnits who
 else if op = 5 then [mk1 sMana, mk3 sOpen, mk1 sMe, mk3 sClose] else if op = 6 then [mk1 sCost, mk3 sOpen, mk1 sTop, mk3 sOpen, mk1 sMe, mk3 sClose, mk3 sClose] else [mk1 sPower, mk3 sOpen, mk1 sTarget, mk3 sClose]
def brK (br : Bool) (K : List Tok) : List Tok := if br then mk3 sOpen :: (K ++ [mk3 sClose]) else K
def numK : NumT → List Tok
 | .mk op n who [] => leafK op n who
 | .mk op _ _ [a, b] =>
   if op = 11 then mk1 sMin :: mk3 sOpen :: (numK a ++ mk3 sComma :: (numK b ++ [mk3 sClose]))
   else if op = 12 then mk1 sMax :: mk3 sOpen :: (numK a ++ mk3 sComma :: (numK b ++ [mk3 sClose]))
   else if op = 10 then brK (isSum a) (numK a) ++ mk3 sStar :: brK (isSum b || decide (opN b = 10)) (numK b)
   else if op = 8 then numK a ++ mk3 sPlus :: brK (isSum b) (numK b)
   else numK a ++ mk3 sMinus :: brK (isSum b) (numK b)
 | _ => []
termination_by structural x => x
end Tp
namespace Tp
open Go Go.Eng Wd Kd
theorem qd {ws : List Wrd} {k : Tok} {K : List Tok} (h : ws.map tok = k :: K) : ∃ a ws', ws = ⟨k.kind, k.text, k.n, a⟩ :: ws' ∧ ws'.map tok = K := by
 cases ws with
 | nil => cases h
 | cons w r =>
   rw [List.map_cons] at h
   injection h with h1 h2
   subst h1;exact ⟨w.at_, r, rfl, h2⟩
theorem kI {ws : List Wrd} (h : ws.map tok = []) : ws = [] := List.map_eq_nil_iff.1 h
theorem Xy {ws : List Wrd} {A B : List Tok} (h : ws.map tok = A ++ B) : ∃ u v, ws = u ++ v ∧ u.map tok = A ∧ v.map tok = B := List.map_eq_append_iff.1 h
theorem isW1 (s t : List UInt8) (n a : Int) (ts : List Wrd) : isW s (⟨1, t, n, a⟩ :: ts) = decide (t = s) := by unfold isW hd; rfl
theorem isW3 (s t : List UInt8) (n a : Int) (ts : List Wrd) : isW s (⟨3, t, n, a⟩ :: ts) = decide (t = s) := by unfold isW hd; rfl
section
variable {α : Type} {one : List Wrd → R α} {signs : List (List UInt8 × Int)} {put : Int → α → α → α} {x : α} {ts : List Wrd}
end
structure NumPar (x : NumT) (d : Nat) : Prop where
 S : ∀ (ws rest : List Wrd) (n : Nat), ws.map tok = numK x → isW sStar rest = false → (ws ++ rest).length ≤ n → ∃ n', rest.length < n' ∧ pSum (n + 1) d (ws ++ rest) = pRest (pTerm (pSum n) (n + 1) d) sumSigns putN n' x rest
 T : isSum x = false → ∀ (ws rest : List Wrd) (N m : Nat), ws.map tok = numK x → (ws ++ rest).length < N → (ws ++ rest).length ≤ m → ∃ n', rest.length < n' ∧ pRow (pOne (pSum m) d) mulSigns putN N (ws ++ rest) = pRest (pOne (pSum m) d) mulSigns putN n' x rest
 O : isSum x = false → opN x ≠ 10 → ∀ (ws rest : List Wrd) (m : Nat), ws.map tok = numK x → (ws ++ rest).length ≤ m → pOne (pSum m) d (ws ++ rest) = .ok x rest
end Tp
namespace Tp
open Go Go.Eng Wd Kd
end Tp
namespace Tp
open Go Go.Eng Wd Kd
def cmpS (op : Int) : List UInt8 := if op = 0 then sLt else if op = 1 then sLe else sEq
def condK : CondT → List Tok
 | .mk op _ _ [a, b] [] => numK a ++ mk3 (cmpS op) :: numK b
 | .mk _ who name [] [] => [mk1 sHolds, mk3 sOpen, sideK who, mk3 sComma, mk1 name, mk3 sClose]
 | .mk _ _ _ [] [k] => mk1 sNot :: brK (decide (opC k = 4) || decide (opC k = 5)) (condK k)
 | .mk op _ _ [] [a, b] =>
   if op = 5 then condK a ++ mk1 sOr :: brK (decide (opC b = 5)) (condK b)
   else brK (decide (opC a = 5)) (condK a) ++ mk1 sAnd :: brK (decide (opC b = 5) || decide (opC b = 4)) (condK b)
 | _ => []
termination_by structural x => x
def Bal (K : List Tok) : Prop := ∀ (d : Int) (ws rest : List Wrd), 1 ≤ d → ws.map tok = K → outer d (ws ++ rest) = outer d rest
theorem Bal.nil : Bal [] := fun d ws rest _ hw => by obtain rfl := kI hw; rfl
theorem Bal.app {a b : List Tok} (h : Bal a) (k : Bal b) : Bal (a ++ b) := fun d ws rest hd hw => by
 obtain ⟨u, v, rfl, hu, hv⟩ := Xy hw;rw [List.append_assoc, h d u _ hd hu, k d v _ hd hv]
theorem Z1 {d : Int} {t : List UInt8} {n a : Int} {k : Int} {ts : List Wrd} (hk : k ≠ 3) : outer d (⟨k, t, n, a⟩ :: ts) = outer d ts := by
 rw [outer, if_pos hk]
theorem uA {d : Int} {t : List UInt8} {n a : Int} {ts : List Wrd} : outer d (⟨3, t, n, a⟩ :: ts) = if 0 < (if t = sOpen then d + 1 else if t = sClose then d - 1 else d) then outer (if t = sOpen then d + 1 else if t = sClose then d - 1 else d) ts else if (hd ts).kind ≠ 3 then true else !decide ((hd ts).text ∈ [sLt, sLe, sEq, sPlus, sMinus, sStar]) := by
 rw [outer, if_neg (fun h => h rfl)]
theorem k1_ne : (1 : Int) ≠ 3 := by decide
theorem Bal.word (k : Tok) (hk : k.kind ≠ 3) : Bal [k] := fun d ws rest _ hw => by
 obtain ⟨a, w1, rfl, g1⟩ := qd hw;obtain rfl := kI g1;exact Z1 hk
theorem Bal.mark {m : List UInt8} (h1 : m ≠ sOpen) (h2 : m ≠ sClose) : Bal [mk3 m] := fun d ws rest hd hw => by
 obtain ⟨a, w1, rfl, g1⟩ := qd hw;obtain rfl := kI g1;show outer d (⟨3, m, 0, a⟩ :: rest) = _;rw [uA, if_neg h1, if_neg h2, if_pos (by omega)]
theorem Bal.cons {k : Tok} {K : List Tok} (h : Bal [k]) (h' : Bal K) : Bal (k :: K) := h.app h'
theorem Bal.br {K : List Tok} (h : Bal K) : Bal (mk3 sOpen :: (K ++ [mk3 sClose])) := fun d ws rest hd hw => by
 obtain ⟨a, w1, rfl, g1⟩ := qd hw;obtain ⟨u, v, rfl, hu, g2⟩ := Xy g1;obtain ⟨b, w2, rfl, g3⟩ := qd g2;obtain rfl := kI g3;show outer d (⟨3, sOpen, 0, a⟩ :: ((u ++ [⟨3, sClose, 0, b⟩]) ++ rest)) = _;rw [uA, if_pos rfl, if_pos (by omega), List.append_assoc, h (d + 1) u _ (by omega) hu];show outer (d + 1) (⟨3, sClose, 0, b⟩ :: rest) = _
 rw [uA, if_neg (show ¬ sClose = sOpen by decide), if_pos (show sClose = sClose from rfl), show d + 1 - 1 = d by omega, if_pos (by omega)]
theorem Bal.brK {br : Bool} {K : List Tok} (h : Bal K) : Bal (brK br K) := by
 cases br with
 | true => exact h.br
 | false => exact h
theorem Bal.call (s : List UInt8) (w : Int) : Bal (callK s w) := (Bal.word (mk1 s) k1_ne).cons ((Bal.word (sideK w) k1_ne).br)
end Tp
namespace Tp
open Go Go.Eng Wd Kd
def folC (ts : List Wrd) : Prop := ∀ s ∈ [sLt, sLe, sEq, sPlus, sMinus, sStar], isW s ts = false
theorem folC.mark {t : List UInt8} {n a : Int} {ts : List Wrd} (h : t ∉ [sLt, sLe, sEq, sPlus, sMinus, sStar]) : folC (⟨3, t, n, a⟩ :: ts) := fun s hs => by
 rw [isW3];exact decide_eq_false (fun e => h (e ▸ hs))
theorem folC.word {t : List UInt8} {n a : Int} {ts : List Wrd} (h : t ∉ [sLt, sLe, sEq, sPlus, sMinus, sStar]) : folC (⟨1, t, n, a⟩ :: ts) := fun s hs => by
 rw [isW1];exact decide_eq_false (fun e => h (e ▸ hs))
inductive HeadN : List Tok → Prop
 | num (n : Int) (K : List Tok) : HeadN (mk2 n :: K)
 | word (t : List UInt8) (K : List Tok) (h : t ≠ sNot ∧ t ≠ sHolds ∧ t ≠ sOpen) : HeadN (mk1 t :: K)
 | br (K1 K2 : List Tok) (h : Bal K1) : HeadN (mk3 sOpen :: (K1 ++ mk3 sClose :: mk3 sStar :: K2))
theorem HeadN.app {K : List Tok} (h : HeadN K) (X : List Tok) : HeadN (K ++ X) := by
 cases h with
 | num n K => exact .num n _
 | word t K h => exact .word t _ h
 | br K1 K2 h =>
   have : mk3 sOpen :: (K1 ++ mk3 sClose :: mk3 sStar :: K2) ++ X = mk3 sOpen :: (K1 ++ mk3 sClose :: mk3 sStar :: (K2 ++ X)) := by simp
   rw [this];exact .br K1 _ h
structure CondPar (x : CondT) (d : Nat) : Prop where
 C : ∀ (ws rest : List Wrd) (n : Nat), ws.map tok = condK x → folC rest → isW sAnd rest = false → (ws ++ rest).length ≤ n → ∃ n', rest.length < n' ∧ pCond (n + 1) d (ws ++ rest) = pRest (pBoth (pCond n) (n + 1) d) orSigns putC n' x rest
 B : opC x ≠ 5 → ∀ (ws rest : List Wrd) (N K m : Nat), ws.map tok = condK x → folC rest → (ws ++ rest).length < N → (ws ++ rest).length ≤ m → (ws ++ rest).length < K → ∃ n', rest.length < n' ∧ pRow (pTest (pSum K) (pCond m) K d) andSigns putC N (ws ++ rest) = pRest (pTest (pSum K) (pCond m) K d) andSigns putC n' x rest
 O : opC x ≠ 5 → opC x ≠ 4 → ∀ (ws rest : List Wrd) (K m j : Nat), ws.map tok = condK x → folC rest → (ws ++ rest).length < j → (ws ++ rest).length ≤ m → (ws ++ rest).length < K → pTest (pSum K) (pCond m) j d (ws ++ rest) = .ok x rest
end Tp
namespace Tp
open Go Go.Eng Wd Kd
end Tp
namespace Tp
open Go Go.Eng Wd Kd
structure RIt (σ : Type) where
 key : List UInt8
 K : List Tok
 upd : σ → σ
end Tp
namespace Tp
open Go Go.Eng Wd Kd
def joinK : List (List UInt8) → List Tok
 | [] => []
 | [x] => [mk1 x]
 | x :: y :: r => mk1 x :: mk3 sComma :: joinK (y :: r)
end Tp
end Go.Proofs.YtgohljjedlpccaaGreatDoor
