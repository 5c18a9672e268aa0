/- Parts of the proof: contracts of functions of the program, and plain lemmas. No condition. -/
import Derived.Test.YtpgiokjfkcddeaaGreatDoorTrI
import Derived.Test.YtpgiokjfkcddeaaGreatDoorEng2
import Derived.Test.YtpgiokjfkcddeaaGreatDoorFacts
import Derived.Lib.Join
set_option maxHeartbeats 64000000
set_option maxRecDepth 100000
namespace Go.Proofs.YtpgiokjfkcddeaaGreatDoor
open Go.Eng
section
open Wd Tp Kd
variable {m : Mp} {b : Nat}
theorem xR {op n who : Int} {kids : List NumT} {d : Nat} (hb : ¬ (8 ≤ op ∧ op ≤ 12)) (h : ¬ ((n = 0 ∨ op = 0) ∧ (who = 0 ∨ (1 ≤ op ∧ op ≤ 4)) ∧ kids.length = 0)) : numP (.mk op n who kids) d = none := by
 by_cases hk : kids.length = 0
 ·have hkn := List.eq_nil_of_length_eq_zero hk;subst hkn;rw [z8];exact qw fun h2 => h ⟨h2.1, h2.2, rfl⟩
 ·exact xM hb hk
theorem WN {op n who : Int} {kids : List NumT} {d : Nat} (hb : ¬ (0 ≤ op ∧ op ≤ 12)) : numP (.mk op n who kids) d = none := by
 by_cases hk : kids.length = 0
 ·have hkn := List.eq_nil_of_length_eq_zero hk;subst hkn;rw [z8];unfold leafP;rw [if_neg (show ¬ op = 0 by omega), if_neg (show ¬ op = 1 by omega), if_neg (show ¬ op = 2 by omega), if_neg (show ¬ op = 3 by omega), if_neg (show ¬ op = 4 by omega), if_neg (show ¬ op = 5 by omega), if_neg (show ¬ op = 6 by omega), if_neg (show ¬ op = 7 by omega), ite_self, ite_self]
 ·exact xM (by omega) hk
theorem yW {op n who : Int} {kids : List NumT} {d p : Nat} {s : List UInt8} (h : numP (.mk op n who kids) d = none) (hs : s.length ≤ 20) : Out p false (numP (.mk op n who kids) d) (numW (.mk op n who kids)) (30 * numW (.mk op n who kids)) 0 s (p + 1) true := by
 have hw := qr (.mk op n who kids);exact (Out.none (w := numW (.mk op n who kids) - 1) h (by omega)).one (by omega)
theorem xr {op n who : Int} {kids : List NumT} {d p : Nat} {s : List UInt8} (hk : kids.length = 0) (h : leafP op n who = some s) (hp : p + 1 ≤ 200) (hs : s.length ≤ 20) : Out p false (numP (.mk op n who kids) d) (numW (.mk op n who kids)) (30 * numW (.mk op n who kids)) 0 s (p + 1) false := by
 have hkn := List.eq_nil_of_length_eq_zero hk;subst hkn;rw [z8, y6];exact (Out.some h hp (by omega)).one rfl
theorem num121 {cs : List Value} {x : NumT} (hx : NumR m cs x) : NumD m b cs x := by
 induction hx with
 | @mk op n who kids A len c vs ho hln hmx hr hv hkk ih =>
 subst hln;intro m0 hm0 p d q hp hd hq;have hmx : kids.length ≤ 9223372036854775807 := hmx;have hw1 := qr (.mk op n who kids);refine zn [.tmp 4] Tryz.func121 rfl rfl rfl ?_;refine tr 2 ?_;refine Bx 6 rfl fun b1 => ?_;refine zC ((zF cl117 rfl .k1 (fun m' hm he => part117 (by omega)) rfl ?_)) rfl;rintro _ _ ⟨rfl, rfl⟩;cases q with
 | true =>
   rw [Bool.true_or];refine vr 8 ?_;refine Lb 10 sg4 .here ?_;exact zl [_] ⟨rfl, trivial⟩ [_] .p0 ⟨[], p + 1, true, rfl, rfl, Out.stop (by omega)⟩
 | false =>
 have hd := hq rfl;rw [Bool.false_or];by_cases hp2 : 200 < p + 1
 ·rw [decide_eq_true hp2];refine vr 8 ?_;refine Lb 10 sg4 .here ?_;exact zl [_] ⟨rfl, trivial⟩ [_] .p0 ⟨[], p + 1, true, rfl, rfl, Out.over hp2 (by omega)⟩
 rw [decide_eq_false hp2];have hp1 : p + 1 ≤ 200 := by omega
 refine vr 8 ?_;refine Lb 7 sg4 .here ?_;refine Bs 5 sl61 fun b2 => ?_;refine zI .here (fun ns hi _ hd1 => ?_);have hS : Rd (uni m0 ns) (some ⟨b2, 0, none⟩) [.string (bs []), .string (bs [108, 105, 102, 101]), .string (bs [104, 97, 110, 100]), .string (bs [100, 101, 99, 107]), .string (bs [117, 110, 105, 116, 115])] := (Rd.blk hi).mono (zP hd1);have hl3 : Le m0 (uni m0 ns) := zN _ _
 clear hi hd1;generalize uni m0 ns = m8 at hS hl3;by_cases h0 : op = 0
 ·subst h0;refine tr 2 ?_;refine Lb 5 sg42 .h1 ?_;refine ctr 7 ?_;refine Lc 0 ag45 .h1 ?_;refine Cr cl146 rfl (fun m' hm he => (YN hmx)) ?_;rintro _ rfl;by_cases hb : who = 0 ∧ kids.length = 0
  ·rw [decide_eq_true hb];by_cases hr1 : n < 0
   ·refine vr 3 ?_;refine Lb 0 sg3 .h1 ?_;refine cta 8 ?_;refine Sr 8 co4 .here .h2 ?_;refine Lb 12 sg4 .here ?_;exact zB hl3 [_] ⟨rfl, trivial⟩ [_] .p0 ⟨[], p + 1, true, rfl, rfl, yW (by rw [List.eq_nil_of_length_eq_zero hb.2, z8]; unfold leafP; rw [if_pos rfl, if_neg (fun h => by omega)]) (by decide)⟩
   by_cases hr2 : 999 < n
   ·refine vr 3 ?_;refine Lb 0 sg3 .h1 ?_;refine cfa 3 ?_;refine Lb 0 sg3 .h1 ?_;refine cta 3 ?_;refine Sr 8 co4 .here .h2 ?_;refine Lb 12 sg4 .here ?_;exact zB hl3 [_] ⟨rfl, trivial⟩ [_] .p0 ⟨[], p + 1, true, rfl, rfl, yW (by rw [List.eq_nil_of_length_eq_zero hb.2, z8]; unfold leafP; rw [if_pos rfl, if_neg (fun h => by omega)]) (by decide)⟩
   ·refine vr 3 ?_;refine Lb 0 sg3 .h1 ?_;refine cfa 3 ?_;refine Lb 0 sg3 .h1 ?_;refine cfa 3 ?_;refine Sr 8 co4 .here .h2 ?_;refine Lb 8 sg4 .here ?_;refine Lb 0 sg3 .h1 ?_;refine Cr cl47 rfl (fun m' hm he => (digits47 (by omega) (by omega))) ?_;rintro _ rfl;refine vr 6 ?_
    exact zB hl3 [_] ⟨rfl, trivial⟩ [_] .p0 ⟨decP n, p + 1, false, rfl, rfl, xr hb.2 (by unfold leafP; rw [if_pos rfl, if_pos ⟨hb.1, by omega, by omega⟩]) hp1 (by have := kL n.toNat; unfold decP; omega)⟩
  ·rw [decide_eq_false hb];refine vr 13 ?_;refine Sr 8 co4 .here .h2 ?_;refine Lb 12 sg4 .here ?_;exact zB hl3 [_] ⟨rfl, trivial⟩ [_] .p0 ⟨[], p + 1, true, rfl, rfl, yW (xR (by omega) (fun h => hb ⟨by omega, h.2.2⟩)) (by decide)⟩
 by_cases h1 : op = 1
 ·subst h1;have hs1 : mc m8 ⟨b2, 1, none⟩ = some (.string (bs [108, 105, 102, 101])) := hS.at_ (i := 1) rfl;refine tr 2 ?_;refine Lb 5 sg42 .h1 ?_;refine cfa 7 ?_;refine ctr 10 ?_;refine Lb 0 sg42 .h1 ?_;refine Cr cl120 rfl (fun m' hm he => side120) ?_;rintro _ rfl;cases hs : sideP who with
  | none =>
    rw [show sideV who = .tuple #[.string (bs []), .bool false] by unfold sideV; rw [hs]; rfl];refine vr 19 ?_;refine Sr 6 co4 .here .h2 ?_;refine Lb 0 sg42 .h1 ?_;refine pe 0 (zr ez61 rfl rfl (hS.isSome (by simp <;> omega)) (by omega) (by omega)) ?_;refine Lo 0 sg9 rfl hs1 ?_;refine Ps 1 ?_;refine Ps 0 ?_;refine Ps 6 ?_
    exact zB hl3 [_] ⟨rfl, trivial⟩ [_] .p0 ⟨_, p + 1, true, rfl, rfl, yW (by
     by_cases hk : kids.length = 0
     ·rw [List.eq_nil_of_length_eq_zero hk, z8];unfold leafP
      simp [hs]
     ·exact xM (by omega) hk) (by decide)⟩
  | some s =>
    have hsl := zx hs;rw [show sideV who = .tuple #[.string (bs s), .bool true] by unfold sideV; rw [hs]; rfl];refine vr 13 ?_;refine Lc 0 ag45 .h1 ?_;refine Cr cl146 rfl (fun m' hm he => (uA hmx)) ?_;rintro _ rfl;by_cases hb : n = 0 ∧ kids.length = 0
    ·rw [decide_eq_true hb];refine vr 4 ?_;refine Sr 6 co4 .here .h2 ?_;refine Lb 0 sg42 .h1 ?_;refine pe 0 (zr ez61 rfl rfl (hS.isSome (by simp <;> omega)) (by omega) (by omega)) ?_;refine Lo 0 sg9 rfl hs1 ?_;refine Ps 1 ?_;refine Ps 0 ?_;refine Ps 6 ?_
     exact zB hl3 [_] ⟨rfl, trivial⟩ [_] .p0 ⟨_, p + 1, false, rfl, rfl, xr hb.2 (by rw [hb.1]; show (sideP who).map _ = _; rw [hs]; rfl) hp1 (by simp; omega)⟩
    ·rw [decide_eq_false hb];refine vr 4 ?_;refine Sr 6 co4 .here .h2 ?_;refine Lb 0 sg42 .h1 ?_;refine pe 0 (zr ez61 rfl rfl (hS.isSome (by simp <;> omega)) (by omega) (by omega)) ?_;refine Lo 0 sg9 rfl hs1 ?_;refine Ps 1 ?_;refine Ps 0 ?_;refine Ps 6 ?_
     exact zB hl3 [_] ⟨rfl, trivial⟩ [_] .p0 ⟨_, p + 1, true, rfl, rfl, yW (xR (by omega) (fun h => hb ⟨by omega, h.2.2⟩)) (by simp; omega)⟩
 by_cases h2 : op = 2
 ·subst h2;have hs1 : mc m8 ⟨b2, 2, none⟩ = some (.string (bs [104, 97, 110, 100])) := hS.at_ (i := 2) rfl;refine tr 2 ?_;refine Lb 5 sg42 .h1 ?_;refine cfa 7 ?_;refine cfa 6 ?_;refine ctr 10 ?_;refine Lb 0 sg42 .h1 ?_;refine Cr cl120 rfl (fun m' hm he => side120) ?_;rintro _ rfl;cases hs : sideP who with
  | none =>
    rw [show sideV who = .tuple #[.string (bs []), .bool false] by unfold sideV; rw [hs]; rfl];refine vr 19 ?_;refine Sr 6 co4 .here .h2 ?_;refine Lb 0 sg42 .h1 ?_;refine pe 0 (zr ez61 rfl rfl (hS.isSome (by simp <;> omega)) (by omega) (by omega)) ?_;refine Lo 0 sg9 rfl hs1 ?_;refine Ps 1 ?_;refine Ps 0 ?_;refine Ps 6 ?_
    exact zB hl3 [_] ⟨rfl, trivial⟩ [_] .p0 ⟨_, p + 1, true, rfl, rfl, yW (by
     by_cases hk : kids.length = 0
     ·rw [List.eq_nil_of_length_eq_zero hk, z8];unfold leafP
      simp [hs]
     ·exact xM (by omega) hk) (by decide)⟩
  | some s =>
    have hsl := zx hs;rw [show sideV who = .tuple #[.string (bs s), .bool true] by unfold sideV; rw [hs]; rfl];refine vr 13 ?_;refine Lc 0 ag45 .h1 ?_;refine Cr cl146 rfl (fun m' hm he => (uA hmx)) ?_;rintro _ rfl;by_cases hb : n = 0 ∧ kids.length = 0
    ·rw [decide_eq_true hb];refine vr 4 ?_;refine Sr 6 co4 .here .h2 ?_;refine Lb 0 sg42 .h1 ?_;refine pe 0 (zr ez61 rfl rfl (hS.isSome (by simp <;> omega)) (by omega) (by omega)) ?_;refine Lo 0 sg9 rfl hs1 ?_;refine Ps 1 ?_;refine Ps 0 ?_;refine Ps 6 ?_
     exact zB hl3 [_] ⟨rfl, trivial⟩ [_] .p0 ⟨_, p + 1, false, rfl, rfl, xr hb.2 (by rw [hb.1]; show (sideP who).map _ = _; rw [hs]; rfl) hp1 (by simp; omega)⟩
    ·rw [decide_eq_false hb];refine vr 4 ?_;refine Sr 6 co4 .here .h2 ?_;refine Lb 0 sg42 .h1 ?_;refine pe 0 (zr ez61 rfl rfl (hS.isSome (by simp <;> omega)) (by omega) (by omega)) ?_;refine Lo 0 sg9 rfl hs1 ?_;refine Ps 1 ?_;refine Ps 0 ?_;refine Ps 6 ?_
     exact zB hl3 [_] ⟨rfl, trivial⟩ [_] .p0 ⟨_, p + 1, true, rfl, rfl, yW (xR (by omega) (fun h => hb ⟨by omega, h.2.2⟩)) (by simp; omega)⟩
 by_cases h3 : op = 3
 ·subst h3;have hs1 : mc m8 ⟨b2, 3, none⟩ = some (.string (bs [100, 101, 99, 107])) := hS.at_ (i := 3) rfl;refine tr 2 ?_;refine Lb 5 sg42 .h1 ?_;refine cfa 7 ?_;refine cfa 6 ?_;refine cfa 6 ?_;refine ctr 10 ?_;refine Lb 0 sg42 .h1 ?_;refine Cr cl120 rfl (fun m' hm he => side120) ?_;rintro _ rfl;cases hs : sideP who with
  | none =>
    rw [show sideV who = .tuple #[.string (bs []), .bool false] by unfold sideV; rw [hs]; rfl];refine vr 19 ?_;refine Sr 6 co4 .here .h2 ?_;refine Lb 0 sg42 .h1 ?_;refine pe 0 (zr ez61 rfl rfl (hS.isSome (by simp <;> omega)) (by omega) (by omega)) ?_;refine Lo 0 sg9 rfl hs1 ?_;refine Ps 1 ?_;refine Ps 0 ?_;refine Ps 6 ?_
    exact zB hl3 [_] ⟨rfl, trivial⟩ [_] .p0 ⟨_, p + 1, true, rfl, rfl, yW (by
     by_cases hk : kids.length = 0
     ·rw [List.eq_nil_of_length_eq_zero hk, z8];unfold leafP
      simp [hs]
     ·exact xM (by omega) hk) (by decide)⟩
  | some s =>
    have hsl := zx hs;rw [show sideV who = .tuple #[.string (bs s), .bool true] by unfold sideV; rw [hs]; rfl];refine vr 13 ?_;refine Lc 0 ag45 .h1 ?_;refine Cr cl146 rfl (fun m' hm he => (uA hmx)) ?_;rintro _ rfl;by_cases hb : n = 0 ∧ kids.length = 0
    ·rw [decide_eq_true hb];refine vr 4 ?_;refine Sr 6 co4 .here .h2 ?_;refine Lb 0 sg42 .h1 ?_;refine pe 0 (zr ez61 rfl rfl (hS.isSome (by simp <;> omega)) (by omega) (by omega)) ?_;refine Lo 0 sg9 rfl hs1 ?_;refine Ps 1 ?_;refine Ps 0 ?_;refine Ps 6 ?_
     exact zB hl3 [_] ⟨rfl, trivial⟩ [_] .p0 ⟨_, p + 1, false, rfl, rfl, xr hb.2 (by rw [hb.1]; show (sideP who).map _ = _; rw [hs]; rfl) hp1 (by simp; omega)⟩
    ·rw [decide_eq_false hb];refine vr 4 ?_;refine Sr 6 co4 .here .h2 ?_;refine Lb 0 sg42 .h1 ?_;refine pe 0 (zr ez61 rfl rfl (hS.isSome (by simp <;> omega)) (by omega) (by omega)) ?_;refine Lo 0 sg9 rfl hs1 ?_;refine Ps 1 ?_;refine Ps 0 ?_;refine Ps 6 ?_
     exact zB hl3 [_] ⟨rfl, trivial⟩ [_] .p0 ⟨_, p + 1, true, rfl, rfl, yW (xR (by omega) (fun h => hb ⟨by omega, h.2.2⟩)) (by simp; omega)⟩
 by_cases h4 : op = 4
 ·subst h4;have hs1 : mc m8 ⟨b2, 4, none⟩ = some (.string (bs [117, 110, 105, 116, 115])) := hS.at_ (i := 4) rfl;refine tr 2 ?_;refine Lb 5 sg42 .h1 ?_;refine cfa 7 ?_;refine cfa 6 ?_;refine cfa 6 ?_;refine cfa 5 ?_;refine ctr 7 ?_;refine Lb 0 sg42 .h1 ?_;refine Cr cl120 rfl (fun m' hm he => side120) ?_;rintro _ rfl;cases hs : sideP who with
  | none =>
    rw [show sideV who = .tuple #[.string (bs []), .bool false] by unfold sideV; rw [hs]; rfl];refine vr 19 ?_;refine Sr 6 co4 .here .h2 ?_;refine Lb 0 sg42 .h1 ?_;refine pe 0 (zr ez61 rfl rfl (hS.isSome (by simp <;> omega)) (by omega) (by omega)) ?_;refine Lo 0 sg9 rfl hs1 ?_;refine Ps 1 ?_;refine Ps 0 ?_;refine Ps 6 ?_
    exact zB hl3 [_] ⟨rfl, trivial⟩ [_] .p0 ⟨_, p + 1, true, rfl, rfl, yW (by
     by_cases hk : kids.length = 0
     ·rw [List.eq_nil_of_length_eq_zero hk, z8];unfold leafP
      simp [hs]
     ·exact xM (by omega) hk) (by decide)⟩
  | some s =>
    have hsl := zx hs;rw [show sideV who = .tuple #[.string (bs s), .bool true] by unfold sideV; rw [hs]; rfl];refine vr 13 ?_;refine Lc 0 ag45 .h1 ?_;refine Cr cl146 rfl (fun m' hm he => (uA hmx)) ?_;rintro _ rfl;by_cases hb : n = 0 ∧ kids.length = 0
    ·rw [decide_eq_true hb];refine vr 4 ?_;refine Sr 6 co4 .here .h2 ?_;refine Lb 0 sg42 .h1 ?_;refine pe 0 (zr ez61 rfl rfl (hS.isSome (by simp <;> omega)) (by omega) (by omega)) ?_;refine Lo 0 sg9 rfl hs1 ?_;refine Ps 1 ?_;refine Ps 0 ?_;refine Ps 6 ?_
     exact zB hl3 [_] ⟨rfl, trivial⟩ [_] .p0 ⟨_, p + 1, false, rfl, rfl, xr hb.2 (by rw [hb.1]; show (sideP who).map _ = _; rw [hs]; rfl) hp1 (by simp; omega)⟩
    ·rw [decide_eq_false hb];refine vr 4 ?_;refine Sr 6 co4 .here .h2 ?_;refine Lb 0 sg42 .h1 ?_;refine pe 0 (zr ez61 rfl rfl (hS.isSome (by simp <;> omega)) (by omega) (by omega)) ?_;refine Lo 0 sg9 rfl hs1 ?_;refine Ps 1 ?_;refine Ps 0 ?_;refine Ps 6 ?_
     exact zB hl3 [_] ⟨rfl, trivial⟩ [_] .p0 ⟨_, p + 1, true, rfl, rfl, yW (xR (by omega) (fun h => hb ⟨by omega, h.2.2⟩)) (by simp; omega)⟩
 by_cases h5 : op = 5
 ·subst h5;refine tr 2 ?_;refine Lb 5 sg42 .h1 ?_;refine cfa 7 ?_;refine cfa 6 ?_;refine cfa 6 ?_;refine cfa 5 ?_;refine cfa 6 ?_;refine ctr 7 ?_;refine Lc 0 ag45 .h1 ?_;refine Cr cl146 rfl (fun m' hm he => (qH hmx)) ?_;rintro _ rfl;by_cases hb : n = 0 ∧ who = 0 ∧ kids.length = 0
  ·rw [decide_eq_true hb];refine vr 3 ?_;refine Sr 10 co4 .here .h2 ?_;exact zB hl3 [_] ⟨rfl, trivial⟩ [_] .p0 ⟨sMana ++ sOpen ++ sMe ++ sClose, p + 1, false, rfl, rfl, xr hb.2.2 (by rw [hb.1, hb.2.1]; rfl) hp1 (by decide)⟩
  ·rw [decide_eq_false hb];refine vr 3 ?_;refine Sr 10 co4 .here .h2 ?_;exact zB hl3 [_] ⟨rfl, trivial⟩ [_] .p0 ⟨sMana ++ sOpen ++ sMe ++ sClose, p + 1, true, rfl, rfl, yW (xR (by omega) (fun h => hb ⟨by omega, by omega, h.2.2⟩)) (by decide)⟩
 by_cases h6 : op = 6
 ·subst h6;refine tr 2 ?_;refine Lb 5 sg42 .h1 ?_;refine cfa 7 ?_;refine cfa 6 ?_;refine cfa 6 ?_;refine cfa 5 ?_;refine cfa 6 ?_;refine cfa 6 ?_;refine ctr 7 ?_;refine Lc 0 ag45 .h1 ?_;refine Cr cl146 rfl (fun m' hm he => (qH hmx)) ?_;rintro _ rfl;by_cases hb : n = 0 ∧ who = 0 ∧ kids.length = 0
  ·rw [decide_eq_true hb];refine vr 3 ?_;refine Sr 10 co4 .here .h2 ?_;exact zB hl3 [_] ⟨rfl, trivial⟩ [_] .p0 ⟨sCost ++ sOpen ++ sTop ++ sOpen ++ sMe ++ sClose ++ sClose, p + 1, false, rfl, rfl, xr hb.2.2 (by rw [hb.1, hb.2.1]; rfl) hp1 (by decide)⟩
  ·rw [decide_eq_false hb];refine vr 3 ?_;refine Sr 10 co4 .here .h2 ?_;exact zB hl3 [_] ⟨rfl, trivial⟩ [_] .p0 ⟨sCost ++ sOpen ++ sTop ++ sOpen ++ sMe ++ sClose ++ sClose, p + 1, true, rfl, rfl, yW (xR (by omega) (fun h => hb ⟨by omega, by omega, h.2.2⟩)) (by decide)⟩
 by_cases h7 : op = 7
 ·subst h7;refine tr 2 ?_;refine Lb 5 sg42 .h1 ?_;refine cfa 7 ?_;refine cfa 6 ?_;refine cfa 6 ?_;refine cfa 5 ?_;refine cfa 6 ?_;refine cfa 6 ?_;refine cfa 6 ?_;refine ctr 7 ?_;refine Lc 0 ag45 .h1 ?_;refine Cr cl146 rfl (fun m' hm he => (qH hmx)) ?_;rintro _ rfl;by_cases hb : n = 0 ∧ who = 0 ∧ kids.length = 0
  ·rw [decide_eq_true hb];refine vr 3 ?_;refine Sr 10 co4 .here .h2 ?_;exact zB hl3 [_] ⟨rfl, trivial⟩ [_] .p0 ⟨sPower ++ sOpen ++ sTarget ++ sClose, p + 1, false, rfl, rfl, xr hb.2.2 (by rw [hb.1, hb.2.1]; rfl) hp1 (by decide)⟩
  ·rw [decide_eq_false hb];refine vr 3 ?_;refine Sr 10 co4 .here .h2 ?_;exact zB hl3 [_] ⟨rfl, trivial⟩ [_] .p0 ⟨sPower ++ sOpen ++ sTarget ++ sClose, p + 1, true, rfl, rfl, yW (xR (by omega) (fun h => hb ⟨by omega, by omega, h.2.2⟩)) (by decide)⟩
 by_cases hbig : 8 ≤ op ∧ op ≤ 12
 rotate_left
 ·have h8 : op ≠ 8 := by omega
  have h9 : op ≠ 9 := by omega
  have h10 : op ≠ 10 := by omega
  have h11 : op ≠ 11 := by omega
  have h12 : op ≠ 12 := by omega
  refine tr 2 ?_;refine Lb 5 sg42 .h1 ?_;refine cfa 7 ?_;refine cfa 6 ?_;refine cfa 6 ?_;refine cfa 5 ?_;refine cfa 6 ?_;refine cfa 6 ?_;refine cfa 6 ?_;refine cfa 7 ?_;refine cfa 6 ?_;refine cfa 6 ?_;refine cfa 6 ?_;refine cfa 5 ?_;refine cfa 12 ?_;refine Sr 8 co4 .here .h2 ?_;exact zB hl3 [_] ⟨rfl, trivial⟩ [_] .p0 ⟨[], p + 1, true, rfl, rfl, yW (WN (by omega)) (by decide)⟩
 by_cases hb : n = 0 ∧ who = 0 ∧ kids.length = 2
 ·obtain ⟨hn0, hw0, hk2⟩ := hb
  obtain ⟨x1, x2, rfl⟩ : ∃ x1 x2, kids = [x1, x2] := by
   match kids, hk2 with
   | [x1, x2], _ => exact ⟨x1, x2, rfl⟩
  subst hn0 hw0;have hA : A.isSome = true := hr.isSome (by rw [hv]; simp);have ha1 := (hr.elem (0 * 4) 4).mono (hm0.trans hl3);have ha2 := (hr.elem (1 * 4) 4).mono (hm0.trans hl3);have i1 := (ih 0 (by simp)).mono (hm0.trans hl3);have i2 := (ih 1 (by simp)).mono (hm0.trans hl3);have f1 := hkk 0 (by simp);have f2 := hkk 1 (by simp);have f1 : NumR m ((vs.drop (0 * 4)).take 4) x1 := f1
  have f2 : NumR m ((vs.drop (1 * 4)).take 4) x2 := f2;have i1 : NumD m8 b ((vs.drop (0 * 4)).take 4) x1 := i1;have i2 : NumD m8 b ((vs.drop (1 * 4)).take 4) x2 := i2;obtain ⟨n1, w1, A1, l1, c1, e1⟩ := NumR.formO f1;obtain ⟨n2, w2, A2, l2, c2, e2⟩ := NumR.formO f2;rw [e1] at ha1 i1;rw [e2] at ha2 i2;clear f1 f2 e1 e2 ih hkk;rw [xu] at hp
  have fin : ∀ m', Le m8 m' → DnC 147 [ptr b, .agg (n4 op 0 0 A 2 c).toArray] m' b (p + 1) d false (twoP op x1 x2 d) (numW x1 + numW x2) (30 * numW x1 + 30 * numW x2 + 12) 0 := fun m' hm => two147 hA (ha1.mono hm) (ha2.mono hm) (i1.mono hm) (i2.mono hm) rfl rfl hbig (by omega) hd;have e0 : numP (.mk op 0 0 [x1, x2]) d = twoP op x1 x2 d := by rw [vQ, if_neg (fun h => h ⟨rfl, rfl⟩)]
  have hlen : ∀ {α : Type} {a b : α}, [a, b].length = 2 := fun {α a b} => rfl;have h5 : op = 8 ∨ op = 9 ∨ op = 10 ∨ op = 11 ∨ op = 12 := by omega
  rcases h5 with rfl | rfl | rfl | rfl | rfl
  ·refine tr 2 ?_;refine Lb 5 sg42 .h1 ?_;refine cfa 7 ?_;refine cfa 6 ?_;refine cfa 6 ?_;refine cfa 5 ?_;refine cfa 6 ?_;refine cfa 6 ?_;refine cfa 6 ?_;refine cfa 7 ?_;refine ctr 10 ?_;refine Lc 0 ag45 .h1 ?_;refine Cr cl146 rfl (fun m' hm he => (xH hmx)) ?_;rintro _ rfl;rw [decide_eq_true ⟨rfl, rfl, rfl⟩];refine vr 3 ?_;refine Sr 8 co4 .here .h2 ?_;refine Lb 8 sg4 .here ?_
   refine Lc 0 ag45 .h1 ?_;refine zC ((zF cl147 rfl .k0 (fun m' hm he => fin m' hm) rfl ?_)) rfl;rintro _ _ ⟨s, p1, q1, rfl, rfl, h1⟩;refine vr 6 ?_;exact zB hl3 [_] ⟨rfl, trivial⟩ [_] .p0 ⟨s, p1, q1, rfl, rfl, by rw [e0, xu]; exact (h1.le (by omega) (Nat.le_refl _)).one (by omega)⟩
  ·refine tr 2 ?_;refine Lb 5 sg42 .h1 ?_;refine cfa 7 ?_;refine cfa 6 ?_;refine cfa 6 ?_;refine cfa 5 ?_;refine cfa 6 ?_;refine cfa 6 ?_;refine cfa 6 ?_;refine cfa 7 ?_;refine cfo 6 ?_;refine ctr 10 ?_;refine Lc 0 ag45 .h1 ?_;refine Cr cl146 rfl (fun m' hm he => (xH hmx)) ?_;rintro _ rfl;rw [decide_eq_true ⟨rfl, rfl, rfl⟩];refine vr 3 ?_;refine Sr 8 co4 .here .h2 ?_;refine Lb 8 sg4 .here ?_
   refine Lc 0 ag45 .h1 ?_;refine zC ((zF cl147 rfl .k0 (fun m' hm he => fin m' hm) rfl ?_)) rfl;rintro _ _ ⟨s, p1, q1, rfl, rfl, h1⟩;refine vr 6 ?_;exact zB hl3 [_] ⟨rfl, trivial⟩ [_] .p0 ⟨s, p1, q1, rfl, rfl, by rw [e0, xu]; exact (h1.le (by omega) (Nat.le_refl _)).one (by omega)⟩
  ·refine tr 2 ?_;refine Lb 5 sg42 .h1 ?_;refine cfa 7 ?_;refine cfa 6 ?_;refine cfa 6 ?_;refine cfa 5 ?_;refine cfa 6 ?_;refine cfa 6 ?_;refine cfa 6 ?_;refine cfa 7 ?_;refine cfo 6 ?_;refine cfo 6 ?_;refine ctr 10 ?_;refine Lc 0 ag45 .h1 ?_;refine Cr cl146 rfl (fun m' hm he => (xH hmx)) ?_;rintro _ rfl;rw [decide_eq_true ⟨rfl, rfl, rfl⟩];refine vr 3 ?_;refine Sr 8 co4 .here .h2 ?_
   refine Lb 8 sg4 .here ?_;refine Lc 0 ag45 .h1 ?_;refine zC ((zF cl147 rfl .k0 (fun m' hm he => fin m' hm) rfl ?_)) rfl;rintro _ _ ⟨s, p1, q1, rfl, rfl, h1⟩;refine vr 6 ?_;exact zB hl3 [_] ⟨rfl, trivial⟩ [_] .p0 ⟨s, p1, q1, rfl, rfl, by rw [e0, xu]; exact (h1.le (by omega) (Nat.le_refl _)).one (by omega)⟩
  ·refine tr 2 ?_;refine Lb 5 sg42 .h1 ?_;refine cfa 7 ?_;refine cfa 6 ?_;refine cfa 6 ?_;refine cfa 5 ?_;refine cfa 6 ?_;refine cfa 6 ?_;refine cfa 6 ?_;refine cfa 7 ?_;refine cfo 6 ?_;refine cfo 6 ?_;refine cfo 6 ?_;refine ctr 10 ?_;refine Lc 0 ag45 .h1 ?_;refine Cr cl146 rfl (fun m' hm he => (xH hmx)) ?_;rintro _ rfl;rw [decide_eq_true ⟨rfl, rfl, rfl⟩];refine vr 3 ?_
   refine Sr 8 co4 .here .h2 ?_;refine Lb 8 sg4 .here ?_;refine Lc 0 ag45 .h1 ?_;refine zC ((zF cl147 rfl .k0 (fun m' hm he => fin m' hm) rfl ?_)) rfl;rintro _ _ ⟨s, p1, q1, rfl, rfl, h1⟩;refine vr 6 ?_;exact zB hl3 [_] ⟨rfl, trivial⟩ [_] .p0 ⟨s, p1, q1, rfl, rfl, by rw [e0, xu]; exact (h1.le (by omega) (Nat.le_refl _)).one (by omega)⟩
  ·refine tr 2 ?_;refine Lb 5 sg42 .h1 ?_;refine cfa 7 ?_;refine cfa 6 ?_;refine cfa 6 ?_;refine cfa 5 ?_;refine cfa 6 ?_;refine cfa 6 ?_;refine cfa 6 ?_;refine cfa 7 ?_;refine cfo 6 ?_;refine cfo 6 ?_;refine cfo 6 ?_;refine cfo 5 ?_;refine ctr 7 ?_;refine Lc 0 ag45 .h1 ?_;refine Cr cl146 rfl (fun m' hm he => (xH hmx)) ?_;rintro _ rfl;rw [decide_eq_true ⟨rfl, rfl, rfl⟩];refine vr 3 ?_
   refine Sr 8 co4 .here .h2 ?_;refine Lb 8 sg4 .here ?_;refine Lc 0 ag45 .h1 ?_;refine zC ((zF cl147 rfl .k0 (fun m' hm he => fin m' hm) rfl ?_)) rfl;rintro _ _ ⟨s, p1, q1, rfl, rfl, h1⟩;refine vr 6 ?_;exact zB hl3 [_] ⟨rfl, trivial⟩ [_] .p0 ⟨s, p1, q1, rfl, rfl, by rw [e0, xu]; exact (h1.le (by omega) (Nat.le_refl _)).one (by omega)⟩
 ·have h5 : op = 8 ∨ op = 9 ∨ op = 10 ∨ op = 11 ∨ op = 12 := by omega
  clear hbig;rcases h5 with rfl | rfl | rfl | rfl | rfl
  ·refine tr 2 ?_;refine Lb 5 sg42 .h1 ?_;refine cfa 7 ?_;refine cfa 6 ?_;refine cfa 6 ?_;refine cfa 5 ?_;refine cfa 6 ?_;refine cfa 6 ?_;refine cfa 6 ?_;refine cfa 7 ?_;refine ctr 10 ?_;refine Lc 0 ag45 .h1 ?_;refine Cr cl146 rfl (fun m' hm he => (xH hmx)) ?_;rintro _ rfl;rw [decide_eq_false hb];refine vr 3 ?_;refine Sr 8 co4 .here .h2 ?_;refine Lb 12 sg4 .here ?_
   exact zB hl3 [_] ⟨rfl, trivial⟩ [_] .p0 ⟨[], p + 1, true, rfl, rfl, yW (wk (by decide) hb) (by decide)⟩
  ·refine tr 2 ?_;refine Lb 5 sg42 .h1 ?_;refine cfa 7 ?_;refine cfa 6 ?_;refine cfa 6 ?_;refine cfa 5 ?_;refine cfa 6 ?_;refine cfa 6 ?_;refine cfa 6 ?_;refine cfa 7 ?_;refine cfo 6 ?_;refine ctr 10 ?_;refine Lc 0 ag45 .h1 ?_;refine Cr cl146 rfl (fun m' hm he => (xH hmx)) ?_;rintro _ rfl;rw [decide_eq_false hb];refine vr 3 ?_;refine Sr 8 co4 .here .h2 ?_;refine Lb 12 sg4 .here ?_
   exact zB hl3 [_] ⟨rfl, trivial⟩ [_] .p0 ⟨[], p + 1, true, rfl, rfl, yW (wk (by decide) hb) (by decide)⟩
  ·refine tr 2 ?_;refine Lb 5 sg42 .h1 ?_;refine cfa 7 ?_;refine cfa 6 ?_;refine cfa 6 ?_;refine cfa 5 ?_;refine cfa 6 ?_;refine cfa 6 ?_;refine cfa 6 ?_;refine cfa 7 ?_;refine cfo 6 ?_;refine cfo 6 ?_;refine ctr 10 ?_;refine Lc 0 ag45 .h1 ?_;refine Cr cl146 rfl (fun m' hm he => (xH hmx)) ?_;rintro _ rfl;rw [decide_eq_false hb];refine vr 3 ?_;refine Sr 8 co4 .here .h2 ?_
   refine Lb 12 sg4 .here ?_;exact zB hl3 [_] ⟨rfl, trivial⟩ [_] .p0 ⟨[], p + 1, true, rfl, rfl, yW (wk (by decide) hb) (by decide)⟩
  ·refine tr 2 ?_;refine Lb 5 sg42 .h1 ?_;refine cfa 7 ?_;refine cfa 6 ?_;refine cfa 6 ?_;refine cfa 5 ?_;refine cfa 6 ?_;refine cfa 6 ?_;refine cfa 6 ?_;refine cfa 7 ?_;refine cfo 6 ?_;refine cfo 6 ?_;refine cfo 6 ?_;refine ctr 10 ?_;refine Lc 0 ag45 .h1 ?_;refine Cr cl146 rfl (fun m' hm he => (xH hmx)) ?_;rintro _ rfl;rw [decide_eq_false hb];refine vr 3 ?_;refine Sr 8 co4 .here .h2 ?_
   refine Lb 12 sg4 .here ?_;exact zB hl3 [_] ⟨rfl, trivial⟩ [_] .p0 ⟨[], p + 1, true, rfl, rfl, yW (wk (by decide) hb) (by decide)⟩
  ·refine tr 2 ?_;refine Lb 5 sg42 .h1 ?_;refine cfa 7 ?_;refine cfa 6 ?_;refine cfa 6 ?_;refine cfa 5 ?_;refine cfa 6 ?_;refine cfa 6 ?_;refine cfa 6 ?_;refine cfa 7 ?_;refine cfo 6 ?_;refine cfo 6 ?_;refine cfo 6 ?_;refine cfo 5 ?_;refine ctr 7 ?_;refine Lc 0 ag45 .h1 ?_;refine Cr cl146 rfl (fun m' hm he => (xH hmx)) ?_;rintro _ rfl;rw [decide_eq_false hb];refine vr 3 ?_
   refine Sr 8 co4 .here .h2 ?_;refine Lb 12 sg4 .here ?_;exact zB hl3 [_] ⟨rfl, trivial⟩ [_] .p0 ⟨[], p + 1, true, rfl, rfl, yW (wk (by decide) hb) (by decide)⟩
end
section
open Wd Tp Kd
variable {m : Mp} {b d p : Nat} {q : Bool}
def CondD (m : Mp) (b : Nat) (cs : List Value) (x : CondT) : Prop := ∀ m', Le m m' → ∀ (p d : Nat) (q : Bool), p + condW x ≤ 1000000 → d ≤ 100 → (q = false → d ≤ 8) → DnC 123 [ptr b, .agg cs.toArray] m' b p d q (condP x d) (condW x) (100 * condW x) 140737488355328
theorem CondD.mono {m m' : Mp} {cs : List Value} {x : CondT} (h : CondD m b cs x) (hl : Le m m') : CondD m' b cs x := fun m2 h2 => h m2 (hl.trans h2)
theorem yQ {x : CondT} {d p : Nat} {s : List UInt8} (h : condP x d = none) (hs : s.length ≤ 140737488355328 + 100) : Out p false (condP x d) (condW x) (100 * condW x) 140737488355328 s (p + 1) true := by
 have hw := yB x;exact (Out.none (w := condW x - 1) h (by omega)).one (by omega)
theorem test148 {op who : Int} {name : List UInt8} {A : Option Addr} {la ca : Nat} {B : Option Addr} {lb cb : Nat} {x : CondT} {br : Bool} (hx : CondD m b (c5 op who name A la ca B lb cb) x) (hp : p + condW x ≤ 1000000) (hd : d ≤ 99) (hq : q = false → d ≤ 8) : DnC 148 [ptr b, .agg (c5 op who name A la ca B lb cb).toArray, .bool br] m b p d q (brP br d (condP x)) (condW x) (100 * condW x + 2) 140737488355328 := by
 refine zn [.tmp 6] Tryz.func148 rfl rfl rfl ?_;cases br with
 | false =>
   refine tr 2 ?_;refine Bx 14 rfl fun b1 => ?_;refine Lc 0 ag48 .here ?_;refine zC ((zF cl123 rfl .k1 (fun m' hm he => hx m' hm p d q hp (by omega) hq) rfl ?_)) rfl;rintro _ _ ⟨s, p1, q1, rfl, rfl, h1⟩;refine vr 5 ?_;exact zl [_] ⟨rfl, trivial⟩ [_] .p0 ⟨s, p1, q1, rfl, rfl, h1.le (by omega) (Nat.le_refl _)⟩
 | true =>
   refine tr 2 ?_;refine Bx 16 rfl fun b1 => ?_;refine zC ((zF cl122 rfl .k1 (fun m' hm he => in122 (by omega)) rfl ?_)) rfl;rintro _ _ ⟨rfl, rfl⟩;refine vr 5 ?_;refine Lc 0 ag48 .h1 ?_;refine zC ((zF cl123 rfl .k0 (fun m' hm he => hx m' hm p (d + 1) _ hp (by omega) uf) rfl ?_)) rfl;rintro _ _ ⟨s, p1, q1, rfl, rfl, h1⟩;have hsl := h1.len;refine Ps 0 ?_;refine Ps 6 ?_
   refine zC ((zF cl124 rfl .k0 (fun m' hm he => out124 (by omega)) rfl ?_)) rfl;rintro _ _ ⟨rfl, rfl⟩;refine vr 9 ?_;exact zl [_] ⟨rfl, trivial⟩ [_] .p0 ⟨_, p1, q1, rfl, rfl, h1.br⟩
theorem Xd {op who : Int} {name : List UInt8} {nums : List NumT} {kids : List CondT} {A B : Option Addr} {ca cb : Nat} {vs us : List Value} (hma : nums.length ≤ 9223372036854775807) (hmb : kids.length ≤ 9223372036854775807) (hnm : name.length ≤ 140737488355328)
  (hra : Rd m A vs) (hva : vs.length = nums.length * 4) (hka : ∀ (i : Nat) (hi : i < nums.length), NumR m ((vs.drop (i * 4)).take 4) nums[i])
  (hrb : Rd m B us) (hvb : us.length = kids.length * 5) (hkb : ∀ (i : Nat) (hi : i < kids.length), CondR m ((us.drop (i * 5)).take 5) kids[i])
  (ih : ∀ (i : Nat) (hi : i < kids.length), CondD m b ((us.drop (i * 5)).take 5) kids[i]) (h6 : op = 0 ∨ op = 1 ∨ op = 2) (hwho : who = 0) (hname : name = []) : CondD m b (c5 op who name A nums.length ca B kids.length cb) (.mk op who name nums kids) := by
 intro m0 hm0 p d q hp hd hq;skip;refine zn [.tmp 4] Tryz.func123 rfl rfl rfl ?_;refine tr 2 ?_;refine Bx 4 rfl fun b1 => ?_;refine zI .here (fun ns hi _ hd1 => ?_);have hR : Rd (uni m0 ns) (some ⟨b1, 0, none⟩) (c5 op who name A nums.length ca B kids.length cb) := (Rd.blk hi).mono (zP hd1);have hl2 : Le m0 (uni m0 ns) := zN _ _;clear hi hd1;generalize uni m0 ns = m9 at hR hl2
 have hl9 := hm0.trans hl2;have hat : At m9 ⟨b1, 0, none⟩ (c5 op who name A nums.length ca B kids.length cb) := fun i u hi => hR.at_ hi;have hc0 : mc m9 ⟨b1, 0, none⟩ = some (.int .i8 op) := hR.at_ (i := 0) rfl;have hc1 : mc m9 ⟨b1, 1, none⟩ = some (.int .i8 who) := hR.at_ (i := 1) rfl;have hc2 : mc m9 ⟨b1, 2, none⟩ = some (.string (bs name)) := hR.at_ (i := 2) rfl
 have hc3 : mc m9 ⟨b1, 3, none⟩ = some (.slice A nums.length ca) := hR.at_ (i := 3) rfl;have hc4 : mc m9 ⟨b1, 4, none⟩ = some (.slice B kids.length cb) := hR.at_ (i := 4) rfl;have hw1 := yB (.mk op who name nums kids);refine tr 2 ?_;refine zC ((zF cl117 rfl .k0 (fun m' hm he => part117 (by omega)) rfl ?_)) rfl;rintro _ _ ⟨rfl, rfl⟩;cases q with
 | true =>
   rw [Bool.true_or];refine vr 8 ?_;refine Lb 10 sg4 .here ?_;exact zB hl2 [_] ⟨rfl, trivial⟩ [_] .p0 ⟨[], p + 1, true, rfl, rfl, Out.stop (by omega)⟩
 | false =>
 have hd := hq rfl;rw [Bool.false_or];by_cases hp2 : 200 < p + 1
 ·rw [decide_eq_true hp2];refine vr 8 ?_;refine Lb 10 sg4 .here ?_;exact zB hl2 [_] ⟨rfl, trivial⟩ [_] .p0 ⟨[], p + 1, true, rfl, rfl, Out.over hp2 (by omega)⟩
 rw [decide_eq_false hp2];have hp1 : p + 1 ≤ 200 := by omega
 subst hwho hname;clear ih;rcases h6 with rfl | rfl | rfl
 ·skip;by_cases hna : nums.length = 2
  rotate_left
  ·refine vr 8 ?_;refine Lb 8 sg4 .here ?_;refine Lo 0 sg42 rfl hc0 ?_;refine cfo 10 ?_;refine Lo 0 sg42 rfl hc1 ?_;refine cfo 2 ?_;refine Lo 0 sg9 rfl hc2 ?_;refine cf 11 rfl (by decide) ?_;refine Lo 6 sg42 rfl hc0 ?_;refine ctr 11 ?_;refine Lo 1 sg43 rfl hc3 ?_;refine cto 8 ?_;refine Sr 8 co4 .here .h2 ?_;refine Lb 12 sg4 .here ?_
   exact zB hl2 [_] ⟨rfl, trivial⟩ [_] .p0 ⟨[], p + 1, true, rfl, rfl, yQ (zc (fun h => by unfold shapeC at h; omega)) (by decide)⟩
  by_cases hnk : kids.length = 0
  rotate_left
  ·refine vr 8 ?_;refine Lb 8 sg4 .here ?_;refine Lo 0 sg42 rfl hc0 ?_;refine cfo 10 ?_;refine Lo 0 sg42 rfl hc1 ?_;refine cfo 2 ?_;refine Lo 0 sg9 rfl hc2 ?_;refine cf 11 rfl (by decide) ?_;refine Lo 6 sg42 rfl hc0 ?_;refine ctr 11 ?_;refine Lo 1 sg43 rfl hc3 ?_;refine cfo 2 ?_;refine Lo 1 sg46 rfl hc4 ?_;refine cto 3 ?_;refine Sr 8 co4 .here .h2 ?_;refine Lb 12 sg4 .here ?_
   exact zB hl2 [_] ⟨rfl, trivial⟩ [_] .p0 ⟨[], p + 1, true, rfl, rfl, yQ (zc (fun h => by unfold shapeC at h; omega)) (by decide)⟩
  have hk0 := List.eq_nil_of_length_eq_zero hnk;obtain ⟨x1, x2, rfl⟩ := xF hna;subst hk0;have hA : A.isSome = true := hra.isSome (by rw [hva]; simp);have f1 : NumR m ((vs.drop (0 * 4)).take 4) x1 := hka 0 (by simp);have f2 : NumR m ((vs.drop (1 * 4)).take 4) x2 := hka 1 (by simp);have ha1 := (hra.elem (0 * 4) 4).mono hl9;have ha2 := (hra.elem (1 * 4) 4).mono hl9
  have i1 : NumD m9 b _ x1 := num121 (b := b) (f1.mono hl9);have i2 : NumD m9 b _ x2 := num121 (b := b) (f2.mono hl9);obtain ⟨n1, w1, A1, l1, c1, e1⟩ := NumR.formO f1;obtain ⟨n2, w2, A2, l2, c2, e2⟩ := NumR.formO f2;rw [e1] at ha1 i1;rw [e2] at ha2 i2;clear f1 f2 e1 e2;rw [yy] at hp;rw [uR, yy];refine vr 8 ?_;refine Lb 8 sg4 .here ?_;refine Lo 0 sg42 rfl hc0 ?_
  refine cfo 10 ?_;refine Lo 0 sg42 rfl hc1 ?_;refine cfo 2 ?_;refine Lo 0 sg9 rfl hc2 ?_;refine cf 11 rfl (by decide) ?_;refine Lo 6 sg42 rfl hc0 ?_;refine ctr 11 ?_;refine Lo 1 sg43 rfl hc3 ?_;refine cfo 2 ?_;refine Lo 1 sg46 rfl hc4 ?_;refine cfo 3 ?_;refine Sr 8 co4 .here .h2 ?_;refine Lb 7 sg4 .here ?_;refine Bs 4 sl61 fun b2 => ?_;refine zI .here (fun ns hi _ hd1 => ?_)
  have hS : Rd (uni m9 ns) (some ⟨b2, 0, none⟩) [.string (bs [32, 60, 32]), .string (bs [32, 60, 61, 32]), .string (bs [32, 61, 61, 32])] := (Rd.blk hi).mono (zP hd1);have hl3 : Le m9 (uni m9 ns) := zN _ _;clear hi hd1;generalize uni m9 ns = m8 at hS hl3;have hl2 := hl2.trans hl3;have hat := hat.mono hl3;have hc0 := zq hl3 hc0;have hc3 := zq hl3 hc3;have ha1 := ha1.mono hl3
  have ha2 := ha2.mono hl3;have i1 := i1.mono hl3;have i2 := i2.mono hl3;have hs1 : mc m8 ⟨b2, 0, none⟩ = some (.string (bs [32, 60, 32])) := hS.at_ (i := 0) rfl;refine tr 3 ?_;refine Lo 0 sg43 rfl hc3 ?_;refine pe 0 (zL ez43 rfl rfl hA (by omega) (by omega)) ?_;refine La 0 ag45 ha1 ?_
  refine zC ((zF cl121 rfl .k0 (fun m' hm he => i1 m' hm (p + 1) d false (by omega) (by omega) (fun _ => hd)) rfl ?_)) rfl;rintro _ _ ⟨s, p1, q1, rfl, rfl, h1⟩;have hsl := h1.len;have hph := h1.hi;refine vr 4 ?_;refine Db (sq [0, 1, 2, 3, 4, 5, 6, 7, 8, 9, 10, 11, 112, 13, 14] .done) ?_;refine vB 3 ?_;refine Vr 0 rfl (zG sg42 rfl hc0) ?_
  refine Vb 0 rfl (zr ez61 rfl rfl (hS.isSome (by simp <;> omega)) (by omega) (by omega)) ?_;refine Vr 0 rfl (zG sg9 rfl hs1) ?_;refine Vs 2 rfl ?_;refine Vr 0 rfl (zG sg43 rfl hc3) ?_;refine Vb 0 rfl (zL ez43 rfl rfl hA (by omega) (by omega)) ?_;refine Vr 0 rfl (zJ ag45 rfl rfl ha2) ?_
  refine zA rfl ((zF cl121 rfl .k0 (fun m' hm he => i2 m' hm p1 d q1 (by omega) (by omega) (fun _ => hd)) rfl ?_)) rfl;rintro _ _ ⟨t, p2, q2, rfl, rfl, h2⟩;have htl := h2.len;refine Vs 1 rfl ?_;refine Vn 4 ?_;have e2 : s ++ [32, 60, 32] ++ t = sgnT sLt s t := by simp [sgnT]
  rw [e2];exact zB hl2 [_] ⟨rfl, trivial⟩ [_] .p0 ⟨_, p2, q2, rfl, rfl, ((h1.put h2 (K := 4) (by rw [yY]; exact Nat.add_le_add_left (by decide) _)).le (by omega) (Nat.zero_le _)).one (by omega)⟩
 ·skip;by_cases hna : nums.length = 2
  rotate_left
  ·refine vr 8 ?_;refine Lb 8 sg4 .here ?_;refine Lo 0 sg42 rfl hc0 ?_;refine cfo 10 ?_;refine Lo 0 sg42 rfl hc1 ?_;refine cfo 2 ?_;refine Lo 0 sg9 rfl hc2 ?_;refine cf 11 rfl (by decide) ?_;refine Lo 6 sg42 rfl hc0 ?_;refine cfo 6 ?_;refine ctr 11 ?_;refine Lo 1 sg43 rfl hc3 ?_;refine cto 8 ?_;refine Sr 8 co4 .here .h2 ?_;refine Lb 12 sg4 .here ?_
   exact zB hl2 [_] ⟨rfl, trivial⟩ [_] .p0 ⟨[], p + 1, true, rfl, rfl, yQ (zc (fun h => by unfold shapeC at h; omega)) (by decide)⟩
  by_cases hnk : kids.length = 0
  rotate_left
  ·refine vr 8 ?_;refine Lb 8 sg4 .here ?_;refine Lo 0 sg42 rfl hc0 ?_;refine cfo 10 ?_;refine Lo 0 sg42 rfl hc1 ?_;refine cfo 2 ?_;refine Lo 0 sg9 rfl hc2 ?_;refine cf 11 rfl (by decide) ?_;refine Lo 6 sg42 rfl hc0 ?_;refine cfo 6 ?_;refine ctr 11 ?_;refine Lo 1 sg43 rfl hc3 ?_;refine cfo 2 ?_;refine Lo 1 sg46 rfl hc4 ?_;refine cto 3 ?_;refine Sr 8 co4 .here .h2 ?_;refine Lb 12 sg4 .here ?_
   exact zB hl2 [_] ⟨rfl, trivial⟩ [_] .p0 ⟨[], p + 1, true, rfl, rfl, yQ (zc (fun h => by unfold shapeC at h; omega)) (by decide)⟩
  have hk0 := List.eq_nil_of_length_eq_zero hnk;obtain ⟨x1, x2, rfl⟩ := xF hna;subst hk0;have hA : A.isSome = true := hra.isSome (by rw [hva]; simp);have f1 : NumR m ((vs.drop (0 * 4)).take 4) x1 := hka 0 (by simp);have f2 : NumR m ((vs.drop (1 * 4)).take 4) x2 := hka 1 (by simp);have ha1 := (hra.elem (0 * 4) 4).mono hl9;have ha2 := (hra.elem (1 * 4) 4).mono hl9
  have i1 : NumD m9 b _ x1 := num121 (b := b) (f1.mono hl9);have i2 : NumD m9 b _ x2 := num121 (b := b) (f2.mono hl9);obtain ⟨n1, w1, A1, l1, c1, e1⟩ := NumR.formO f1;obtain ⟨n2, w2, A2, l2, c2, e2⟩ := NumR.formO f2;rw [e1] at ha1 i1;rw [e2] at ha2 i2;clear f1 f2 e1 e2;rw [yy] at hp;rw [uQ, yy];refine vr 8 ?_;refine Lb 8 sg4 .here ?_;refine Lo 0 sg42 rfl hc0 ?_
  refine cfo 10 ?_;refine Lo 0 sg42 rfl hc1 ?_;refine cfo 2 ?_;refine Lo 0 sg9 rfl hc2 ?_;refine cf 11 rfl (by decide) ?_;refine Lo 6 sg42 rfl hc0 ?_;refine cfo 6 ?_;refine ctr 11 ?_;refine Lo 1 sg43 rfl hc3 ?_;refine cfo 2 ?_;refine Lo 1 sg46 rfl hc4 ?_;refine cfo 3 ?_;refine Sr 8 co4 .here .h2 ?_;refine Lb 7 sg4 .here ?_;refine Bs 4 sl61 fun b2 => ?_;refine zI .here (fun ns hi _ hd1 => ?_)
  have hS : Rd (uni m9 ns) (some ⟨b2, 0, none⟩) [.string (bs [32, 60, 32]), .string (bs [32, 60, 61, 32]), .string (bs [32, 61, 61, 32])] := (Rd.blk hi).mono (zP hd1);have hl3 : Le m9 (uni m9 ns) := zN _ _;clear hi hd1;generalize uni m9 ns = m8 at hS hl3;have hl2 := hl2.trans hl3;have hat := hat.mono hl3;have hc0 := zq hl3 hc0;have hc3 := zq hl3 hc3;have ha1 := ha1.mono hl3
  have ha2 := ha2.mono hl3;have i1 := i1.mono hl3;have i2 := i2.mono hl3;have hs1 : mc m8 ⟨b2, 1, none⟩ = some (.string (bs [32, 60, 61, 32])) := hS.at_ (i := 1) rfl;refine tr 3 ?_;refine Lo 0 sg43 rfl hc3 ?_;refine pe 0 (zL ez43 rfl rfl hA (by omega) (by omega)) ?_;refine La 0 ag45 ha1 ?_
  refine zC ((zF cl121 rfl .k0 (fun m' hm he => i1 m' hm (p + 1) d false (by omega) (by omega) (fun _ => hd)) rfl ?_)) rfl;rintro _ _ ⟨s, p1, q1, rfl, rfl, h1⟩;have hsl := h1.len;have hph := h1.hi;refine vr 4 ?_;refine Db (sq [0, 1, 2, 3, 4, 5, 6, 7, 8, 9, 10, 11, 112, 13, 14] .done) ?_;refine vB 3 ?_;refine Vr 0 rfl (zG sg42 rfl hc0) ?_
  refine Vb 0 rfl (zr ez61 rfl rfl (hS.isSome (by simp <;> omega)) (by omega) (by omega)) ?_;refine Vr 0 rfl (zG sg9 rfl hs1) ?_;refine Vs 2 rfl ?_;refine Vr 0 rfl (zG sg43 rfl hc3) ?_;refine Vb 0 rfl (zL ez43 rfl rfl hA (by omega) (by omega)) ?_;refine Vr 0 rfl (zJ ag45 rfl rfl ha2) ?_
  refine zA rfl ((zF cl121 rfl .k0 (fun m' hm he => i2 m' hm p1 d q1 (by omega) (by omega) (fun _ => hd)) rfl ?_)) rfl;rintro _ _ ⟨t, p2, q2, rfl, rfl, h2⟩;have htl := h2.len;refine Vs 1 rfl ?_;refine Vn 4 ?_;have e2 : s ++ [32, 60, 61, 32] ++ t = sgnT sLe s t := by simp [sgnT]
  rw [e2];exact zB hl2 [_] ⟨rfl, trivial⟩ [_] .p0 ⟨_, p2, q2, rfl, rfl, ((h1.put h2 (K := 4) (by rw [yY]; exact Nat.add_le_add_left (by decide) _)).le (by omega) (Nat.zero_le _)).one (by omega)⟩
 ·skip;by_cases hna : nums.length = 2
  rotate_left
  ·refine vr 8 ?_;refine Lb 8 sg4 .here ?_;refine Lo 0 sg42 rfl hc0 ?_;refine cfo 10 ?_;refine Lo 0 sg42 rfl hc1 ?_;refine cfo 2 ?_;refine Lo 0 sg9 rfl hc2 ?_;refine cf 11 rfl (by decide) ?_;refine Lo 6 sg42 rfl hc0 ?_;refine cfo 6 ?_;refine cfo 5 ?_;refine ctr 8 ?_;refine Lo 1 sg43 rfl hc3 ?_;refine cto 8 ?_;refine Sr 8 co4 .here .h2 ?_;refine Lb 12 sg4 .here ?_
   exact zB hl2 [_] ⟨rfl, trivial⟩ [_] .p0 ⟨[], p + 1, true, rfl, rfl, yQ (zc (fun h => by unfold shapeC at h; omega)) (by decide)⟩
  by_cases hnk : kids.length = 0
  rotate_left
  ·refine vr 8 ?_;refine Lb 8 sg4 .here ?_;refine Lo 0 sg42 rfl hc0 ?_;refine cfo 10 ?_;refine Lo 0 sg42 rfl hc1 ?_;refine cfo 2 ?_;refine Lo 0 sg9 rfl hc2 ?_;refine cf 11 rfl (by decide) ?_;refine Lo 6 sg42 rfl hc0 ?_;refine cfo 6 ?_;refine cfo 5 ?_;refine ctr 8 ?_;refine Lo 1 sg43 rfl hc3 ?_;refine cfo 2 ?_;refine Lo 1 sg46 rfl hc4 ?_;refine cto 3 ?_;refine Sr 8 co4 .here .h2 ?_
   refine Lb 12 sg4 .here ?_;exact zB hl2 [_] ⟨rfl, trivial⟩ [_] .p0 ⟨[], p + 1, true, rfl, rfl, yQ (zc (fun h => by unfold shapeC at h; omega)) (by decide)⟩
  have hk0 := List.eq_nil_of_length_eq_zero hnk;obtain ⟨x1, x2, rfl⟩ := xF hna;subst hk0;have hA : A.isSome = true := hra.isSome (by rw [hva]; simp);have f1 : NumR m ((vs.drop (0 * 4)).take 4) x1 := hka 0 (by simp);have f2 : NumR m ((vs.drop (1 * 4)).take 4) x2 := hka 1 (by simp);have ha1 := (hra.elem (0 * 4) 4).mono hl9;have ha2 := (hra.elem (1 * 4) 4).mono hl9
  have i1 : NumD m9 b _ x1 := num121 (b := b) (f1.mono hl9);have i2 : NumD m9 b _ x2 := num121 (b := b) (f2.mono hl9);obtain ⟨n1, w1, A1, l1, c1, e1⟩ := NumR.formO f1;obtain ⟨n2, w2, A2, l2, c2, e2⟩ := NumR.formO f2;rw [e1] at ha1 i1;rw [e2] at ha2 i2;clear f1 f2 e1 e2;rw [yy] at hp;rw [uP, yy];refine vr 8 ?_;refine Lb 8 sg4 .here ?_;refine Lo 0 sg42 rfl hc0 ?_
  refine cfo 10 ?_;refine Lo 0 sg42 rfl hc1 ?_;refine cfo 2 ?_;refine Lo 0 sg9 rfl hc2 ?_;refine cf 11 rfl (by decide) ?_;refine Lo 6 sg42 rfl hc0 ?_;refine cfo 6 ?_;refine cfo 5 ?_;refine ctr 8 ?_;refine Lo 1 sg43 rfl hc3 ?_;refine cfo 2 ?_;refine Lo 1 sg46 rfl hc4 ?_;refine cfo 3 ?_;refine Sr 8 co4 .here .h2 ?_;refine Lb 7 sg4 .here ?_;refine Bs 4 sl61 fun b2 => ?_
  refine zI .here (fun ns hi _ hd1 => ?_);have hS : Rd (uni m9 ns) (some ⟨b2, 0, none⟩) [.string (bs [32, 60, 32]), .string (bs [32, 60, 61, 32]), .string (bs [32, 61, 61, 32])] := (Rd.blk hi).mono (zP hd1);have hl3 : Le m9 (uni m9 ns) := zN _ _;clear hi hd1;generalize uni m9 ns = m8 at hS hl3;have hl2 := hl2.trans hl3;have hat := hat.mono hl3;have hc0 := zq hl3 hc0
  have hc3 := zq hl3 hc3;have ha1 := ha1.mono hl3;have ha2 := ha2.mono hl3;have i1 := i1.mono hl3;have i2 := i2.mono hl3;have hs1 : mc m8 ⟨b2, 2, none⟩ = some (.string (bs [32, 61, 61, 32])) := hS.at_ (i := 2) rfl;refine tr 3 ?_;refine Lo 0 sg43 rfl hc3 ?_;refine pe 0 (zL ez43 rfl rfl hA (by omega) (by omega)) ?_;refine La 0 ag45 ha1 ?_
  refine zC ((zF cl121 rfl .k0 (fun m' hm he => i1 m' hm (p + 1) d false (by omega) (by omega) (fun _ => hd)) rfl ?_)) rfl;rintro _ _ ⟨s, p1, q1, rfl, rfl, h1⟩;have hsl := h1.len;have hph := h1.hi;refine vr 4 ?_;refine Db (sq [0, 1, 2, 3, 4, 5, 6, 7, 8, 9, 10, 11, 112, 13, 14] .done) ?_;refine vB 3 ?_;refine Vr 0 rfl (zG sg42 rfl hc0) ?_
  refine Vb 0 rfl (zr ez61 rfl rfl (hS.isSome (by simp <;> omega)) (by omega) (by omega)) ?_;refine Vr 0 rfl (zG sg9 rfl hs1) ?_;refine Vs 2 rfl ?_;refine Vr 0 rfl (zG sg43 rfl hc3) ?_;refine Vb 0 rfl (zL ez43 rfl rfl hA (by omega) (by omega)) ?_;refine Vr 0 rfl (zJ ag45 rfl rfl ha2) ?_
  refine zA rfl ((zF cl121 rfl .k0 (fun m' hm he => i2 m' hm p1 d q1 (by omega) (by omega) (fun _ => hd)) rfl ?_)) rfl;rintro _ _ ⟨t, p2, q2, rfl, rfl, h2⟩;have htl := h2.len;refine Vs 1 rfl ?_;refine Vn 4 ?_;have e2 : s ++ [32, 61, 61, 32] ++ t = sgnT sEq s t := by simp [sgnT]
  rw [e2];exact zB hl2 [_] ⟨rfl, trivial⟩ [_] .p0 ⟨_, p2, q2, rfl, rfl, ((h1.put h2 (K := 4) (by rw [yY]; exact Nat.add_le_add_left (by decide) _)).le (by omega) (Nat.zero_le _)).one (by omega)⟩
end
section
open Wd Tp Kd
variable {m : Mp} {b d p : Nat} {q : Bool}
theorem ZO {op who : Int} {name : List UInt8} {nums : List NumT} {kids : List CondT} {A B : Option Addr} {ca cb : Nat} {vs us : List Value} (hma : nums.length ≤ 9223372036854775807) (hmb : kids.length ≤ 9223372036854775807) (hnm : name.length ≤ 140737488355328)
  (hra : Rd m A vs) (hva : vs.length = nums.length * 4) (hka : ∀ (i : Nat) (hi : i < nums.length), NumR m ((vs.drop (i * 4)).take 4) nums[i])
  (hrb : Rd m B us) (hvb : us.length = kids.length * 5) (hkb : ∀ (i : Nat) (hi : i < kids.length), CondR m ((us.drop (i * 5)).take 5) kids[i])
  (ih : ∀ (i : Nat) (hi : i < kids.length), CondD m b ((us.drop (i * 5)).take 5) kids[i]) (h6 : op = 6) : CondD m b (c5 op who name A nums.length ca B kids.length cb) (.mk op who name nums kids) := by
 intro m0 hm0 p d q hp hd hq;skip;refine zn [.tmp 4] Tryz.func123 rfl rfl rfl ?_;refine tr 2 ?_;refine Bx 4 rfl fun b1 => ?_;refine zI .here (fun ns hi _ hd1 => ?_);have hR : Rd (uni m0 ns) (some ⟨b1, 0, none⟩) (c5 op who name A nums.length ca B kids.length cb) := (Rd.blk hi).mono (zP hd1);have hl2 : Le m0 (uni m0 ns) := zN _ _;clear hi hd1;generalize uni m0 ns = m9 at hR hl2
 have hl9 := hm0.trans hl2;have hat : At m9 ⟨b1, 0, none⟩ (c5 op who name A nums.length ca B kids.length cb) := fun i u hi => hR.at_ hi;have hc0 : mc m9 ⟨b1, 0, none⟩ = some (.int .i8 op) := hR.at_ (i := 0) rfl;have hc1 : mc m9 ⟨b1, 1, none⟩ = some (.int .i8 who) := hR.at_ (i := 1) rfl;have hc2 : mc m9 ⟨b1, 2, none⟩ = some (.string (bs name)) := hR.at_ (i := 2) rfl
 have hc3 : mc m9 ⟨b1, 3, none⟩ = some (.slice A nums.length ca) := hR.at_ (i := 3) rfl;have hc4 : mc m9 ⟨b1, 4, none⟩ = some (.slice B kids.length cb) := hR.at_ (i := 4) rfl;have hw1 := yB (.mk op who name nums kids);refine tr 2 ?_;refine zC ((zF cl117 rfl .k0 (fun m' hm he => part117 (by omega)) rfl ?_)) rfl;rintro _ _ ⟨rfl, rfl⟩;cases q with
 | true =>
   rw [Bool.true_or];refine vr 8 ?_;refine Lb 10 sg4 .here ?_;exact zB hl2 [_] ⟨rfl, trivial⟩ [_] .p0 ⟨[], p + 1, true, rfl, rfl, Out.stop (by omega)⟩
 | false =>
 have hd := hq rfl;rw [Bool.false_or];by_cases hp2 : 200 < p + 1
 ·rw [decide_eq_true hp2];refine vr 8 ?_;refine Lb 10 sg4 .here ?_;exact zB hl2 [_] ⟨rfl, trivial⟩ [_] .p0 ⟨[], p + 1, true, rfl, rfl, Out.over hp2 (by omega)⟩
 rw [decide_eq_false hp2];have hp1 : p + 1 ≤ 200 := by omega
 subst h6;clear ih;refine vr 8 ?_;refine Lb 8 sg4 .here ?_;refine Lo 0 sg42 rfl hc0 ?_;refine ctr 27 ?_;refine Lo 6 sg42 rfl hc0 ?_;refine cfo 6 ?_;refine cfo 5 ?_;refine cfo 6 ?_;refine ctr 7 ?_;refine Lo 0 sg42 rfl hc1 ?_;refine Cr cl120 rfl (fun m' hm he => side120) ?_;rintro _ rfl;cases hs : sideP who with
 | none =>
   rw [show sideV who = .tuple #[.string (bs []), .bool false] by unfold sideV; rw [hs]; rfl];refine vr 32 ?_;refine Sr 5 co4 .here .h2 ?_;refine Ps 0 ?_;refine Ps 1 ?_;refine Lo 0 sg9 rfl hc2 ?_;refine Ps 0 ?_;refine Ps 6 ?_
   exact zB hl2 [_] ⟨rfl, trivial⟩ [_] .p0 ⟨_, p + 1, true, rfl, rfl, yQ (by
     by_cases hs2 : shapeC 6 nums.length kids.length
     ·have hn0 := List.eq_nil_of_length_eq_zero (hs2.2.2.2.1 rfl).1;have hk0 := List.eq_nil_of_length_eq_zero (hs2.2.2.2.1 rfl).2;subst hn0 hk0;rw [xw, hs];exact ite_self _
     ·exact zc hs2) (by simp; omega)⟩
 | some s =>
   have hsl := zx hs;rw [show sideV who = .tuple #[.string (bs s), .bool true] by unfold sideV; rw [hs]; rfl];by_cases hna : nums.length = 0
   rotate_left
   ·refine vr 14 ?_;refine Lo 1 sg43 rfl hc3 ?_;refine cto 15 ?_;refine Sr 5 co4 .here .h2 ?_;refine Ps 0 ?_;refine Ps 1 ?_;refine Lo 0 sg9 rfl hc2 ?_;refine Ps 0 ?_;refine Ps 6 ?_;exact zB hl2 [_] ⟨rfl, trivial⟩ [_] .p0 ⟨_, p + 1, true, rfl, rfl, yQ (zc (fun h => by unfold shapeC at h; omega)) (by simp; omega)⟩
   by_cases hnk : kids.length = 0
   rotate_left
   ·refine vr 14 ?_;refine Lo 1 sg43 rfl hc3 ?_;refine cfo 3 ?_;refine Lo 1 sg46 rfl hc4 ?_;refine cto 9 ?_;refine Sr 5 co4 .here .h2 ?_;refine Ps 0 ?_;refine Ps 1 ?_;refine Lo 0 sg9 rfl hc2 ?_;refine Ps 0 ?_;refine Ps 6 ?_;exact zB hl2 [_] ⟨rfl, trivial⟩ [_] .p0 ⟨_, p + 1, true, rfl, rfl, yQ (zc (fun h => by unfold shapeC at h; omega)) (by simp; omega)⟩
   refine vr 14 ?_;refine Lo 1 sg43 rfl hc3 ?_;refine cfo 3 ?_;refine Lo 1 sg46 rfl hc4 ?_;refine cfo 3 ?_;refine Lo 0 sg9 rfl hc2 ?_;refine Cr cl45 rfl (fun m' hm he => (vi hnm)) ?_;rintro _ rfl;have hn0 := List.eq_nil_of_length_eq_zero hna;have hk0 := List.eq_nil_of_length_eq_zero hnk;subst hn0 hk0;cases hnp : nameP name with
   | false =>
     refine vr 4 ?_;refine Sr 5 co4 .here .h2 ?_;refine Ps 0 ?_;refine Ps 1 ?_;refine Lo 0 sg9 rfl hc2 ?_;refine Ps 0 ?_;refine Ps 6 ?_;exact zB hl2 [_] ⟨rfl, trivial⟩ [_] .p0 ⟨_, p + 1, true, rfl, rfl, yQ (by rw [xw, hnp]; rfl) (by simp; omega)⟩
   | true =>
     have hn40 := yF hnp;refine vr 4 ?_;refine Sr 5 co4 .here .h2 ?_;refine Ps 0 ?_;refine Ps 1 ?_;refine Lo 0 sg9 rfl hc2 ?_;refine Ps 0 ?_;refine Ps 6 ?_;have e1 : [104, 111, 108, 100, 115, 40] ++ s ++ [44, 32] ++ name ++ [41] = sHolds ++ sOpen ++ s ++ sComma ++ sSp ++ name ++ sClose := by simp
     rw [e1, xw, qC, hnp, if_pos rfl, hs];exact zB hl2 [_] ⟨rfl, trivial⟩ [_] .p0 ⟨_, p + 1, false, rfl, rfl, (Out.some rfl hp1 (by simp; omega)).one rfl⟩
theorem Xb {op who : Int} {name : List UInt8} {nums : List NumT} {kids : List CondT} {A B : Option Addr} {ca cb : Nat} {vs us : List Value} (hma : nums.length ≤ 9223372036854775807) (hmb : kids.length ≤ 9223372036854775807) (hnm : name.length ≤ 140737488355328)
  (hra : Rd m A vs) (hva : vs.length = nums.length * 4) (hka : ∀ (i : Nat) (hi : i < nums.length), NumR m ((vs.drop (i * 4)).take 4) nums[i])
  (hrb : Rd m B us) (hvb : us.length = kids.length * 5) (hkb : ∀ (i : Nat) (hi : i < kids.length), CondR m ((us.drop (i * 5)).take 5) kids[i])
  (ih : ∀ (i : Nat) (hi : i < kids.length), CondD m b ((us.drop (i * 5)).take 5) kids[i]) (h6 : op ≠ 6) (hwn : ¬ (who = 0 ∧ name = [])) : CondD m b (c5 op who name A nums.length ca B kids.length cb) (.mk op who name nums kids) := by
 intro m0 hm0 p d q hp hd hq;skip;refine zn [.tmp 4] Tryz.func123 rfl rfl rfl ?_;refine tr 2 ?_;refine Bx 4 rfl fun b1 => ?_;refine zI .here (fun ns hi _ hd1 => ?_);have hR : Rd (uni m0 ns) (some ⟨b1, 0, none⟩) (c5 op who name A nums.length ca B kids.length cb) := (Rd.blk hi).mono (zP hd1);have hl2 : Le m0 (uni m0 ns) := zN _ _;clear hi hd1;generalize uni m0 ns = m9 at hR hl2
 have hl9 := hm0.trans hl2;have hat : At m9 ⟨b1, 0, none⟩ (c5 op who name A nums.length ca B kids.length cb) := fun i u hi => hR.at_ hi;have hc0 : mc m9 ⟨b1, 0, none⟩ = some (.int .i8 op) := hR.at_ (i := 0) rfl;have hc1 : mc m9 ⟨b1, 1, none⟩ = some (.int .i8 who) := hR.at_ (i := 1) rfl;have hc2 : mc m9 ⟨b1, 2, none⟩ = some (.string (bs name)) := hR.at_ (i := 2) rfl
 have hc3 : mc m9 ⟨b1, 3, none⟩ = some (.slice A nums.length ca) := hR.at_ (i := 3) rfl;have hc4 : mc m9 ⟨b1, 4, none⟩ = some (.slice B kids.length cb) := hR.at_ (i := 4) rfl;have hw1 := yB (.mk op who name nums kids);refine tr 2 ?_;refine zC ((zF cl117 rfl .k0 (fun m' hm he => part117 (by omega)) rfl ?_)) rfl;rintro _ _ ⟨rfl, rfl⟩;cases q with
 | true =>
   rw [Bool.true_or];refine vr 8 ?_;refine Lb 10 sg4 .here ?_;exact zB hl2 [_] ⟨rfl, trivial⟩ [_] .p0 ⟨[], p + 1, true, rfl, rfl, Out.stop (by omega)⟩
 | false =>
 have hd := hq rfl;rw [Bool.false_or];by_cases hp2 : 200 < p + 1
 ·rw [decide_eq_true hp2];refine vr 8 ?_;refine Lb 10 sg4 .here ?_;exact zB hl2 [_] ⟨rfl, trivial⟩ [_] .p0 ⟨[], p + 1, true, rfl, rfl, Out.over hp2 (by omega)⟩
 rw [decide_eq_false hp2];have hp1 : p + 1 ≤ 200 := by omega
 clear ih;by_cases hwho : who = 0
 ·have hname : name ≠ [] := fun h => hwn ⟨hwho, h⟩;refine vr 8 ?_;refine Lb 8 sg4 .here ?_;refine Lo 0 sg42 rfl hc0 ?_;refine cfa 10 ?_;refine Lo 0 sg42 rfl hc1 ?_;refine cfo 2 ?_;refine Lo 0 sg9 rfl hc2 ?_;refine cta 10 ?_;refine Sr 9 co4 .here .h2 ?_;exact zB hl2 [_] ⟨rfl, trivial⟩ [_] .p0 ⟨[], p + 1, true, rfl, rfl, yQ (wu h6 hwn) (by decide)⟩
 ·refine vr 8 ?_;refine Lb 8 sg4 .here ?_;refine Lo 0 sg42 rfl hc0 ?_;refine cfa 10 ?_;refine Lo 0 sg42 rfl hc1 ?_;refine cta 14 ?_;refine Sr 9 co4 .here .h2 ?_;exact zB hl2 [_] ⟨rfl, trivial⟩ [_] .p0 ⟨[], p + 1, true, rfl, rfl, yQ (wu h6 hwn) (by decide)⟩
theorem YE {op who : Int} {name : List UInt8} {nums : List NumT} {kids : List CondT} {A B : Option Addr} {ca cb : Nat} {vs us : List Value} (hma : nums.length ≤ 9223372036854775807) (hmb : kids.length ≤ 9223372036854775807) (hnm : name.length ≤ 140737488355328)
  (hra : Rd m A vs) (hva : vs.length = nums.length * 4) (hka : ∀ (i : Nat) (hi : i < nums.length), NumR m ((vs.drop (i * 4)).take 4) nums[i])
  (hrb : Rd m B us) (hvb : us.length = kids.length * 5) (hkb : ∀ (i : Nat) (hi : i < kids.length), CondR m ((us.drop (i * 5)).take 5) kids[i])
  (ih : ∀ (i : Nat) (hi : i < kids.length), CondD m b ((us.drop (i * 5)).take 5) kids[i]) (hwho : who = 0) (hname : name = []) (h7 : ¬ (0 ≤ op ∧ op ≤ 6)) : CondD m b (c5 op who name A nums.length ca B kids.length cb) (.mk op who name nums kids) := by
 intro m0 hm0 p d q hp hd hq;skip;refine zn [.tmp 4] Tryz.func123 rfl rfl rfl ?_;refine tr 2 ?_;refine Bx 4 rfl fun b1 => ?_;refine zI .here (fun ns hi _ hd1 => ?_);have hR : Rd (uni m0 ns) (some ⟨b1, 0, none⟩) (c5 op who name A nums.length ca B kids.length cb) := (Rd.blk hi).mono (zP hd1);have hl2 : Le m0 (uni m0 ns) := zN _ _;clear hi hd1;generalize uni m0 ns = m9 at hR hl2
 have hl9 := hm0.trans hl2;have hat : At m9 ⟨b1, 0, none⟩ (c5 op who name A nums.length ca B kids.length cb) := fun i u hi => hR.at_ hi;have hc0 : mc m9 ⟨b1, 0, none⟩ = some (.int .i8 op) := hR.at_ (i := 0) rfl;have hc1 : mc m9 ⟨b1, 1, none⟩ = some (.int .i8 who) := hR.at_ (i := 1) rfl;have hc2 : mc m9 ⟨b1, 2, none⟩ = some (.string (bs name)) := hR.at_ (i := 2) rfl
 have hc3 : mc m9 ⟨b1, 3, none⟩ = some (.slice A nums.length ca) := hR.at_ (i := 3) rfl;have hc4 : mc m9 ⟨b1, 4, none⟩ = some (.slice B kids.length cb) := hR.at_ (i := 4) rfl;have hw1 := yB (.mk op who name nums kids);refine tr 2 ?_;refine zC ((zF cl117 rfl .k0 (fun m' hm he => part117 (by omega)) rfl ?_)) rfl;rintro _ _ ⟨rfl, rfl⟩;cases q with
 | true =>
   rw [Bool.true_or];refine vr 8 ?_;refine Lb 10 sg4 .here ?_;exact zB hl2 [_] ⟨rfl, trivial⟩ [_] .p0 ⟨[], p + 1, true, rfl, rfl, Out.stop (by omega)⟩
 | false =>
 have hd := hq rfl;rw [Bool.false_or];by_cases hp2 : 200 < p + 1
 ·rw [decide_eq_true hp2];refine vr 8 ?_;refine Lb 10 sg4 .here ?_;exact zB hl2 [_] ⟨rfl, trivial⟩ [_] .p0 ⟨[], p + 1, true, rfl, rfl, Out.over hp2 (by omega)⟩
 rw [decide_eq_false hp2];have hp1 : p + 1 ≤ 200 := by omega
 subst hwho hname;clear ih;have h0 : op ≠ 0 := by omega
 have h1 : op ≠ 1 := by omega
 have h2 : op ≠ 2 := by omega
 have h3 : op ≠ 3 := by omega
 have h4 : op ≠ 4 := by omega
 have h5 : op ≠ 5 := by omega
 have h6 : op ≠ 6 := by omega
 refine vr 8 ?_;refine Lb 8 sg4 .here ?_;refine Lo 0 sg42 rfl hc0 ?_;refine cfa 10 ?_;refine Lo 0 sg42 rfl hc1 ?_;refine cfo 2 ?_;refine Lo 0 sg9 rfl hc2 ?_;refine cf 11 rfl (by decide) ?_;refine Lo 6 sg42 rfl hc0 ?_;refine cfa 6 ?_;refine cfa 5 ?_;refine cfa 6 ?_;refine cfa 6 ?_;refine cfa 7 ?_;refine cfa 5 ?_;refine cfa 12 ?_;refine Sr 8 co4 .here .h2 ?_
 exact zB hl2 [_] ⟨rfl, trivial⟩ [_] .p0 ⟨[], p + 1, true, rfl, rfl, yQ (zc (fun h => by unfold shapeC at h; omega)) (by decide)⟩
theorem Xc {op who : Int} {name : List UInt8} {nums : List NumT} {kids : List CondT} {A B : Option Addr} {ca cb : Nat} {vs us : List Value} (hma : nums.length ≤ 9223372036854775807) (hmb : kids.length ≤ 9223372036854775807) (hnm : name.length ≤ 140737488355328)
  (hra : Rd m A vs) (hva : vs.length = nums.length * 4) (hka : ∀ (i : Nat) (hi : i < nums.length), NumR m ((vs.drop (i * 4)).take 4) nums[i])
  (hrb : Rd m B us) (hvb : us.length = kids.length * 5) (hkb : ∀ (i : Nat) (hi : i < kids.length), CondR m ((us.drop (i * 5)).take 5) kids[i])
  (ih : ∀ (i : Nat) (hi : i < kids.length), CondD m b ((us.drop (i * 5)).take 5) kids[i]) (hwho : who = 0) (hname : name = []) (h3 : op = 3) : CondD m b (c5 op who name A nums.length ca B kids.length cb) (.mk op who name nums kids) := by
 intro m0 hm0 p d q hp hd hq;skip;refine zn [.tmp 4] Tryz.func123 rfl rfl rfl ?_;refine tr 2 ?_;refine Bx 4 rfl fun b1 => ?_;refine zI .here (fun ns hi _ hd1 => ?_);have hR : Rd (uni m0 ns) (some ⟨b1, 0, none⟩) (c5 op who name A nums.length ca B kids.length cb) := (Rd.blk hi).mono (zP hd1);have hl2 : Le m0 (uni m0 ns) := zN _ _;clear hi hd1;generalize uni m0 ns = m9 at hR hl2
 have hl9 := hm0.trans hl2;have hat : At m9 ⟨b1, 0, none⟩ (c5 op who name A nums.length ca B kids.length cb) := fun i u hi => hR.at_ hi;have hc0 : mc m9 ⟨b1, 0, none⟩ = some (.int .i8 op) := hR.at_ (i := 0) rfl;have hc1 : mc m9 ⟨b1, 1, none⟩ = some (.int .i8 who) := hR.at_ (i := 1) rfl;have hc2 : mc m9 ⟨b1, 2, none⟩ = some (.string (bs name)) := hR.at_ (i := 2) rfl
 have hc3 : mc m9 ⟨b1, 3, none⟩ = some (.slice A nums.length ca) := hR.at_ (i := 3) rfl;have hc4 : mc m9 ⟨b1, 4, none⟩ = some (.slice B kids.length cb) := hR.at_ (i := 4) rfl;have hw1 := yB (.mk op who name nums kids);refine tr 2 ?_;refine zC ((zF cl117 rfl .k0 (fun m' hm he => part117 (by omega)) rfl ?_)) rfl;rintro _ _ ⟨rfl, rfl⟩;cases q with
 | true =>
   rw [Bool.true_or];refine vr 8 ?_;refine Lb 10 sg4 .here ?_;exact zB hl2 [_] ⟨rfl, trivial⟩ [_] .p0 ⟨[], p + 1, true, rfl, rfl, Out.stop (by omega)⟩
 | false =>
 have hd := hq rfl;rw [Bool.false_or];by_cases hp2 : 200 < p + 1
 ·rw [decide_eq_true hp2];refine vr 8 ?_;refine Lb 10 sg4 .here ?_;exact zB hl2 [_] ⟨rfl, trivial⟩ [_] .p0 ⟨[], p + 1, true, rfl, rfl, Out.over hp2 (by omega)⟩
 rw [decide_eq_false hp2];have hp1 : p + 1 ≤ 200 := by omega
 subst hwho hname h3;by_cases hna : nums.length = 0
 rotate_left
 ·refine vr 8 ?_;refine Lb 8 sg4 .here ?_;refine Lo 0 sg42 rfl hc0 ?_;refine cfo 10 ?_;refine Lo 0 sg42 rfl hc1 ?_;refine cfo 2 ?_;refine Lo 0 sg9 rfl hc2 ?_;refine cf 11 rfl (by decide) ?_;refine Lo 6 sg42 rfl hc0 ?_;refine cfo 6 ?_;refine cfo 5 ?_;refine cfo 6 ?_;refine cfo 6 ?_;refine ctr 8 ?_;refine Lo 1 sg43 rfl hc3 ?_;refine cto 8 ?_;refine Sr 8 co4 .here .h2 ?_;refine Lb 12 sg4 .here ?_
  exact zB hl2 [_] ⟨rfl, trivial⟩ [_] .p0 ⟨[], p + 1, true, rfl, rfl, yQ (zc (fun h => by unfold shapeC at h; omega)) (by decide)⟩
 by_cases hnk : kids.length = 1
 rotate_left
 ·refine vr 8 ?_;refine Lb 8 sg4 .here ?_;refine Lo 0 sg42 rfl hc0 ?_;refine cfo 10 ?_;refine Lo 0 sg42 rfl hc1 ?_;refine cfo 2 ?_;refine Lo 0 sg9 rfl hc2 ?_;refine cf 11 rfl (by decide) ?_;refine Lo 6 sg42 rfl hc0 ?_;refine cfo 6 ?_;refine cfo 5 ?_;refine cfo 6 ?_;refine cfo 6 ?_;refine ctr 8 ?_;refine Lo 1 sg43 rfl hc3 ?_;refine cfo 2 ?_;refine Lo 1 sg46 rfl hc4 ?_;refine cto 3 ?_
  refine Sr 8 co4 .here .h2 ?_;refine Lb 12 sg4 .here ?_;exact zB hl2 [_] ⟨rfl, trivial⟩ [_] .p0 ⟨[], p + 1, true, rfl, rfl, yQ (zc (fun h => by unfold shapeC at h; omega)) (by decide)⟩
 have hn0 := List.eq_nil_of_length_eq_zero hna;obtain ⟨k1, rfl⟩ := List.length_eq_one_iff.1 hnk;subst hn0;have hA : B.isSome = true := hrb.isSome (by rw [hvb]; simp);rw [v7] at hp;rw [qD, ← kA, v7];rw [kA];have f1 : CondR m ((us.drop (0 * 5)).take 5) k1 := hkb 0 (by simp);have i1 : CondD m9 b ((us.drop (0 * 5)).take 5) k1 := (ih 0 (by simp)).mono hl9
 have ha1 := (hrb.elem (0 * 5) 5).mono hl9;obtain ⟨w1, nm1, A1, la1, ca1, B1, lb1, cb1, e1⟩ := CondR.formO f1;rw [e1] at ha1 i1;clear f1 e1;by_cases h14 : opC k1 = 4
 ·refine vr 8 ?_;refine Lb 8 sg4 .here ?_;refine Lo 0 sg42 rfl hc0 ?_;refine cfo 10 ?_;refine Lo 0 sg42 rfl hc1 ?_;refine cfo 2 ?_;refine Lo 0 sg9 rfl hc2 ?_;refine cf 11 rfl (by decide) ?_;refine Lo 6 sg42 rfl hc0 ?_;refine cfo 6 ?_;refine cfo 5 ?_;refine cfo 6 ?_;refine cfo 6 ?_;refine ctr 8 ?_;refine Lo 1 sg43 rfl hc3 ?_;refine cfo 2 ?_;refine Lo 1 sg46 rfl hc4 ?_;refine cfo 3 ?_
  refine Sr 8 co4 .here .h2 ?_;refine Lb 8 sg4 .here ?_;refine Lo 0 sg46 rfl hc4 ?_;refine pe 0 (zL ez46 rfl rfl hA (by omega) (by omega)) ?_;refine La 0 ag48 ha1 ?_;refine Al 0 zl48 fun b2 => ?_;refine Sg 5 ag48 .here ?_;refine zC ((zF cl122 rfl .k1 (fun m' hm he => in122 (by omega)) rfl ?_)) rfl;rintro _ _ ⟨rfl, rfl⟩;refine vr 5 ?_;refine Lc 1 ag48 .h1 ?_
  refine Lb 0 sg42 .h1 ?_;refine cta 5 ?_;refine zC ((zF cl148 rfl .k0 (fun m' hm he => test148 (br := true) (i1.mono hm) (by omega) (by omega) uf) rfl ?_)) rfl;rintro _ _ ⟨s, p1, q1, rfl, rfl, h1⟩
  have h1 : Out (p + 1) (false || decide (8 < d + 1)) (brP (decide (opC k1 = 4) || decide (opC k1 = 5)) (d + 1) (condP k1)) (condW k1) (100 * condW k1 + 2) 140737488355328 s p1 q1 := by rw [decide_eq_true h14, Bool.true_or]; exact h1
  have hsl := h1.len;refine Ps 6 ?_;refine zC ((zF cl124 rfl .k0 (fun m' hm he => out124 (by omega)) rfl ?_)) rfl;rintro _ _ ⟨rfl, rfl⟩;refine vr 11 ?_;have e2 : [110, 111, 116, 32] ++ s = sNot ++ sSp ++ s := by simp
  rw [e2];exact zB hl2 [_] ⟨rfl, trivial⟩ [_] .p0 ⟨_, p1, q1, rfl, rfl, (((Out.inn (f := fun d => brP (decide (opC k1 = 4) || decide (opC k1 = 5)) d (condP k1)) h1).map (g := fun s => sNot ++ sSp ++ s) (k := 4) (by simp)).le (by omega) (Nat.le_refl _)).one (by omega)⟩
 by_cases h15 : opC k1 = 5
 ·refine vr 8 ?_;refine Lb 8 sg4 .here ?_;refine Lo 0 sg42 rfl hc0 ?_;refine cfo 10 ?_;refine Lo 0 sg42 rfl hc1 ?_;refine cfo 2 ?_;refine Lo 0 sg9 rfl hc2 ?_;refine cf 11 rfl (by decide) ?_;refine Lo 6 sg42 rfl hc0 ?_;refine cfo 6 ?_;refine cfo 5 ?_;refine cfo 6 ?_;refine cfo 6 ?_;refine ctr 8 ?_;refine Lo 1 sg43 rfl hc3 ?_;refine cfo 2 ?_;refine Lo 1 sg46 rfl hc4 ?_;refine cfo 3 ?_
  refine Sr 8 co4 .here .h2 ?_;refine Lb 8 sg4 .here ?_;refine Lo 0 sg46 rfl hc4 ?_;refine pe 0 (zL ez46 rfl rfl hA (by omega) (by omega)) ?_;refine La 0 ag48 ha1 ?_;refine Al 0 zl48 fun b2 => ?_;refine Sg 5 ag48 .here ?_;refine zC ((zF cl122 rfl .k1 (fun m' hm he => in122 (by omega)) rfl ?_)) rfl;rintro _ _ ⟨rfl, rfl⟩;refine vr 5 ?_;refine Lc 1 ag48 .h1 ?_
  refine Lb 0 sg42 .h1 ?_;refine cfa 2 ?_;refine Lb 0 sg42 .h1 ?_;refine cta 1 ?_;refine zC ((zF cl148 rfl .k0 (fun m' hm he => test148 (br := true) (i1.mono hm) (by omega) (by omega) uf) rfl ?_)) rfl;rintro _ _ ⟨s, p1, q1, rfl, rfl, h1⟩
  have h1 : Out (p + 1) (false || decide (8 < d + 1)) (brP (decide (opC k1 = 4) || decide (opC k1 = 5)) (d + 1) (condP k1)) (condW k1) (100 * condW k1 + 2) 140737488355328 s p1 q1 := by rw [decide_eq_false h14, decide_eq_true h15, Bool.or_true]; exact h1
  have hsl := h1.len;refine Ps 6 ?_;refine zC ((zF cl124 rfl .k0 (fun m' hm he => out124 (by omega)) rfl ?_)) rfl;rintro _ _ ⟨rfl, rfl⟩;refine vr 11 ?_;have e2 : [110, 111, 116, 32] ++ s = sNot ++ sSp ++ s := by simp
  rw [e2];exact zB hl2 [_] ⟨rfl, trivial⟩ [_] .p0 ⟨_, p1, q1, rfl, rfl, (((Out.inn (f := fun d => brP (decide (opC k1 = 4) || decide (opC k1 = 5)) d (condP k1)) h1).map (g := fun s => sNot ++ sSp ++ s) (k := 4) (by simp)).le (by omega) (Nat.le_refl _)).one (by omega)⟩
 ·refine vr 8 ?_;refine Lb 8 sg4 .here ?_;refine Lo 0 sg42 rfl hc0 ?_;refine cfo 10 ?_;refine Lo 0 sg42 rfl hc1 ?_;refine cfo 2 ?_;refine Lo 0 sg9 rfl hc2 ?_;refine cf 11 rfl (by decide) ?_;refine Lo 6 sg42 rfl hc0 ?_;refine cfo 6 ?_;refine cfo 5 ?_;refine cfo 6 ?_;refine cfo 6 ?_;refine ctr 8 ?_;refine Lo 1 sg43 rfl hc3 ?_;refine cfo 2 ?_;refine Lo 1 sg46 rfl hc4 ?_;refine cfo 3 ?_
  refine Sr 8 co4 .here .h2 ?_;refine Lb 8 sg4 .here ?_;refine Lo 0 sg46 rfl hc4 ?_;refine pe 0 (zL ez46 rfl rfl hA (by omega) (by omega)) ?_;refine La 0 ag48 ha1 ?_;refine Al 0 zl48 fun b2 => ?_;refine Sg 5 ag48 .here ?_;refine zC ((zF cl122 rfl .k1 (fun m' hm he => in122 (by omega)) rfl ?_)) rfl;rintro _ _ ⟨rfl, rfl⟩;refine vr 5 ?_;refine Lc 1 ag48 .h1 ?_
  refine Lb 0 sg42 .h1 ?_;refine cfa 2 ?_;refine Lb 0 sg42 .h1 ?_;refine cfa 1 ?_;refine zC ((zF cl148 rfl .k0 (fun m' hm he => test148 (br := false) (i1.mono hm) (by omega) (by omega) uf) rfl ?_)) rfl;rintro _ _ ⟨s, p1, q1, rfl, rfl, h1⟩
  have h1 : Out (p + 1) (false || decide (8 < d + 1)) (brP (decide (opC k1 = 4) || decide (opC k1 = 5)) (d + 1) (condP k1)) (condW k1) (100 * condW k1 + 2) 140737488355328 s p1 q1 := by rw [decide_eq_false h14, decide_eq_false h15, Bool.or_false]; exact h1
  have hsl := h1.len;refine Ps 6 ?_;refine zC ((zF cl124 rfl .k0 (fun m' hm he => out124 (by omega)) rfl ?_)) rfl;rintro _ _ ⟨rfl, rfl⟩;refine vr 11 ?_;have e2 : [110, 111, 116, 32] ++ s = sNot ++ sSp ++ s := by simp
  rw [e2];exact zB hl2 [_] ⟨rfl, trivial⟩ [_] .p0 ⟨_, p1, q1, rfl, rfl, (((Out.inn (f := fun d => brP (decide (opC k1 = 4) || decide (opC k1 = 5)) d (condP k1)) h1).map (g := fun s => sNot ++ sSp ++ s) (k := 4) (by simp)).le (by omega) (Nat.le_refl _)).one (by omega)⟩
end
section
open Wd Tp Kd
variable {m : Mp} {b d p : Nat} {q : Bool}
theorem Wf {op who : Int} {name : List UInt8} {nums : List NumT} {kids : List CondT} {A B : Option Addr} {ca cb : Nat} {vs us : List Value} (hma : nums.length ≤ 9223372036854775807) (hmb : kids.length ≤ 9223372036854775807) (hnm : name.length ≤ 140737488355328)
  (hra : Rd m A vs) (hva : vs.length = nums.length * 4) (hka : ∀ (i : Nat) (hi : i < nums.length), NumR m ((vs.drop (i * 4)).take 4) nums[i])
  (hrb : Rd m B us) (hvb : us.length = kids.length * 5) (hkb : ∀ (i : Nat) (hi : i < kids.length), CondR m ((us.drop (i * 5)).take 5) kids[i])
  (ih : ∀ (i : Nat) (hi : i < kids.length), CondD m b ((us.drop (i * 5)).take 5) kids[i]) (hwho : who = 0) (hname : name = []) (h5 : op = 5) : CondD m b (c5 op who name A nums.length ca B kids.length cb) (.mk op who name nums kids) := by
 intro m0 hm0 p d q hp hd hq;skip;refine zn [.tmp 4] Tryz.func123 rfl rfl rfl ?_;refine tr 2 ?_;refine Bx 4 rfl fun b1 => ?_;refine zI .here (fun ns hi _ hd1 => ?_);have hR : Rd (uni m0 ns) (some ⟨b1, 0, none⟩) (c5 op who name A nums.length ca B kids.length cb) := (Rd.blk hi).mono (zP hd1);have hl2 : Le m0 (uni m0 ns) := zN _ _;clear hi hd1;generalize uni m0 ns = m9 at hR hl2
 have hl9 := hm0.trans hl2;have hat : At m9 ⟨b1, 0, none⟩ (c5 op who name A nums.length ca B kids.length cb) := fun i u hi => hR.at_ hi;have hc0 : mc m9 ⟨b1, 0, none⟩ = some (.int .i8 op) := hR.at_ (i := 0) rfl;have hc1 : mc m9 ⟨b1, 1, none⟩ = some (.int .i8 who) := hR.at_ (i := 1) rfl;have hc2 : mc m9 ⟨b1, 2, none⟩ = some (.string (bs name)) := hR.at_ (i := 2) rfl
 have hc3 : mc m9 ⟨b1, 3, none⟩ = some (.slice A nums.length ca) := hR.at_ (i := 3) rfl;have hc4 : mc m9 ⟨b1, 4, none⟩ = some (.slice B kids.length cb) := hR.at_ (i := 4) rfl;have hw1 := yB (.mk op who name nums kids);refine tr 2 ?_;refine zC ((zF cl117 rfl .k0 (fun m' hm he => part117 (by omega)) rfl ?_)) rfl;rintro _ _ ⟨rfl, rfl⟩;cases q with
 | true =>
   rw [Bool.true_or];refine vr 8 ?_;refine Lb 10 sg4 .here ?_;exact zB hl2 [_] ⟨rfl, trivial⟩ [_] .p0 ⟨[], p + 1, true, rfl, rfl, Out.stop (by omega)⟩
 | false =>
 have hd := hq rfl;rw [Bool.false_or];by_cases hp2 : 200 < p + 1
 ·rw [decide_eq_true hp2];refine vr 8 ?_;refine Lb 10 sg4 .here ?_;exact zB hl2 [_] ⟨rfl, trivial⟩ [_] .p0 ⟨[], p + 1, true, rfl, rfl, Out.over hp2 (by omega)⟩
 rw [decide_eq_false hp2];have hp1 : p + 1 ≤ 200 := by omega
 subst hwho hname h5;by_cases hna : nums.length = 0
 rotate_left
 ·refine vr 8 ?_;refine Lb 8 sg4 .here ?_;refine Lo 0 sg42 rfl hc0 ?_;refine cfo 10 ?_;refine Lo 0 sg42 rfl hc1 ?_;refine cfo 2 ?_;refine Lo 0 sg9 rfl hc2 ?_;refine cf 11 rfl (by decide) ?_;refine Lo 6 sg42 rfl hc0 ?_;refine cfo 6 ?_;refine cfo 5 ?_;refine cfo 6 ?_;refine cfo 6 ?_;refine cfo 7 ?_;refine cfo 5 ?_;refine ctr 8 ?_;refine Lo 1 sg43 rfl hc3 ?_;refine cto 8 ?_
  refine Sr 8 co4 .here .h2 ?_;refine Lb 12 sg4 .here ?_;exact zB hl2 [_] ⟨rfl, trivial⟩ [_] .p0 ⟨[], p + 1, true, rfl, rfl, yQ (zc (fun h => by unfold shapeC at h; omega)) (by decide)⟩
 by_cases hnk : kids.length = 2
 rotate_left
 ·refine vr 8 ?_;refine Lb 8 sg4 .here ?_;refine Lo 0 sg42 rfl hc0 ?_;refine cfo 10 ?_;refine Lo 0 sg42 rfl hc1 ?_;refine cfo 2 ?_;refine Lo 0 sg9 rfl hc2 ?_;refine cf 11 rfl (by decide) ?_;refine Lo 6 sg42 rfl hc0 ?_;refine cfo 6 ?_;refine cfo 5 ?_;refine cfo 6 ?_;refine cfo 6 ?_;refine cfo 7 ?_;refine cfo 5 ?_;refine ctr 8 ?_;refine Lo 1 sg43 rfl hc3 ?_;refine cfo 2 ?_;refine Lo 1 sg46 rfl hc4 ?_
  refine cto 3 ?_;refine Sr 8 co4 .here .h2 ?_;refine Lb 12 sg4 .here ?_;exact zB hl2 [_] ⟨rfl, trivial⟩ [_] .p0 ⟨[], p + 1, true, rfl, rfl, yQ (zc (fun h => by unfold shapeC at h; omega)) (by decide)⟩
 have hn0 := List.eq_nil_of_length_eq_zero hna;obtain ⟨k1, k2, rfl⟩ := xF hnk;subst hn0;have hA : B.isSome = true := hrb.isSome (by rw [hvb]; simp);rw [xW] at hp;rw [jH, xW];have f1 : CondR m ((us.drop (0 * 5)).take 5) k1 := hkb 0 (by simp);have i1 : CondD m9 b ((us.drop (0 * 5)).take 5) k1 := (ih 0 (by simp)).mono hl9;have ha1 := (hrb.elem (0 * 5) 5).mono hl9
 obtain ⟨w1, nm1, A1, la1, ca1, B1, lb1, cb1, e1⟩ := CondR.formO f1;rw [e1] at ha1 i1;clear f1 e1;have f2 : CondR m ((us.drop (1 * 5)).take 5) k2 := hkb 1 (by simp);have i2 : CondD m9 b ((us.drop (1 * 5)).take 5) k2 := (ih 1 (by simp)).mono hl9;have ha2 := (hrb.elem (1 * 5) 5).mono hl9;obtain ⟨w2, nm2, A2, la2, ca2, B2, lb2, cb2, e2⟩ := CondR.formO f2;rw [e2] at ha2 i2;clear f2 e2;refine vr 8 ?_
 refine Lb 8 sg4 .here ?_;refine Lo 0 sg42 rfl hc0 ?_;refine cfo 10 ?_;refine Lo 0 sg42 rfl hc1 ?_;refine cfo 2 ?_;refine Lo 0 sg9 rfl hc2 ?_;refine cf 11 rfl (by decide) ?_;refine Lo 6 sg42 rfl hc0 ?_;refine cfo 6 ?_;refine cfo 5 ?_;refine cfo 6 ?_;refine cfo 6 ?_;refine cfo 7 ?_;refine cfo 5 ?_;refine ctr 8 ?_;refine Lo 1 sg43 rfl hc3 ?_;refine cfo 2 ?_;refine Lo 1 sg46 rfl hc4 ?_;refine cfo 3 ?_
 refine Sr 8 co4 .here .h2 ?_;refine Lb 6 sg4 .here ?_;refine YP (α := Nat × Nat) (fun y => [(0, ptr b), (3, .pointer (some ⟨b1, 0, none⟩)), (12, .pointer (some ⟨y.1, 0, none⟩)), (13, .pointer (some ⟨y.2, 0, none⟩))]) (fun y => [cel y.1 (c5 (opC k1) w1 nm1 A1 la1 ca1 B1 lb1 cb1) 48, cel y.2 (c5 (opC k2) w2 nm2 A2 la2 ca2 B2 lb2 cb2) 48, pd b (p + 1) d false]) (fun _ => True) ?_ ?_
 ·refine Db (sq [0, 1, 2, 3, 4, 5, 6, 7] (.fork (sq [108, 109, 110, 111] .done) (sq [109, 108, 110, 111] .done))) ?_;refine vB 1 ?_;refine Vr 0 rfl (zG sg46 rfl hc4) ?_;refine Vb 0 rfl (zL ez46 rfl rfl hA (by omega) (by omega)) ?_;refine Vr 1 rfl (zJ ag48 rfl rfl ha1) ?_;refine Vr 0 rfl (zG sg46 rfl hc4) ?_
  refine Vb 0 rfl (zL ez46 rfl rfl hA (by omega) (by omega)) ?_;refine Vr 0 rfl (zJ ag48 rfl rfl ha2) ?_;refine zt ?_ ?_;refine zA rfl (yE zl48 rfl (fun b2 => ?_)) rfl;refine zA rfl (yE zl48 rfl (fun b3 => ?_)) rfl;refine zA rfl (zQ ag48 rfl rfl rfl .h1 rfl rfl ?_) rfl;refine zA rfl (zQ ag48 rfl rfl rfl .here rfl rfl ?_) rfl
  refine Vn 0 ?_
  ·exact QR (b2, b3) (.cons .h1 .pp) trivial (by decide)
  ·refine zA rfl (yE zl48 rfl (fun b2 => ?_)) rfl;refine zA rfl (yE zl48 rfl (fun b3 => ?_)) rfl;refine zA rfl (zQ ag48 rfl rfl rfl .here rfl rfl ?_) rfl;refine zA rfl (zQ ag48 rfl rfl rfl .h1 rfl rfl ?_) rfl;refine Vn 0 ?_;exact QR (b3, b2) (.cons .here .pp) trivial (by decide)
 rintro ⟨b2, b3⟩ -;refine zI .here (fun ns hi _ hd1 => ?_);refine zI .here (fun ns2 hi2 _ hd2 => ?_);have hR2 : Rd (uni (uni m9 ns) ns2) (some ⟨b2, 0, none⟩) (c5 (opC k1) w1 nm1 A1 la1 ca1 B1 lb1 cb1) := ((Rd.blk hi).mono (zP hd1)).mono (zN _ _);have hR3 : Rd (uni (uni m9 ns) ns2) (some ⟨b3, 0, none⟩) (c5 (opC k2) w2 nm2 A2 la2 ca2 B2 lb2 cb2) := (Rd.blk hi2).mono (zP hd2)
 have hl3 : Le m9 (uni (uni m9 ns) ns2) := (zN _ _).trans (zN _ _);clear hi hd1 hi2 hd2;generalize uni (uni m9 ns) ns2 = m8 at hR2 hR3 hl3;have hl2 := hl2.trans hl3;have hc0 := zq hl3 hc0;have i1 := i1.mono hl3;have i2 := i2.mono hl3;have hat2 : At m8 ⟨b2, 0, none⟩ (c5 (opC k1) w1 nm1 A1 la1 ca1 B1 lb1 cb1) := fun i u hi => hR2.at_ hi
 have hat3 : At m8 ⟨b3, 0, none⟩ (c5 (opC k2) w2 nm2 A2 la2 ca2 B2 lb2 cb2) := fun i u hi => hR3.at_ hi;have ho1 : mc m8 ⟨b2, 0, none⟩ = some (.int .i8 (opC k1)) := hR2.at_ (i := 0) rfl;have ho2 : mc m8 ⟨b3, 0, none⟩ = some (.int .i8 (opC k2)) := hR3.at_ (i := 0) rfl;refine tr 4 ?_;refine Lo 0 sg42 rfl hc0 ?_;refine ctr 6 ?_;refine La 0 ag48 hat2 ?_
 refine zC ((zF cl148 rfl .k0 (fun m' hm he => test148 (br := false) (i1.mono hm) (by omega) (by omega) (fun _ => hd)) rfl ?_)) rfl;rintro _ _ ⟨s, p1, q1, rfl, rfl, h1⟩;have h1 : Out (p + 1) false (condP k1 d) (condW k1) (100 * condW k1 + 2) 140737488355328 s p1 q1 := h1;have hsl := h1.len;have hph := h1.hi;by_cases h25 : opC k2 = 5
 ·refine vr 6 ?_;refine Ps 1 ?_;refine La 1 ag48 hat3 ?_;refine Lo 0 sg42 rfl ho2 ?_;refine cta 0 ?_;refine zC ((zF cl148 rfl .k0 (fun m' hm he => test148 (br := true) (i2.mono hm) (by omega) (by omega) (fun _ => hd)) rfl ?_)) rfl;rintro _ _ ⟨t, p2, q2, rfl, rfl, h2⟩
  have h2 : Out p1 q1 (brP (decide (opC k2 = 5)) d (condP k2)) (condW k2) (100 * condW k2 + 2) 140737488355328 t p2 q2 := by rw [decide_eq_true h25]; exact h2
  have htl := h2.len;refine Ps 7 ?_;have e2 : s ++ [32, 111, 114, 32] ++ t = sgnT sOr s t := by simp [sgnT]
  rw [e2];exact zB hl2 [_] ⟨rfl, trivial⟩ [_] .p0 ⟨_, p2, q2, rfl, rfl, ((h1.put (f := sgnT sOr) h2 (K := 5) (by rw [yY]; exact Nat.add_le_add_left (by decide) _)).le (by omega) (Nat.le_refl _)).one (by omega)⟩
 ·refine vr 6 ?_;refine Ps 1 ?_;refine La 1 ag48 hat3 ?_;refine Lo 0 sg42 rfl ho2 ?_;refine cfa 0 ?_;refine zC ((zF cl148 rfl .k0 (fun m' hm he => test148 (br := false) (i2.mono hm) (by omega) (by omega) (fun _ => hd)) rfl ?_)) rfl;rintro _ _ ⟨t, p2, q2, rfl, rfl, h2⟩
  have h2 : Out p1 q1 (brP (decide (opC k2 = 5)) d (condP k2)) (condW k2) (100 * condW k2 + 2) 140737488355328 t p2 q2 := by rw [decide_eq_false h25]; exact h2
  have htl := h2.len;refine Ps 7 ?_;have e2 : s ++ [32, 111, 114, 32] ++ t = sgnT sOr s t := by simp [sgnT]
  rw [e2];exact zB hl2 [_] ⟨rfl, trivial⟩ [_] .p0 ⟨_, p2, q2, rfl, rfl, ((h1.put (f := sgnT sOr) h2 (K := 5) (by rw [yY]; exact Nat.add_le_add_left (by decide) _)).le (by omega) (Nat.le_refl _)).one (by omega)⟩
theorem Xe {op who : Int} {name : List UInt8} {nums : List NumT} {kids : List CondT} {A B : Option Addr} {ca cb : Nat} {vs us : List Value} (hma : nums.length ≤ 9223372036854775807) (hmb : kids.length ≤ 9223372036854775807) (hnm : name.length ≤ 140737488355328)
  (hra : Rd m A vs) (hva : vs.length = nums.length * 4) (hka : ∀ (i : Nat) (hi : i < nums.length), NumR m ((vs.drop (i * 4)).take 4) nums[i])
  (hrb : Rd m B us) (hvb : us.length = kids.length * 5) (hkb : ∀ (i : Nat) (hi : i < kids.length), CondR m ((us.drop (i * 5)).take 5) kids[i])
  (ih : ∀ (i : Nat) (hi : i < kids.length), CondD m b ((us.drop (i * 5)).take 5) kids[i]) (hwho : who = 0) (hname : name = []) (h4 : op = 4) : CondD m b (c5 op who name A nums.length ca B kids.length cb) (.mk op who name nums kids) := by
 intro m0 hm0 p d q hp hd hq;skip;refine zn [.tmp 4] Tryz.func123 rfl rfl rfl ?_;refine tr 2 ?_;refine Bx 4 rfl fun b1 => ?_;refine zI .here (fun ns hi _ hd1 => ?_);have hR : Rd (uni m0 ns) (some ⟨b1, 0, none⟩) (c5 op who name A nums.length ca B kids.length cb) := (Rd.blk hi).mono (zP hd1);have hl2 : Le m0 (uni m0 ns) := zN _ _;clear hi hd1;generalize uni m0 ns = m9 at hR hl2
 have hl9 := hm0.trans hl2;have hat : At m9 ⟨b1, 0, none⟩ (c5 op who name A nums.length ca B kids.length cb) := fun i u hi => hR.at_ hi;have hc0 : mc m9 ⟨b1, 0, none⟩ = some (.int .i8 op) := hR.at_ (i := 0) rfl;have hc1 : mc m9 ⟨b1, 1, none⟩ = some (.int .i8 who) := hR.at_ (i := 1) rfl;have hc2 : mc m9 ⟨b1, 2, none⟩ = some (.string (bs name)) := hR.at_ (i := 2) rfl
 have hc3 : mc m9 ⟨b1, 3, none⟩ = some (.slice A nums.length ca) := hR.at_ (i := 3) rfl;have hc4 : mc m9 ⟨b1, 4, none⟩ = some (.slice B kids.length cb) := hR.at_ (i := 4) rfl;have hw1 := yB (.mk op who name nums kids);refine tr 2 ?_;refine zC ((zF cl117 rfl .k0 (fun m' hm he => part117 (by omega)) rfl ?_)) rfl;rintro _ _ ⟨rfl, rfl⟩;cases q with
 | true =>
   rw [Bool.true_or];refine vr 8 ?_;refine Lb 10 sg4 .here ?_;exact zB hl2 [_] ⟨rfl, trivial⟩ [_] .p0 ⟨[], p + 1, true, rfl, rfl, Out.stop (by omega)⟩
 | false =>
 have hd := hq rfl;rw [Bool.false_or];by_cases hp2 : 200 < p + 1
 ·rw [decide_eq_true hp2];refine vr 8 ?_;refine Lb 10 sg4 .here ?_;exact zB hl2 [_] ⟨rfl, trivial⟩ [_] .p0 ⟨[], p + 1, true, rfl, rfl, Out.over hp2 (by omega)⟩
 rw [decide_eq_false hp2];have hp1 : p + 1 ≤ 200 := by omega
 subst hwho hname h4;by_cases hna : nums.length = 0
 rotate_left
 ·refine vr 8 ?_;refine Lb 8 sg4 .here ?_;refine Lo 0 sg42 rfl hc0 ?_;refine cfo 10 ?_;refine Lo 0 sg42 rfl hc1 ?_;refine cfo 2 ?_;refine Lo 0 sg9 rfl hc2 ?_;refine cf 11 rfl (by decide) ?_;refine Lo 6 sg42 rfl hc0 ?_;refine cfo 6 ?_;refine cfo 5 ?_;refine cfo 6 ?_;refine cfo 6 ?_;refine cfo 7 ?_;refine ctr 11 ?_;refine Lo 1 sg43 rfl hc3 ?_;refine cto 8 ?_;refine Sr 8 co4 .here .h2 ?_
  refine Lb 12 sg4 .here ?_;exact zB hl2 [_] ⟨rfl, trivial⟩ [_] .p0 ⟨[], p + 1, true, rfl, rfl, yQ (zc (fun h => by unfold shapeC at h; omega)) (by decide)⟩
 by_cases hnk : kids.length = 2
 rotate_left
 ·refine vr 8 ?_;refine Lb 8 sg4 .here ?_;refine Lo 0 sg42 rfl hc0 ?_;refine cfo 10 ?_;refine Lo 0 sg42 rfl hc1 ?_;refine cfo 2 ?_;refine Lo 0 sg9 rfl hc2 ?_;refine cf 11 rfl (by decide) ?_;refine Lo 6 sg42 rfl hc0 ?_;refine cfo 6 ?_;refine cfo 5 ?_;refine cfo 6 ?_;refine cfo 6 ?_;refine cfo 7 ?_;refine ctr 11 ?_;refine Lo 1 sg43 rfl hc3 ?_;refine cfo 2 ?_;refine Lo 1 sg46 rfl hc4 ?_
  refine cto 3 ?_;refine Sr 8 co4 .here .h2 ?_;refine Lb 12 sg4 .here ?_;exact zB hl2 [_] ⟨rfl, trivial⟩ [_] .p0 ⟨[], p + 1, true, rfl, rfl, yQ (zc (fun h => by unfold shapeC at h; omega)) (by decide)⟩
 have hn0 := List.eq_nil_of_length_eq_zero hna;obtain ⟨k1, k2, rfl⟩ := xF hnk;subst hn0;have hA : B.isSome = true := hrb.isSome (by rw [hvb]; simp);rw [xW] at hp;rw [qE, xW];have f1 : CondR m ((us.drop (0 * 5)).take 5) k1 := hkb 0 (by simp);have i1 : CondD m9 b ((us.drop (0 * 5)).take 5) k1 := (ih 0 (by simp)).mono hl9;have ha1 := (hrb.elem (0 * 5) 5).mono hl9
 obtain ⟨w1, nm1, A1, la1, ca1, B1, lb1, cb1, e1⟩ := CondR.formO f1;rw [e1] at ha1 i1;clear f1 e1;have f2 : CondR m ((us.drop (1 * 5)).take 5) k2 := hkb 1 (by simp);have i2 : CondD m9 b ((us.drop (1 * 5)).take 5) k2 := (ih 1 (by simp)).mono hl9;have ha2 := (hrb.elem (1 * 5) 5).mono hl9;obtain ⟨w2, nm2, A2, la2, ca2, B2, lb2, cb2, e2⟩ := CondR.formO f2;rw [e2] at ha2 i2;clear f2 e2;refine vr 8 ?_
 refine Lb 8 sg4 .here ?_;refine Lo 0 sg42 rfl hc0 ?_;refine cfo 10 ?_;refine Lo 0 sg42 rfl hc1 ?_;refine cfo 2 ?_;refine Lo 0 sg9 rfl hc2 ?_;refine cf 11 rfl (by decide) ?_;refine Lo 6 sg42 rfl hc0 ?_;refine cfo 6 ?_;refine cfo 5 ?_;refine cfo 6 ?_;refine cfo 6 ?_;refine cfo 7 ?_;refine ctr 11 ?_;refine Lo 1 sg43 rfl hc3 ?_;refine cfo 2 ?_;refine Lo 1 sg46 rfl hc4 ?_;refine cfo 3 ?_
 refine Sr 8 co4 .here .h2 ?_;refine Lb 6 sg4 .here ?_;refine YP (α := Nat × Nat) (fun y => [(0, ptr b), (3, .pointer (some ⟨b1, 0, none⟩)), (12, .pointer (some ⟨y.1, 0, none⟩)), (13, .pointer (some ⟨y.2, 0, none⟩))]) (fun y => [cel y.1 (c5 (opC k1) w1 nm1 A1 la1 ca1 B1 lb1 cb1) 48, cel y.2 (c5 (opC k2) w2 nm2 A2 la2 ca2 B2 lb2 cb2) 48, pd b (p + 1) d false]) (fun _ => True) ?_ ?_
 ·refine Db (sq [0, 1, 2, 3, 4, 5, 6, 7] (.fork (sq [108, 109, 110, 111] .done) (sq [109, 108, 110, 111] .done))) ?_;refine vB 1 ?_;refine Vr 0 rfl (zG sg46 rfl hc4) ?_;refine Vb 0 rfl (zL ez46 rfl rfl hA (by omega) (by omega)) ?_;refine Vr 1 rfl (zJ ag48 rfl rfl ha1) ?_;refine Vr 0 rfl (zG sg46 rfl hc4) ?_
  refine Vb 0 rfl (zL ez46 rfl rfl hA (by omega) (by omega)) ?_;refine Vr 0 rfl (zJ ag48 rfl rfl ha2) ?_;refine zt ?_ ?_;refine zA rfl (yE zl48 rfl (fun b2 => ?_)) rfl;refine zA rfl (yE zl48 rfl (fun b3 => ?_)) rfl;refine zA rfl (zQ ag48 rfl rfl rfl .h1 rfl rfl ?_) rfl;refine zA rfl (zQ ag48 rfl rfl rfl .here rfl rfl ?_) rfl
  refine Vn 0 ?_
  ·exact QR (b2, b3) (.cons .h1 .pp) trivial (by decide)
  ·refine zA rfl (yE zl48 rfl (fun b2 => ?_)) rfl;refine zA rfl (yE zl48 rfl (fun b3 => ?_)) rfl;refine zA rfl (zQ ag48 rfl rfl rfl .here rfl rfl ?_) rfl;refine zA rfl (zQ ag48 rfl rfl rfl .h1 rfl rfl ?_) rfl;refine Vn 0 ?_;exact QR (b3, b2) (.cons .here .pp) trivial (by decide)
 rintro ⟨b2, b3⟩ -;refine zI .here (fun ns hi _ hd1 => ?_);refine zI .here (fun ns2 hi2 _ hd2 => ?_);have hR2 : Rd (uni (uni m9 ns) ns2) (some ⟨b2, 0, none⟩) (c5 (opC k1) w1 nm1 A1 la1 ca1 B1 lb1 cb1) := ((Rd.blk hi).mono (zP hd1)).mono (zN _ _);have hR3 : Rd (uni (uni m9 ns) ns2) (some ⟨b3, 0, none⟩) (c5 (opC k2) w2 nm2 A2 la2 ca2 B2 lb2 cb2) := (Rd.blk hi2).mono (zP hd2)
 have hl3 : Le m9 (uni (uni m9 ns) ns2) := (zN _ _).trans (zN _ _);clear hi hd1 hi2 hd2;generalize uni (uni m9 ns) ns2 = m8 at hR2 hR3 hl3;have hl2 := hl2.trans hl3;have hc0 := zq hl3 hc0;have i1 := i1.mono hl3;have i2 := i2.mono hl3;have hat2 : At m8 ⟨b2, 0, none⟩ (c5 (opC k1) w1 nm1 A1 la1 ca1 B1 lb1 cb1) := fun i u hi => hR2.at_ hi
 have hat3 : At m8 ⟨b3, 0, none⟩ (c5 (opC k2) w2 nm2 A2 la2 ca2 B2 lb2 cb2) := fun i u hi => hR3.at_ hi;have ho1 : mc m8 ⟨b2, 0, none⟩ = some (.int .i8 (opC k1)) := hR2.at_ (i := 0) rfl;have ho2 : mc m8 ⟨b3, 0, none⟩ = some (.int .i8 (opC k2)) := hR3.at_ (i := 0) rfl;by_cases h15 : opC k1 = 5
 ·refine tr 4 ?_;refine Lo 0 sg42 rfl hc0 ?_;refine cfo 8 ?_;refine La 1 ag48 hat2 ?_;refine Lo 0 sg42 rfl ho1 ?_;refine cta 0 ?_;refine zC ((zF cl148 rfl .k0 (fun m' hm he => test148 (br := true) (i1.mono hm) (by omega) (by omega) (fun _ => hd)) rfl ?_)) rfl;rintro _ _ ⟨s, p1, q1, rfl, rfl, h1⟩
  have h1 : Out (p + 1) false (brP (decide (opC k1 = 5)) d (condP k1)) (condW k1) (100 * condW k1 + 2) 140737488355328 s p1 q1 := by rw [decide_eq_true h15]; exact h1
  have hsl := h1.len;have hph := h1.hi;by_cases h25 : opC k2 = 5
  ·refine vr 6 ?_;refine Ps 1 ?_;refine La 1 ag48 hat3 ?_;refine Lo 0 sg42 rfl ho2 ?_;refine cta 5 ?_;refine zC ((zF cl148 rfl .k0 (fun m' hm he => test148 (br := true) (i2.mono hm) (by omega) (by omega) (fun _ => hd)) rfl ?_)) rfl;rintro _ _ ⟨t, p2, q2, rfl, rfl, h2⟩
   have h2 : Out p1 q1 (brP (decide (opC k2 = 5) || decide (opC k2 = 4)) d (condP k2)) (condW k2) (100 * condW k2 + 2) 140737488355328 t p2 q2 := by rw [decide_eq_true h25, Bool.true_or]; exact h2
   have htl := h2.len;refine Ps 6 ?_;have e2 : s ++ [32, 97, 110, 100, 32] ++ t = sgnT sAnd s t := by simp [sgnT]
   rw [e2];exact zB hl2 [_] ⟨rfl, trivial⟩ [_] .p0 ⟨_, p2, q2, rfl, rfl, ((h1.put (f := sgnT sAnd) h2 (K := 5) (by rw [yY]; exact Nat.add_le_add_left (by decide) _)).le (by omega) (Nat.le_refl _)).one (by omega)⟩
  by_cases h24 : opC k2 = 4
  ·refine vr 6 ?_;refine Ps 1 ?_;refine La 1 ag48 hat3 ?_;refine Lo 0 sg42 rfl ho2 ?_;refine cfa 2 ?_;refine Lo 0 sg42 rfl ho2 ?_;refine cta 1 ?_;refine zC ((zF cl148 rfl .k0 (fun m' hm he => test148 (br := true) (i2.mono hm) (by omega) (by omega) (fun _ => hd)) rfl ?_)) rfl;rintro _ _ ⟨t, p2, q2, rfl, rfl, h2⟩
   have h2 : Out p1 q1 (brP (decide (opC k2 = 5) || decide (opC k2 = 4)) d (condP k2)) (condW k2) (100 * condW k2 + 2) 140737488355328 t p2 q2 := by rw [decide_eq_true h24, Bool.or_true]; exact h2
   have htl := h2.len;refine Ps 6 ?_;have e2 : s ++ [32, 97, 110, 100, 32] ++ t = sgnT sAnd s t := by simp [sgnT]
   rw [e2];exact zB hl2 [_] ⟨rfl, trivial⟩ [_] .p0 ⟨_, p2, q2, rfl, rfl, ((h1.put (f := sgnT sAnd) h2 (K := 5) (by rw [yY]; exact Nat.add_le_add_left (by decide) _)).le (by omega) (Nat.le_refl _)).one (by omega)⟩
  ·refine vr 6 ?_;refine Ps 1 ?_;refine La 1 ag48 hat3 ?_;refine Lo 0 sg42 rfl ho2 ?_;refine cfa 2 ?_;refine Lo 0 sg42 rfl ho2 ?_;refine cfa 1 ?_;refine zC ((zF cl148 rfl .k0 (fun m' hm he => test148 (br := false) (i2.mono hm) (by omega) (by omega) (fun _ => hd)) rfl ?_)) rfl;rintro _ _ ⟨t, p2, q2, rfl, rfl, h2⟩
   have h2 : Out p1 q1 (brP (decide (opC k2 = 5) || decide (opC k2 = 4)) d (condP k2)) (condW k2) (100 * condW k2 + 2) 140737488355328 t p2 q2 := by rw [decide_eq_false h24, decide_eq_false h25]; exact h2
   have htl := h2.len;refine Ps 6 ?_;have e2 : s ++ [32, 97, 110, 100, 32] ++ t = sgnT sAnd s t := by simp [sgnT]
   rw [e2];exact zB hl2 [_] ⟨rfl, trivial⟩ [_] .p0 ⟨_, p2, q2, rfl, rfl, ((h1.put (f := sgnT sAnd) h2 (K := 5) (by rw [yY]; exact Nat.add_le_add_left (by decide) _)).le (by omega) (Nat.le_refl _)).one (by omega)⟩
 ·refine tr 4 ?_;refine Lo 0 sg42 rfl hc0 ?_;refine cfo 8 ?_;refine La 1 ag48 hat2 ?_;refine Lo 0 sg42 rfl ho1 ?_;refine cfa 0 ?_;refine zC ((zF cl148 rfl .k0 (fun m' hm he => test148 (br := false) (i1.mono hm) (by omega) (by omega) (fun _ => hd)) rfl ?_)) rfl;rintro _ _ ⟨s, p1, q1, rfl, rfl, h1⟩
  have h1 : Out (p + 1) false (brP (decide (opC k1 = 5)) d (condP k1)) (condW k1) (100 * condW k1 + 2) 140737488355328 s p1 q1 := by rw [decide_eq_false h15]; exact h1
  have hsl := h1.len;have hph := h1.hi;by_cases h25 : opC k2 = 5
  ·refine vr 6 ?_;refine Ps 1 ?_;refine La 1 ag48 hat3 ?_;refine Lo 0 sg42 rfl ho2 ?_;refine cta 5 ?_;refine zC ((zF cl148 rfl .k0 (fun m' hm he => test148 (br := true) (i2.mono hm) (by omega) (by omega) (fun _ => hd)) rfl ?_)) rfl;rintro _ _ ⟨t, p2, q2, rfl, rfl, h2⟩
   have h2 : Out p1 q1 (brP (decide (opC k2 = 5) || decide (opC k2 = 4)) d (condP k2)) (condW k2) (100 * condW k2 + 2) 140737488355328 t p2 q2 := by rw [decide_eq_true h25, Bool.true_or]; exact h2
   have htl := h2.len;refine Ps 6 ?_;have e2 : s ++ [32, 97, 110, 100, 32] ++ t = sgnT sAnd s t := by simp [sgnT]
   rw [e2];exact zB hl2 [_] ⟨rfl, trivial⟩ [_] .p0 ⟨_, p2, q2, rfl, rfl, ((h1.put (f := sgnT sAnd) h2 (K := 5) (by rw [yY]; exact Nat.add_le_add_left (by decide) _)).le (by omega) (Nat.le_refl _)).one (by omega)⟩
  by_cases h24 : opC k2 = 4
  ·refine vr 6 ?_;refine Ps 1 ?_;refine La 1 ag48 hat3 ?_;refine Lo 0 sg42 rfl ho2 ?_;refine cfa 2 ?_;refine Lo 0 sg42 rfl ho2 ?_;refine cta 1 ?_;refine zC ((zF cl148 rfl .k0 (fun m' hm he => test148 (br := true) (i2.mono hm) (by omega) (by omega) (fun _ => hd)) rfl ?_)) rfl;rintro _ _ ⟨t, p2, q2, rfl, rfl, h2⟩
   have h2 : Out p1 q1 (brP (decide (opC k2 = 5) || decide (opC k2 = 4)) d (condP k2)) (condW k2) (100 * condW k2 + 2) 140737488355328 t p2 q2 := by rw [decide_eq_true h24, Bool.or_true]; exact h2
   have htl := h2.len;refine Ps 6 ?_;have e2 : s ++ [32, 97, 110, 100, 32] ++ t = sgnT sAnd s t := by simp [sgnT]
   rw [e2];exact zB hl2 [_] ⟨rfl, trivial⟩ [_] .p0 ⟨_, p2, q2, rfl, rfl, ((h1.put (f := sgnT sAnd) h2 (K := 5) (by rw [yY]; exact Nat.add_le_add_left (by decide) _)).le (by omega) (Nat.le_refl _)).one (by omega)⟩
  ·refine vr 6 ?_;refine Ps 1 ?_;refine La 1 ag48 hat3 ?_;refine Lo 0 sg42 rfl ho2 ?_;refine cfa 2 ?_;refine Lo 0 sg42 rfl ho2 ?_;refine cfa 1 ?_;refine zC ((zF cl148 rfl .k0 (fun m' hm he => test148 (br := false) (i2.mono hm) (by omega) (by omega) (fun _ => hd)) rfl ?_)) rfl;rintro _ _ ⟨t, p2, q2, rfl, rfl, h2⟩
   have h2 : Out p1 q1 (brP (decide (opC k2 = 5) || decide (opC k2 = 4)) d (condP k2)) (condW k2) (100 * condW k2 + 2) 140737488355328 t p2 q2 := by rw [decide_eq_false h24, decide_eq_false h25]; exact h2
   have htl := h2.len;refine Ps 6 ?_;have e2 : s ++ [32, 97, 110, 100, 32] ++ t = sgnT sAnd s t := by simp [sgnT]
   rw [e2];exact zB hl2 [_] ⟨rfl, trivial⟩ [_] .p0 ⟨_, p2, q2, rfl, rfl, ((h1.put (f := sgnT sAnd) h2 (K := 5) (by rw [yY]; exact Nat.add_le_add_left (by decide) _)).le (by omega) (Nat.le_refl _)).one (by omega)⟩
end
section
open Wd Tp Kd
variable {m : Mp} {b d p : Nat} {q : Bool}
theorem cond123 {cs : List Value} {x : CondT} (hx : CondR m cs x) : CondSm x → CondD m b cs x := by
 induction hx with
 | @mk op who name nums kids A B la ca lb cb vs us ho hw hn hla hma hra hva hka hlb hmb hrb hvb hkb ih =>
 subst hla hlb;intro hsm;have hnm : name.length ≤ 140737488355328 := by cases hsm; assumption
 have hsk : ∀ k ∈ kids, CondSm k := by cases hsm; assumption
 have ih := fun (i : Nat) (hi : i < kids.length) => ih i hi (hsk _ (List.getElem_mem hi));by_cases h6 : op = 6
 ·exact ZO hma hmb hnm hra hva hka hrb hvb hkb ih h6
 by_cases hwn : who = 0 ∧ name = []
 rotate_left
 ·exact Xb hma hmb hnm hra hva hka hrb hvb hkb ih h6 hwn
 by_cases h3 : op = 3
 ·exact Xc hma hmb hnm hra hva hka hrb hvb hkb ih hwn.1 hwn.2 h3
 by_cases h4 : op = 4
 ·exact Xe hma hmb hnm hra hva hka hrb hvb hkb ih hwn.1 hwn.2 h4
 by_cases h5 : op = 5
 ·exact Wf hma hmb hnm hra hva hka hrb hvb hkb ih hwn.1 hwn.2 h5
 by_cases h0 : op = 0 ∨ op = 1 ∨ op = 2
 ·exact Xd hma hmb hnm hra hva hka hrb hvb hkb ih h0 hwn.1 hwn.2
 ·exact YE hma hmb hnm hra hva hka hrb hvb hkb ih hwn.1 hwn.2 (by omega)
end
section
open Wd Tp Kd
variable {m : Mp} {b d p : Nat}
theorem plain112 {op n who : Int} {K : Option Addr} {k kc : Nat} {cop cwho : Int} {cname : List UInt8} {A : Option Addr} {la ca : Nat} {B : Option Addr} {lb cb : Nat} (hk : k ≤ 9223372036854775807) (hla : la ≤ 9223372036854775807) (hlb : lb ≤ 9223372036854775807) :
  CS Tryz.prog 112 [.agg (n4 op n who K k kc).toArray, .agg (c5 cop cwho cname A la ca B lb cb).toArray] m [] (Gives (.bool (decide (op = 0 ∧ n = 0 ∧ who = 0 ∧ k = 0 ∧ cop = 0 ∧ cwho = 0 ∧ cname = [] ∧ la = 0 ∧ lb = 0)))) := by
 refine zn [.tmp 4] Tryz.func112 rfl rfl rfl ?_;by_cases h0 : op = 0
 rotate_left
 ·rw [decide_eq_false (fun h => h0 h.1)];refine tr 2 ?_;refine Bx 0 rfl fun b1 => ?_;refine Bx 6 rfl fun b2 => ?_;refine Lb 0 sg42 .h1 ?_;refine cfa 47 ?_;exact rt1 ⟨rfl, trivial⟩ ⟨rfl, rfl⟩
 by_cases h1 : n = 0
 rotate_left
 ·rw [decide_eq_false (fun h => h1 h.2.1)];refine tr 2 ?_;refine Bx 0 rfl fun b1 => ?_;refine Bx 6 rfl fun b2 => ?_;refine Lb 0 sg42 .h1 ?_;refine cta 2 ?_;refine Lb 0 sg3 .h1 ?_;refine cfa 43 ?_;exact rt1 ⟨rfl, trivial⟩ ⟨rfl, rfl⟩
 by_cases h2 : who = 0
 rotate_left
 ·rw [decide_eq_false (fun h => h2 h.2.2.1)];refine tr 2 ?_;refine Bx 0 rfl fun b1 => ?_;refine Bx 6 rfl fun b2 => ?_;refine Lb 0 sg42 .h1 ?_;refine cta 2 ?_;refine Lb 0 sg3 .h1 ?_;refine cta 3 ?_;refine Lb 0 sg42 .h1 ?_;refine cfa 38 ?_;exact rt1 ⟨rfl, trivial⟩ ⟨rfl, rfl⟩
 by_cases h3 : k = 0
 rotate_left
 ·rw [decide_eq_false (fun h => h3 h.2.2.2.1)];refine tr 2 ?_;refine Bx 0 rfl fun b1 => ?_;refine Bx 6 rfl fun b2 => ?_;refine Lb 0 sg42 .h1 ?_;refine cta 2 ?_;refine Lb 0 sg3 .h1 ?_;refine cta 3 ?_;refine Lb 0 sg42 .h1 ?_;refine cta 3 ?_;refine Lb 1 sg43 .h1 ?_;refine cfo 32 ?_;exact rt1 ⟨rfl, trivial⟩ ⟨rfl, rfl⟩
 by_cases h4 : cop = 0
 rotate_left
 ·rw [decide_eq_false (fun h => h4 h.2.2.2.2.1)];refine tr 2 ?_;refine Bx 0 rfl fun b1 => ?_;refine Bx 6 rfl fun b2 => ?_;refine Lb 0 sg42 .h1 ?_;refine cta 2 ?_;refine Lb 0 sg3 .h1 ?_;refine cta 3 ?_;refine Lb 0 sg42 .h1 ?_;refine cta 3 ?_;refine Lb 1 sg43 .h1 ?_;refine cto 3 ?_;refine Lb 0 sg42 .here ?_;refine cfa 27 ?_;exact rt1 ⟨rfl, trivial⟩ ⟨rfl, rfl⟩
 by_cases h5 : cwho = 0
 rotate_left
 ·rw [decide_eq_false (fun h => h5 h.2.2.2.2.2.1)];refine tr 2 ?_;refine Bx 0 rfl fun b1 => ?_;refine Bx 6 rfl fun b2 => ?_;refine Lb 0 sg42 .h1 ?_;refine cta 2 ?_;refine Lb 0 sg3 .h1 ?_;refine cta 3 ?_;refine Lb 0 sg42 .h1 ?_;refine cta 3 ?_;refine Lb 1 sg43 .h1 ?_;refine cto 3 ?_;refine Lb 0 sg42 .here ?_;refine cta 3 ?_;refine Lb 0 sg42 .here ?_;refine cfa 22 ?_
  exact rt1 ⟨rfl, trivial⟩ ⟨rfl, rfl⟩
 by_cases h6 : cname = []
 rotate_left
 ·rw [decide_eq_false (fun h => h6 h.2.2.2.2.2.2.1)];refine tr 2 ?_;refine Bx 0 rfl fun b1 => ?_;refine Bx 6 rfl fun b2 => ?_;refine Lb 0 sg42 .h1 ?_;refine cta 2 ?_;refine Lb 0 sg3 .h1 ?_;refine cta 3 ?_;refine Lb 0 sg42 .h1 ?_;refine cta 3 ?_;refine Lb 1 sg43 .h1 ?_;refine cto 3 ?_;refine Lb 0 sg42 .here ?_;refine cta 3 ?_;refine Lb 0 sg42 .here ?_;refine cta 3 ?_;refine Lb 0 sg9 .here ?_
  refine cfa 17 ?_;exact rt1 ⟨rfl, trivial⟩ ⟨rfl, rfl⟩
 by_cases h7 : la = 0
 rotate_left
 ·rw [decide_eq_false (fun h => h7 h.2.2.2.2.2.2.2.1)];refine tr 2 ?_;refine Bx 0 rfl fun b1 => ?_;refine Bx 6 rfl fun b2 => ?_;refine Lb 0 sg42 .h1 ?_;refine cta 2 ?_;refine Lb 0 sg3 .h1 ?_;refine cta 3 ?_;refine Lb 0 sg42 .h1 ?_;refine cta 3 ?_;refine Lb 1 sg43 .h1 ?_;refine cto 3 ?_;refine Lb 0 sg42 .here ?_;refine cta 3 ?_;refine Lb 0 sg42 .here ?_;refine cta 3 ?_;refine Lb 0 sg9 .here ?_
  refine cta 3 ?_;refine Lb 1 sg43 .here ?_;refine cfo 11 ?_;exact rt1 ⟨rfl, trivial⟩ ⟨rfl, rfl⟩
 by_cases h8 : lb = 0
 rotate_left
 ·rw [decide_eq_false (fun h => h8 h.2.2.2.2.2.2.2.2)];refine tr 2 ?_;refine Bx 0 rfl fun b1 => ?_;refine Bx 6 rfl fun b2 => ?_;refine Lb 0 sg42 .h1 ?_;refine cta 2 ?_;refine Lb 0 sg3 .h1 ?_;refine cta 3 ?_;refine Lb 0 sg42 .h1 ?_;refine cta 3 ?_;refine Lb 1 sg43 .h1 ?_;refine cto 3 ?_;refine Lb 0 sg42 .here ?_;refine cta 3 ?_;refine Lb 0 sg42 .here ?_;refine cta 3 ?_;refine Lb 0 sg9 .here ?_
  refine cta 3 ?_;refine Lb 1 sg43 .here ?_;refine cto 3 ?_;refine Lb 1 sg46 .here ?_;refine cfo 5 ?_;exact rt1 ⟨rfl, trivial⟩ ⟨rfl, rfl⟩
 rw [decide_eq_true ⟨h0, h1, h2, h3, h4, h5, h6, h7, h8⟩];refine tr 2 ?_;refine Bx 0 rfl fun b1 => ?_;refine Bx 6 rfl fun b2 => ?_;refine Lb 0 sg42 .h1 ?_;refine cta 2 ?_;refine Lb 0 sg3 .h1 ?_;refine cta 3 ?_;refine Lb 0 sg42 .h1 ?_;refine cta 3 ?_;refine Lb 1 sg43 .h1 ?_;refine cto 3 ?_;refine Lb 0 sg42 .here ?_;refine cta 3 ?_;refine Lb 0 sg42 .here ?_;refine cta 3 ?_;refine Lb 0 sg9 .here ?_
 refine cta 3 ?_;refine Lb 1 sg43 .here ?_;refine cto 3 ?_;refine Lb 1 sg46 .here ?_;refine cto 5 ?_;exact rt1 ⟨rfl, trivial⟩ ⟨rfl, rfl⟩
theorem NumR.cells {op n who : Int} {K : Option Addr} {k kc : Nat} {x : NumT} (h : NumR m (n4 op n who K k kc) x) : ∃ kids, x = .mk op n who kids ∧ kids.length = k ∧ k ≤ 9223372036854775807 := by
 cases h with
 | mk ho hl hm hr hv hk => exact ⟨_, rfl, hl, hm⟩
theorem CondR.cells {op who : Int} {name : List UInt8} {A : Option Addr} {la ca : Nat} {B : Option Addr} {lb cb : Nat} {x : CondT} (h : CondR m (c5 op who name A la ca B lb cb) x) : ∃ ns ks, x = .mk op who name ns ks ∧ ns.length = la ∧ ks.length = lb ∧ la ≤ 9223372036854775807 ∧ lb ≤ 9223372036854775807 := by
 generalize hv : c5 op who name A la ca B lb cb = vs at h;cases h with
 | mk ho hw hn hla hma hra hva hka hlb hmb hrb hvb hkb =>
   injection hv with h1 hv
   injection hv with h2 hv
   injection hv with h3 hv
   injection hv with h4 hv
   injection hv with h5 hv
   injection h1 with _ h1
   injection h2 with _ h2
   injection h3 with h3
   injection h4 with h4 h4' h4''
   injection h5 with h5 h5' h5''
   have hn := congrArg (fun x : ByteArray => x.data.toList) h3;dsimp only [bs] at hn;subst h1 h2 hn h4' h5';exact ⟨_, _, rfl, hla, hlb, hma, hmb⟩
theorem xU {α : Type} (l : List α) : l.isEmpty = decide (l.length = 0) := by cases l <;> rfl
theorem plainC112 {op who : Int} {name : List UInt8} {A : Option Addr} {la ca : Nat} {B : Option Addr} {lb cb : Nat} {x : CondT} (h : CondR m (c5 op who name A la ca B lb cb) x) {m2 : Mp} :
  CS Tryz.prog 112 [.agg [.int .i8 0, .int .i64 0, .int .i8 0, .slice none 0 0].toArray, .agg (c5 op who name A la ca B lb cb).toArray] m2 [] (Gives (.bool (zeroC x))) := by
 obtain ⟨ns, ks, rfl, hns, hks, h1, h2⟩ := CondR.cells h
 have e : zeroC (.mk op who name ns ks) = decide ((0 : Int) = 0 ∧ (0 : Int) = 0 ∧ (0 : Int) = 0 ∧ (0 : Nat) = 0 ∧ op = 0 ∧ who = 0 ∧ name = [] ∧ la = 0 ∧ lb = 0) := by
  show (decide (op = 0) && decide (who = 0) && name.isEmpty && ns.isEmpty && ks.isEmpty) = _;rw [xU ns, xU ks, hns, hks];have e1 : name.isEmpty = decide (name = []) := by cases name <;> rfl
  rw [e1]
  simp [Bool.and_assoc]
 rw [e];exact plain112 (op := 0) (n := 0) (who := 0) (K := none) (k := 0) (kc := 0) (by decide) h1 h2
theorem plainN112 {op n who : Int} {K : Option Addr} {k kc : Nat} {x : NumT} (h : NumR m (n4 op n who K k kc) x) {m2 : Mp} :
  CS Tryz.prog 112 [.agg (n4 op n who K k kc).toArray, .agg (c5 0 0 [] none 0 0 none 0 0).toArray] m2 [] (Gives (.bool (zeroN x))) := by
 obtain ⟨ks, rfl, hks, h1⟩ := NumR.cells h
 have e : zeroN (.mk op n who ks) = decide (op = 0 ∧ n = 0 ∧ who = 0 ∧ k = 0 ∧ (0 : Int) = 0 ∧ (0 : Int) = 0 ∧ ([] : List UInt8) = [] ∧ (0 : Nat) = 0 ∧ (0 : Nat) = 0) := by
  show (decide (op = 0) && decide (n = 0) && decide (who = 0) && ks.isEmpty) = _;rw [xU ks, hks]
  simp [Bool.and_assoc]
 rw [e];exact plain112 h1 (by decide) (by decide)
abbrev e14 (op who nop nn nwho : Int) (nA : Option Addr) (nl nc : Nat) (name : List UInt8) (cop cwho : Int) (cname : List UInt8) (cA : Option Addr) (cla cca : Nat) (cB : Option Addr) (clb ccb : Nat) (TA : Option Addr) (la ca : Nat) (EB : Option Addr) (lb cb : Nat) : List Value :=
 [.int .i8 op, .int .i8 who, .int .i8 nop, .int .i64 nn, .int .i8 nwho, .slice nA nl nc, .string (bs name), .int .i8 cop, .int .i8 cwho, .string (bs cname), .slice cA cla cca, .slice cB clb ccb, .slice TA la ca, .slice EB lb cb]
def EffOk (m : Mp) (b : Nat) (cs : List Value) (x : EffT) : Prop := ∀ m', Le m m' → ∀ (p d : Nat), p ≤ 200 → d ≤ 8 → PrC 94 [ptr b, .agg cs.toArray] m' b p d (effP x d) (effW x)
def BlkOk (m : Mp) (b : Nat) (A : Option Addr) (len cap : Nat) (l : List EffT) : Prop := ∀ m', Le m m' → ∀ (p d : Nat), p ≤ 200 → d ≤ 8 → PrC 44 [ptr b, .slice A len cap] m' b p d (blkP l d) (effsW l)
theorem EffOk.mono {m m' : Mp} {cs : List Value} {x : EffT} (h : EffOk m b cs x) (hl : Le m m') : EffOk m' b cs x := fun m2 h2 => h m2 (hl.trans h2)
theorem BlkOk.mono {m m' : Mp} {A : Option Addr} {len cap : Nat} {l : List EffT} (h : BlkOk m b A len cap l) (hl : Le m m') : BlkOk m' b A len cap l := fun m2 h2 => h m2 (hl.trans h2)
end
section
open Wd Tp Kd
variable {m : Mp} {b d p : Nat} {q : Bool}
theorem zeroNumR {op n who : Int} {K : Option Addr} {k kc : Nat} {x : NumT} (h : NumR m (n4 op n who K k kc) x) {m2 : Mp} : CS Tryz.prog 118 [.agg (n4 op n who K k kc).toArray] m2 [] (Gives (.bool (zeroN x))) := by
 obtain ⟨ks, rfl, hks, h1⟩ := NumR.cells h
 have e : zeroN (.mk op n who ks) = decide (op = 0 ∧ n = 0 ∧ who = 0 ∧ k = 0) := by
  show (decide (op = 0) && decide (n = 0) && decide (who = 0) && ks.isEmpty) = _;rw [xU ks, hks]
  simp [Bool.and_assoc]
 rw [e];exact zeroNum118 h1
theorem zeroCondR {op who : Int} {name : List UInt8} {A : Option Addr} {la ca : Nat} {B : Option Addr} {lb cb : Nat} {x : CondT} (h : CondR m (c5 op who name A la ca B lb cb) x) {m2 : Mp} : CS Tryz.prog 119 [.agg (c5 op who name A la ca B lb cb).toArray] m2 [] (Gives (.bool (zeroC x))) := by
 obtain ⟨ns, ks, rfl, hns, hks, h1, h2⟩ := CondR.cells h
 have e : zeroC (.mk op who name ns ks) = decide (op = 0 ∧ who = 0 ∧ name = [] ∧ la = 0 ∧ lb = 0) := by
  show (decide (op = 0) && decide (who = 0) && name.isEmpty && ns.isEmpty && ks.isEmpty) = _;rw [xU ns, xU ks, hns, hks];have e1 : name.isEmpty = decide (name = []) := by cases name <;> rfl
  rw [e1]
  simp [Bool.and_assoc]
 rw [e];exact zeroCond119 h1 h2
def EffD (m : Mp) (b : Nat) (cs : List Value) (x : EffT) : Prop := ∀ m', Le m m' → ∀ (p d : Nat) (q : Bool), p + effW x ≤ 1000000 → d ≤ 100 → (q = false → d ≤ 8) → DnC 96 [ptr b, .agg cs.toArray] m' b p d q (effP x d) (effW x) (100 * effW x - 1) 140737488355328
def BlkD (m : Mp) (b : Nat) (A : Option Addr) (len cap : Nat) (l : List EffT) : Prop := ∀ m', Le m m' → ∀ (p d : Nat) (q : Bool), p + effsW l ≤ 1000000 → d ≤ 100 → (q = false → d ≤ 8 ∧ p ≤ 200) → DnC 48 [ptr b, .slice A len cap] m' b p d q (blkP l d) (effsW l) (100 * effsW l) 140737488355328
theorem EffD.mono {m m' : Mp} {cs : List Value} {x : EffT} (h : EffD m b cs x) (hl : Le m m') : EffD m' b cs x := fun m2 h2 => h m2 (hl.trans h2)
theorem BlkD.mono {m m' : Mp} {A : Option Addr} {len cap : Nat} {l : List EffT} (h : BlkD m b A len cap l) (hl : Le m m') : BlkD m' b A len cap l := fun m2 h2 => h m2 (hl.trans h2)
theorem zm {x : EffT} {d p : Nat} {s : List UInt8} (h : effP x d = none) (hs : s.length ≤ 140737488355328 + 90) : Out p false (effP x d) (effW x) (100 * effW x - 1) 140737488355328 s (p + 1) true := by
 have hw := yC x;exact (Out.none (w := effW x - 1) h (by omega)).one (by omega)
def lineF (w s t : List UInt8) : List UInt8 := w ++ sSp ++ s ++ sSp ++ t ++ sSemi
theorem xZ {w s t : List UInt8} {a c : Option (List UInt8)} {v p2 : Nat} {q1 q2 : Bool} (hw : w.length ≤ 4) (h1 : Out p false a 0 6 140737488355328 s p q1) (h2 : Out p q1 c v (30 * v) 0 t p2 q2) : Out p false (lineP w a c) v (30 * v + 14) 140737488355328 (lineF w s t) p2 q2 := by
 have := h1.put (f := lineF w) (h2.le (Nat.le_refl _) (Nat.zero_le 140737488355328)) (K := 7) (by simp [lineF]; omega);exact (this.le (k := 30 * v + 14) (by omega) (Nat.le_refl _)).congr rfl rfl (by omega)
theorem ifP_put (c : CondT) (t e : List EffT) (d : Nat) : ifP c t e d = putP (fun s x => sIf ++ sSp ++ s ++ sSp ++ sLb ++ x) (condP c d) (putP (fun u v => u ++ sSp ++ sRb ++ sSp ++ sElse ++ sSp ++ sLb ++ v ++ sSp ++ sRb) (blkP t d) (blkP e d)) := by
 unfold ifP putP;cases condP c d with
 | none => rfl
 | some s =>
   cases blkP t d with
   | none => rfl
   | some u =>
     cases blkP e d with
     | none => rfl
     | some v => simp [ifT]
end
section
open Wd Tp Kd
variable {m : Mp} {b d p : Nat} {q : Bool}
theorem XW {op who nop nn nwho : Int} {nA : Option Addr} {nl nc : Nat} {name : List UInt8} {cop cwho : Int} {cname : List UInt8} {cA : Option Addr} {cla cca : Nat} {cB : Option Addr} {clb ccb : Nat} {TA : Option Addr} {la ca : Nat} {EB : Option Addr} {lb cb : Nat} {n : NumT} {cond : CondT} {thn els : List EffT}
  (hn : NumR m (n4 nop nn nwho nA nl nc) n) (hc : CondR m (c5 cop cwho cname cA cla cca cB clb ccb) cond) (iC : CondD m b (c5 cop cwho cname cA cla cca cB clb ccb) cond) (hnm : name.length ≤ 140737488355328) (hla : thn.length = la) (hlb : els.length = lb) (hla2 : la ≤ 140737488355328) (hlb2 : lb ≤ 140737488355328)
  (hbt : BlkD m b TA la ca thn) (hbe : BlkD m b EB lb cb els) (hop : op = 0) : EffD m b (e14 op who nop nn nwho nA nl nc name cop cwho cname cA cla cca cB clb ccb TA la ca EB lb cb) (.mk op who n name cond thn els) := by
 intro m0 hm0 p d q hp hd hq;refine zn [.tmp 4] Tryz.func96 rfl rfl rfl ?_;refine tr 2 ?_;refine Bx 4 rfl fun b1 => ?_;refine zI .here (fun ns hi _ hd1 => ?_);have hR : Rd (uni m0 ns) (some ⟨b1, 0, none⟩) (e14 op who nop nn nwho nA nl nc name cop cwho cname cA cla cca cB clb ccb TA la ca EB lb cb) := (Rd.blk hi).mono (zP hd1)
 have haN : At (uni m0 ns) ⟨b1, 2, none⟩ (n4 nop nn nwho nA nl nc) := (At.blkO (o := 2) (k := 4) hi).mono (zP hd1);have haC : At (uni m0 ns) ⟨b1, 7, none⟩ (c5 cop cwho cname cA cla cca cB clb ccb) := (At.blkO (o := 7) (k := 5) hi).mono (zP hd1);have hl2 : Le m0 (uni m0 ns) := zN _ _;clear hi hd1;generalize uni m0 ns = m9 at hR hl2 haN haC;have hl9 := hm0.trans hl2;have hn := hn.mono hl9
 have hc := hc.mono hl9;have hbt := hbt.mono hl9;have hbe := hbe.mono hl9;have iN : NumD m9 b _ n := num121 (b := b) hn;have iC := iC.mono hl9;have hc0 : mc m9 ⟨b1, 0, none⟩ = some (.int .i8 op) := hR.at_ (i := 0) rfl;have hc1 : mc m9 ⟨b1, 1, none⟩ = some (.int .i8 who) := hR.at_ (i := 1) rfl;have hc6 : mc m9 ⟨b1, 3 + 3, none⟩ = some (.string (bs name)) := hR.at_ (i := 6) rfl
 have hc6' : mc m9 ⟨b1, 6, none⟩ = some (.string (bs name)) := hc6;have hc12 : mc m9 ⟨b1, 12, none⟩ = some (.slice TA la ca) := hR.at_ (i := 12) rfl;have hc13 : mc m9 ⟨b1, 13, none⟩ = some (.slice EB lb cb) := hR.at_ (i := 13) rfl;have hw1 := yC (.mk op who n name cond thn els);refine tr 2 ?_;refine zC ((zF cl117 rfl .k0 (fun m' hm he => part117 (by omega)) rfl ?_)) rfl
 rintro _ _ ⟨rfl, rfl⟩;cases q with
 | true =>
   rw [Bool.true_or];refine vr 8 ?_;refine Lb 10 sg4 .here ?_;exact zB hl2 [_] ⟨rfl, trivial⟩ [_] .p0 ⟨[], p + 1, true, rfl, rfl, Out.stop (by omega)⟩
 | false =>
 have hd := hq rfl;rw [Bool.false_or];by_cases hp2 : 200 < p + 1
 ·rw [decide_eq_true hp2];refine vr 8 ?_;refine Lb 10 sg4 .here ?_;exact zB hl2 [_] ⟨rfl, trivial⟩ [_] .p0 ⟨[], p + 1, true, rfl, rfl, Out.over hp2 (by omega)⟩
 rw [decide_eq_false hp2];have hp1 : p + 1 ≤ 200 := by omega
 subst hop;have hwn : effW (.mk 0 who n name cond thn els) = 1 + numW n := yv (by decide);by_cases hname : name = []
 rotate_left
 ·refine vr 8 ?_;refine Lb 8 sg4 .here ?_;refine Lo 0 sg42 rfl hc0 ?_;refine ctr 26 ?_;refine Lo 0 sg42 rfl hc0 ?_;refine ctr 45 ?_;refine Lo 0 sg42 rfl hc0 ?_;refine cto 2 ?_;refine Lo 0 sg9 rfl hc6' ?_;refine cta 33 ?_;refine Sr 9 co4 .here .h2 ?_;exact zB hl2 [_] ⟨rfl, trivial⟩ [_] .p0 ⟨[], p + 1, true, rfl, rfl, zm (yN (by decide) (by decide) hname) (by decide)⟩
 subst hname;refine vr 8 ?_;refine Lb 8 sg4 .here ?_;refine Lo 0 sg42 rfl hc0 ?_;refine ctr 26 ?_;refine Lo 0 sg42 rfl hc0 ?_;refine ctr 45 ?_;refine Lo 0 sg42 rfl hc0 ?_;refine cto 2 ?_;refine Lo 0 sg9 rfl hc6' ?_;refine cf 4 rfl (by decide) ?_;refine Lo 0 sg42 rfl hc0 ?_;refine cto 2 ?_;refine La 0 ag48 haC ?_;refine Cr cl119 rfl (fun m' hm he => (zeroCondR hc)) ?_;rintro _ rfl
 cases hzc : zeroC cond with
 | false =>
   refine vr 23 ?_;refine Sr 9 co4 .here .h2 ?_;exact zB hl2 [_] ⟨rfl, trivial⟩ [_] .p0 ⟨[], p + 1, true, rfl, rfl, zm (zZ (by decide) (fun h => by rw [h.1] at hzc; cases hzc)) (by decide)⟩
 | true =>
 by_cases hla0 : la = 0
 rotate_left
 ·refine vr 3 ?_;refine Lo 1 sg38 rfl hc12 ?_;refine cto 17 ?_;refine Sr 9 co4 .here .h2 ?_;exact zB hl2 [_] ⟨rfl, trivial⟩ [_] .p0 ⟨[], p + 1, true, rfl, rfl, zm (zZ (by decide) (fun h => by have := h.2; omega)) (by decide)⟩
 by_cases hlb0 : lb = 0
 rotate_left
 ·refine vr 3 ?_;refine Lo 1 sg38 rfl hc12 ?_;refine cfo 3 ?_;refine Lo 1 sg38 rfl hc13 ?_;refine cto 11 ?_;refine Sr 9 co4 .here .h2 ?_;exact zB hl2 [_] ⟨rfl, trivial⟩ [_] .p0 ⟨[], p + 1, true, rfl, rfl, zm (zZ (by decide) (fun h => by have := h.2; omega)) (by decide)⟩
 have hb : bareE cond thn els := ⟨hzc, by omega⟩;refine vr 3 ?_;refine Lo 1 sg38 rfl hc12 ?_;refine cfo 3 ?_;refine Lo 1 sg38 rfl hc13 ?_;refine cfo 11 ?_;refine Lo 0 sg42 rfl hc1 ?_;refine Cr cl120 rfl (fun m' hm he => side120) ?_;rintro _ rfl;by_cases hw2 : who = 2
 ·have hs : sideP who = none := by rw [hw2]; rfl
  have hwp : whoP who = some sTarget := by unfold whoP; rw [if_pos hw2]
  rw [show sideV who = .tuple #[.string (bs []), .bool false] by unfold sideV; rw [hs]; rfl];refine vr 11 ?_;refine Lo 0 sg42 rfl hc1 ?_;refine cta 2 ?_;refine Lo 0 sg42 rfl hc0 ?_;refine ctr 28 ?_;refine Sr 6 co4 .here .h2 ?_;refine Lo 5 sg42 rfl hc0 ?_;refine ctr 7 ?_;refine Ps 0 ?_;refine Ps 2 ?_;refine La 0 ag45 haN ?_
  refine zC ((zF cl121 rfl .k0 (fun m' hm he => iN m' hm (p + 1) d false (by omega) (by omega) (fun _ => hd)) rfl ?_)) rfl;rintro _ _ ⟨t, p2, q2, rfl, rfl, h2⟩;have htl := h2.len;refine Ps 0 ?_;refine Ps 6 ?_;have e2 : [104, 97, 114, 109, 32] ++ sTarget ++ [32] ++ t ++ [59] = lineF sHarm sTarget t := by simp [lineF]
  rw [e2, wH hb, hwn];exact zB hl2 [_] ⟨rfl, trivial⟩ [_] .p0 ⟨_, p2, q2, rfl, rfl, ((xZ (by decide) (Out.opt hp1 (by decide) (fun _ => hwp) (fun h => by cases h)) h2).le (by omega) (Nat.le_refl _)).one rfl⟩
 have hwp : whoP who = sideP who := by unfold whoP; rw [if_neg hw2]
 cases hs : sideP who with
 | none =>
   rw [show sideV who = .tuple #[.string (bs []), .bool false] by unfold sideV; rw [hs]; rfl];refine vr 11 ?_;refine Lo 0 sg42 rfl hc1 ?_;refine cfa 25 ?_;refine Sr 6 co4 .here .h2 ?_;refine Lo 5 sg42 rfl hc0 ?_;refine ctr 7 ?_;refine Ps 0 ?_;refine Ps 2 ?_;refine La 0 ag45 haN ?_
   refine zC ((zF cl121 rfl .k0 (fun m' hm he => iN m' hm (p + 1) d true (by omega) (by omega) (fun _ => hd)) rfl ?_)) rfl;rintro _ _ ⟨t, p2, q2, rfl, rfl, h2⟩;have htl := h2.len;refine Ps 0 ?_;refine Ps 6 ?_;have e2 : [104, 97, 114, 109, 32] ++ [] ++ [32] ++ t ++ [59] = lineF sHarm [] t := by simp [lineF]
   rw [e2, wH hb, hwn];exact zB hl2 [_] ⟨rfl, trivial⟩ [_] .p0 ⟨_, p2, q2, rfl, rfl, ((xZ (by decide) (Out.opt hp1 (by decide) (fun h => by cases h) (fun _ => hwp.trans hs)) h2).le (by omega) (Nat.le_refl _)).one rfl⟩
 | some s =>
   have hsl := zx hs;rw [show sideV who = .tuple #[.string (bs s), .bool true] by unfold sideV; rw [hs]; rfl];refine vr 11 ?_;refine Lo 0 sg42 rfl hc1 ?_;refine cfa 25 ?_;refine Sr 6 co4 .here .h2 ?_;refine Lo 5 sg42 rfl hc0 ?_;refine ctr 7 ?_;refine Ps 0 ?_;refine Ps 2 ?_;refine La 0 ag45 haN ?_
   refine zC ((zF cl121 rfl .k0 (fun m' hm he => iN m' hm (p + 1) d false (by omega) (by omega) (fun _ => hd)) rfl ?_)) rfl;rintro _ _ ⟨t, p2, q2, rfl, rfl, h2⟩;have htl := h2.len;refine Ps 0 ?_;refine Ps 6 ?_;have e2 : [104, 97, 114, 109, 32] ++ s ++ [32] ++ t ++ [59] = lineF sHarm s t := by simp [lineF]
   rw [e2, wH hb, hwn];exact zB hl2 [_] ⟨rfl, trivial⟩ [_] .p0 ⟨_, p2, q2, rfl, rfl, ((xZ (by decide) (Out.opt hp1 (by omega) (fun _ => hwp.trans hs) (fun h => by cases h)) h2).le (by omega) (Nat.le_refl _)).one rfl⟩
theorem XU {op who nop nn nwho : Int} {nA : Option Addr} {nl nc : Nat} {name : List UInt8} {cop cwho : Int} {cname : List UInt8} {cA : Option Addr} {cla cca : Nat} {cB : Option Addr} {clb ccb : Nat} {TA : Option Addr} {la ca : Nat} {EB : Option Addr} {lb cb : Nat} {n : NumT} {cond : CondT} {thn els : List EffT}
  (hn : NumR m (n4 nop nn nwho nA nl nc) n) (hc : CondR m (c5 cop cwho cname cA cla cca cB clb ccb) cond) (iC : CondD m b (c5 cop cwho cname cA cla cca cB clb ccb) cond) (hnm : name.length ≤ 140737488355328) (hla : thn.length = la) (hlb : els.length = lb) (hla2 : la ≤ 140737488355328) (hlb2 : lb ≤ 140737488355328)
  (hbt : BlkD m b TA la ca thn) (hbe : BlkD m b EB lb cb els) (hop : op = 1) : EffD m b (e14 op who nop nn nwho nA nl nc name cop cwho cname cA cla cca cB clb ccb TA la ca EB lb cb) (.mk op who n name cond thn els) := by
 intro m0 hm0 p d q hp hd hq;refine zn [.tmp 4] Tryz.func96 rfl rfl rfl ?_;refine tr 2 ?_;refine Bx 4 rfl fun b1 => ?_;refine zI .here (fun ns hi _ hd1 => ?_);have hR : Rd (uni m0 ns) (some ⟨b1, 0, none⟩) (e14 op who nop nn nwho nA nl nc name cop cwho cname cA cla cca cB clb ccb TA la ca EB lb cb) := (Rd.blk hi).mono (zP hd1)
 have haN : At (uni m0 ns) ⟨b1, 2, none⟩ (n4 nop nn nwho nA nl nc) := (At.blkO (o := 2) (k := 4) hi).mono (zP hd1);have haC : At (uni m0 ns) ⟨b1, 7, none⟩ (c5 cop cwho cname cA cla cca cB clb ccb) := (At.blkO (o := 7) (k := 5) hi).mono (zP hd1);have hl2 : Le m0 (uni m0 ns) := zN _ _;clear hi hd1;generalize uni m0 ns = m9 at hR hl2 haN haC;have hl9 := hm0.trans hl2;have hn := hn.mono hl9
 have hc := hc.mono hl9;have hbt := hbt.mono hl9;have hbe := hbe.mono hl9;have iN : NumD m9 b _ n := num121 (b := b) hn;have iC := iC.mono hl9;have hc0 : mc m9 ⟨b1, 0, none⟩ = some (.int .i8 op) := hR.at_ (i := 0) rfl;have hc1 : mc m9 ⟨b1, 1, none⟩ = some (.int .i8 who) := hR.at_ (i := 1) rfl;have hc6 : mc m9 ⟨b1, 3 + 3, none⟩ = some (.string (bs name)) := hR.at_ (i := 6) rfl
 have hc6' : mc m9 ⟨b1, 6, none⟩ = some (.string (bs name)) := hc6;have hc12 : mc m9 ⟨b1, 12, none⟩ = some (.slice TA la ca) := hR.at_ (i := 12) rfl;have hc13 : mc m9 ⟨b1, 13, none⟩ = some (.slice EB lb cb) := hR.at_ (i := 13) rfl;have hw1 := yC (.mk op who n name cond thn els);refine tr 2 ?_;refine zC ((zF cl117 rfl .k0 (fun m' hm he => part117 (by omega)) rfl ?_)) rfl
 rintro _ _ ⟨rfl, rfl⟩;cases q with
 | true =>
   rw [Bool.true_or];refine vr 8 ?_;refine Lb 10 sg4 .here ?_;exact zB hl2 [_] ⟨rfl, trivial⟩ [_] .p0 ⟨[], p + 1, true, rfl, rfl, Out.stop (by omega)⟩
 | false =>
 have hd := hq rfl;rw [Bool.false_or];by_cases hp2 : 200 < p + 1
 ·rw [decide_eq_true hp2];refine vr 8 ?_;refine Lb 10 sg4 .here ?_;exact zB hl2 [_] ⟨rfl, trivial⟩ [_] .p0 ⟨[], p + 1, true, rfl, rfl, Out.over hp2 (by omega)⟩
 rw [decide_eq_false hp2];have hp1 : p + 1 ≤ 200 := by omega
 subst hop;have hwn : effW (.mk 1 who n name cond thn els) = 1 + numW n := yv (by decide);by_cases hname : name = []
 rotate_left
 ·refine vr 8 ?_;refine Lb 8 sg4 .here ?_;refine Lo 0 sg42 rfl hc0 ?_;refine cfo 2 ?_;refine Lo 0 sg42 rfl hc0 ?_;refine ctr 22 ?_;refine Lo 0 sg42 rfl hc0 ?_;refine cfo 2 ?_;refine Lo 0 sg42 rfl hc0 ?_;refine ctr 41 ?_;refine Lo 0 sg42 rfl hc0 ?_;refine cto 2 ?_;refine Lo 0 sg9 rfl hc6' ?_;refine cta 33 ?_;refine Sr 9 co4 .here .h2 ?_
  exact zB hl2 [_] ⟨rfl, trivial⟩ [_] .p0 ⟨[], p + 1, true, rfl, rfl, zm (yN (by decide) (by decide) hname) (by decide)⟩
 subst hname;refine vr 8 ?_;refine Lb 8 sg4 .here ?_;refine Lo 0 sg42 rfl hc0 ?_;refine cfo 2 ?_;refine Lo 0 sg42 rfl hc0 ?_;refine ctr 22 ?_;refine Lo 0 sg42 rfl hc0 ?_;refine cfo 2 ?_;refine Lo 0 sg42 rfl hc0 ?_;refine ctr 41 ?_;refine Lo 0 sg42 rfl hc0 ?_;refine cto 2 ?_;refine Lo 0 sg9 rfl hc6' ?_;refine cf 4 rfl (by decide) ?_;refine Lo 0 sg42 rfl hc0 ?_;refine cto 2 ?_;refine La 0 ag48 haC ?_
 refine Cr cl119 rfl (fun m' hm he => (zeroCondR hc)) ?_;rintro _ rfl;cases hzc : zeroC cond with
 | false =>
   refine vr 23 ?_;refine Sr 9 co4 .here .h2 ?_;exact zB hl2 [_] ⟨rfl, trivial⟩ [_] .p0 ⟨[], p + 1, true, rfl, rfl, zm (zZ (by decide) (fun h => by rw [h.1] at hzc; cases hzc)) (by decide)⟩
 | true =>
 by_cases hla0 : la = 0
 rotate_left
 ·refine vr 3 ?_;refine Lo 1 sg38 rfl hc12 ?_;refine cto 17 ?_;refine Sr 9 co4 .here .h2 ?_;exact zB hl2 [_] ⟨rfl, trivial⟩ [_] .p0 ⟨[], p + 1, true, rfl, rfl, zm (zZ (by decide) (fun h => by have := h.2; omega)) (by decide)⟩
 by_cases hlb0 : lb = 0
 rotate_left
 ·refine vr 3 ?_;refine Lo 1 sg38 rfl hc12 ?_;refine cfo 3 ?_;refine Lo 1 sg38 rfl hc13 ?_;refine cto 11 ?_;refine Sr 9 co4 .here .h2 ?_;exact zB hl2 [_] ⟨rfl, trivial⟩ [_] .p0 ⟨[], p + 1, true, rfl, rfl, zm (zZ (by decide) (fun h => by have := h.2; omega)) (by decide)⟩
 have hb : bareE cond thn els := ⟨hzc, by omega⟩;refine vr 3 ?_;refine Lo 1 sg38 rfl hc12 ?_;refine cfo 3 ?_;refine Lo 1 sg38 rfl hc13 ?_;refine cfo 11 ?_;refine Lo 0 sg42 rfl hc1 ?_;refine Cr cl120 rfl (fun m' hm he => side120) ?_;rintro _ rfl;by_cases hw2 : who = 2
 ·have hs : sideP who = none := by rw [hw2]; rfl
  have hwp : whoP who = some sTarget := by unfold whoP; rw [if_pos hw2]
  rw [show sideV who = .tuple #[.string (bs []), .bool false] by unfold sideV; rw [hs]; rfl];refine vr 11 ?_;refine Lo 0 sg42 rfl hc1 ?_;refine cta 2 ?_;refine Lo 0 sg42 rfl hc0 ?_;refine cfo 2 ?_;refine Lo 0 sg42 rfl hc0 ?_;refine ctr 24 ?_;refine Sr 6 co4 .here .h2 ?_;refine Lo 5 sg42 rfl hc0 ?_;refine cfo 6 ?_;refine ctr 7 ?_;refine Ps 0 ?_;refine Ps 2 ?_;refine La 0 ag45 haN ?_
  refine zC ((zF cl121 rfl .k0 (fun m' hm he => iN m' hm (p + 1) d false (by omega) (by omega) (fun _ => hd)) rfl ?_)) rfl;rintro _ _ ⟨t, p2, q2, rfl, rfl, h2⟩;have htl := h2.len;refine Ps 0 ?_;refine Ps 6 ?_;have e2 : [109, 101, 110, 100, 32] ++ sTarget ++ [32] ++ t ++ [59] = lineF sMend sTarget t := by simp [lineF]
  rw [e2, wG hb, hwn];exact zB hl2 [_] ⟨rfl, trivial⟩ [_] .p0 ⟨_, p2, q2, rfl, rfl, ((xZ (by decide) (Out.opt hp1 (by decide) (fun _ => hwp) (fun h => by cases h)) h2).le (by omega) (Nat.le_refl _)).one rfl⟩
 have hwp : whoP who = sideP who := by unfold whoP; rw [if_neg hw2]
 cases hs : sideP who with
 | none =>
   rw [show sideV who = .tuple #[.string (bs []), .bool false] by unfold sideV; rw [hs]; rfl];refine vr 11 ?_;refine Lo 0 sg42 rfl hc1 ?_;refine cfa 25 ?_;refine Sr 6 co4 .here .h2 ?_;refine Lo 5 sg42 rfl hc0 ?_;refine cfo 6 ?_;refine ctr 7 ?_;refine Ps 0 ?_;refine Ps 2 ?_;refine La 0 ag45 haN ?_
   refine zC ((zF cl121 rfl .k0 (fun m' hm he => iN m' hm (p + 1) d true (by omega) (by omega) (fun _ => hd)) rfl ?_)) rfl;rintro _ _ ⟨t, p2, q2, rfl, rfl, h2⟩;have htl := h2.len;refine Ps 0 ?_;refine Ps 6 ?_;have e2 : [109, 101, 110, 100, 32] ++ [] ++ [32] ++ t ++ [59] = lineF sMend [] t := by simp [lineF]
   rw [e2, wG hb, hwn];exact zB hl2 [_] ⟨rfl, trivial⟩ [_] .p0 ⟨_, p2, q2, rfl, rfl, ((xZ (by decide) (Out.opt hp1 (by decide) (fun h => by cases h) (fun _ => hwp.trans hs)) h2).le (by omega) (Nat.le_refl _)).one rfl⟩
 | some s =>
   have hsl := zx hs;rw [show sideV who = .tuple #[.string (bs s), .bool true] by unfold sideV; rw [hs]; rfl];refine vr 11 ?_;refine Lo 0 sg42 rfl hc1 ?_;refine cfa 25 ?_;refine Sr 6 co4 .here .h2 ?_;refine Lo 5 sg42 rfl hc0 ?_;refine cfo 6 ?_;refine ctr 7 ?_;refine Ps 0 ?_;refine Ps 2 ?_;refine La 0 ag45 haN ?_
   refine zC ((zF cl121 rfl .k0 (fun m' hm he => iN m' hm (p + 1) d false (by omega) (by omega) (fun _ => hd)) rfl ?_)) rfl;rintro _ _ ⟨t, p2, q2, rfl, rfl, h2⟩;have htl := h2.len;refine Ps 0 ?_;refine Ps 6 ?_;have e2 : [109, 101, 110, 100, 32] ++ s ++ [32] ++ t ++ [59] = lineF sMend s t := by simp [lineF]
   rw [e2, wG hb, hwn];exact zB hl2 [_] ⟨rfl, trivial⟩ [_] .p0 ⟨_, p2, q2, rfl, rfl, ((xZ (by decide) (Out.opt hp1 (by omega) (fun _ => hwp.trans hs) (fun h => by cases h)) h2).le (by omega) (Nat.le_refl _)).one rfl⟩
theorem Xa {op who nop nn nwho : Int} {nA : Option Addr} {nl nc : Nat} {name : List UInt8} {cop cwho : Int} {cname : List UInt8} {cA : Option Addr} {cla cca : Nat} {cB : Option Addr} {clb ccb : Nat} {TA : Option Addr} {la ca : Nat} {EB : Option Addr} {lb cb : Nat} {n : NumT} {cond : CondT} {thn els : List EffT}
  (hn : NumR m (n4 nop nn nwho nA nl nc) n) (hc : CondR m (c5 cop cwho cname cA cla cca cB clb ccb) cond) (iC : CondD m b (c5 cop cwho cname cA cla cca cB clb ccb) cond) (hnm : name.length ≤ 140737488355328) (hla : thn.length = la) (hlb : els.length = lb) (hla2 : la ≤ 140737488355328) (hlb2 : lb ≤ 140737488355328)
  (hbt : BlkD m b TA la ca thn) (hbe : BlkD m b EB lb cb els) (hop : op = 2) : EffD m b (e14 op who nop nn nwho nA nl nc name cop cwho cname cA cla cca cB clb ccb TA la ca EB lb cb) (.mk op who n name cond thn els) := by
 intro m0 hm0 p d q hp hd hq;refine zn [.tmp 4] Tryz.func96 rfl rfl rfl ?_;refine tr 2 ?_;refine Bx 4 rfl fun b1 => ?_;refine zI .here (fun ns hi _ hd1 => ?_);have hR : Rd (uni m0 ns) (some ⟨b1, 0, none⟩) (e14 op who nop nn nwho nA nl nc name cop cwho cname cA cla cca cB clb ccb TA la ca EB lb cb) := (Rd.blk hi).mono (zP hd1)
 have haN : At (uni m0 ns) ⟨b1, 2, none⟩ (n4 nop nn nwho nA nl nc) := (At.blkO (o := 2) (k := 4) hi).mono (zP hd1);have haC : At (uni m0 ns) ⟨b1, 7, none⟩ (c5 cop cwho cname cA cla cca cB clb ccb) := (At.blkO (o := 7) (k := 5) hi).mono (zP hd1);have hl2 : Le m0 (uni m0 ns) := zN _ _;clear hi hd1;generalize uni m0 ns = m9 at hR hl2 haN haC;have hl9 := hm0.trans hl2;have hn := hn.mono hl9
 have hc := hc.mono hl9;have hbt := hbt.mono hl9;have hbe := hbe.mono hl9;have iN : NumD m9 b _ n := num121 (b := b) hn;have iC := iC.mono hl9;have hc0 : mc m9 ⟨b1, 0, none⟩ = some (.int .i8 op) := hR.at_ (i := 0) rfl;have hc1 : mc m9 ⟨b1, 1, none⟩ = some (.int .i8 who) := hR.at_ (i := 1) rfl;have hc6 : mc m9 ⟨b1, 3 + 3, none⟩ = some (.string (bs name)) := hR.at_ (i := 6) rfl
 have hc6' : mc m9 ⟨b1, 6, none⟩ = some (.string (bs name)) := hc6;have hc12 : mc m9 ⟨b1, 12, none⟩ = some (.slice TA la ca) := hR.at_ (i := 12) rfl;have hc13 : mc m9 ⟨b1, 13, none⟩ = some (.slice EB lb cb) := hR.at_ (i := 13) rfl;have hw1 := yC (.mk op who n name cond thn els);refine tr 2 ?_;refine zC ((zF cl117 rfl .k0 (fun m' hm he => part117 (by omega)) rfl ?_)) rfl
 rintro _ _ ⟨rfl, rfl⟩;cases q with
 | true =>
   rw [Bool.true_or];refine vr 8 ?_;refine Lb 10 sg4 .here ?_;exact zB hl2 [_] ⟨rfl, trivial⟩ [_] .p0 ⟨[], p + 1, true, rfl, rfl, Out.stop (by omega)⟩
 | false =>
 have hd := hq rfl;rw [Bool.false_or];by_cases hp2 : 200 < p + 1
 ·rw [decide_eq_true hp2];refine vr 8 ?_;refine Lb 10 sg4 .here ?_;exact zB hl2 [_] ⟨rfl, trivial⟩ [_] .p0 ⟨[], p + 1, true, rfl, rfl, Out.over hp2 (by omega)⟩
 rw [decide_eq_false hp2];have hp1 : p + 1 ≤ 200 := by omega
 subst hop;have hwn : effW (.mk 2 who n name cond thn els) = 1 + numW n := yv (by decide);by_cases hname : name = []
 rotate_left
 ·refine vr 8 ?_;refine Lb 8 sg4 .here ?_;refine Lo 0 sg42 rfl hc0 ?_;refine cfo 2 ?_;refine Lo 0 sg42 rfl hc0 ?_;refine cfo 3 ?_;refine Lo 0 sg42 rfl hc0 ?_;refine ctr 17 ?_;refine Lo 0 sg42 rfl hc0 ?_;refine cfo 2 ?_;refine Lo 0 sg42 rfl hc0 ?_;refine cfo 3 ?_;refine Lo 0 sg42 rfl hc0 ?_;refine ctr 36 ?_;refine Lo 0 sg42 rfl hc0 ?_;refine cto 2 ?_;refine Lo 0 sg9 rfl hc6' ?_;refine cta 33 ?_
  refine Sr 9 co4 .here .h2 ?_;exact zB hl2 [_] ⟨rfl, trivial⟩ [_] .p0 ⟨[], p + 1, true, rfl, rfl, zm (yN (by decide) (by decide) hname) (by decide)⟩
 subst hname;refine vr 8 ?_;refine Lb 8 sg4 .here ?_;refine Lo 0 sg42 rfl hc0 ?_;refine cfo 2 ?_;refine Lo 0 sg42 rfl hc0 ?_;refine cfo 3 ?_;refine Lo 0 sg42 rfl hc0 ?_;refine ctr 17 ?_;refine Lo 0 sg42 rfl hc0 ?_;refine cfo 2 ?_;refine Lo 0 sg42 rfl hc0 ?_;refine cfo 3 ?_;refine Lo 0 sg42 rfl hc0 ?_;refine ctr 36 ?_;refine Lo 0 sg42 rfl hc0 ?_;refine cto 2 ?_;refine Lo 0 sg9 rfl hc6' ?_
 refine cf 4 rfl (by decide) ?_;refine Lo 0 sg42 rfl hc0 ?_;refine cto 2 ?_;refine La 0 ag48 haC ?_;refine Cr cl119 rfl (fun m' hm he => (zeroCondR hc)) ?_;rintro _ rfl;cases hzc : zeroC cond with
 | false =>
   refine vr 23 ?_;refine Sr 9 co4 .here .h2 ?_;exact zB hl2 [_] ⟨rfl, trivial⟩ [_] .p0 ⟨[], p + 1, true, rfl, rfl, zm (zZ (by decide) (fun h => by rw [h.1] at hzc; cases hzc)) (by decide)⟩
 | true =>
 by_cases hla0 : la = 0
 rotate_left
 ·refine vr 3 ?_;refine Lo 1 sg38 rfl hc12 ?_;refine cto 17 ?_;refine Sr 9 co4 .here .h2 ?_;exact zB hl2 [_] ⟨rfl, trivial⟩ [_] .p0 ⟨[], p + 1, true, rfl, rfl, zm (zZ (by decide) (fun h => by have := h.2; omega)) (by decide)⟩
 by_cases hlb0 : lb = 0
 rotate_left
 ·refine vr 3 ?_;refine Lo 1 sg38 rfl hc12 ?_;refine cfo 3 ?_;refine Lo 1 sg38 rfl hc13 ?_;refine cto 11 ?_;refine Sr 9 co4 .here .h2 ?_;exact zB hl2 [_] ⟨rfl, trivial⟩ [_] .p0 ⟨[], p + 1, true, rfl, rfl, zm (zZ (by decide) (fun h => by have := h.2; omega)) (by decide)⟩
 have hb : bareE cond thn els := ⟨hzc, by omega⟩;refine vr 3 ?_;refine Lo 1 sg38 rfl hc12 ?_;refine cfo 3 ?_;refine Lo 1 sg38 rfl hc13 ?_;refine cfo 11 ?_;refine Lo 0 sg42 rfl hc1 ?_;refine Cr cl120 rfl (fun m' hm he => side120) ?_;rintro _ rfl;by_cases hw2 : who = 2
 ·have hs : sideP who = none := by rw [hw2]; rfl
  rw [show sideV who = .tuple #[.string (bs []), .bool false] by unfold sideV; rw [hs]; rfl];refine vr 11 ?_;refine Lo 0 sg42 rfl hc1 ?_;refine cta 2 ?_;refine Lo 0 sg42 rfl hc0 ?_;refine cfo 2 ?_;refine Lo 0 sg42 rfl hc0 ?_;refine cfo 17 ?_;refine Sr 6 co4 .here .h2 ?_;refine Lo 5 sg42 rfl hc0 ?_;refine cfo 6 ?_;refine cfo 6 ?_;refine ctr 7 ?_;refine Ps 0 ?_;refine Ps 2 ?_;refine La 0 ag45 haN ?_
  refine zC ((zF cl121 rfl .k0 (fun m' hm he => iN m' hm (p + 1) d true (by omega) (by omega) (fun _ => hd)) rfl ?_)) rfl;rintro _ _ ⟨t, p2, q2, rfl, rfl, h2⟩;have htl := h2.len;refine Ps 0 ?_;refine Ps 6 ?_;have e2 : [100, 114, 97, 119, 32] ++ [] ++ [32] ++ t ++ [59] = lineF sDraw [] t := by simp [lineF]
  rw [e2, wo hb, hwn];exact zB hl2 [_] ⟨rfl, trivial⟩ [_] .p0 ⟨_, p2, q2, rfl, rfl, ((xZ (by decide) (Out.opt hp1 (by decide) (fun h => by cases h) (fun _ => hs)) h2).le (by omega) (Nat.le_refl _)).one rfl⟩
 cases hs : sideP who with
 | none =>
   rw [show sideV who = .tuple #[.string (bs []), .bool false] by unfold sideV; rw [hs]; rfl];refine vr 11 ?_;refine Lo 0 sg42 rfl hc1 ?_;refine cfa 25 ?_;refine Sr 6 co4 .here .h2 ?_;refine Lo 5 sg42 rfl hc0 ?_;refine cfo 6 ?_;refine cfo 6 ?_;refine ctr 7 ?_;refine Ps 0 ?_;refine Ps 2 ?_;refine La 0 ag45 haN ?_
   refine zC ((zF cl121 rfl .k0 (fun m' hm he => iN m' hm (p + 1) d true (by omega) (by omega) (fun _ => hd)) rfl ?_)) rfl;rintro _ _ ⟨t, p2, q2, rfl, rfl, h2⟩;have htl := h2.len;refine Ps 0 ?_;refine Ps 6 ?_;have e2 : [100, 114, 97, 119, 32] ++ [] ++ [32] ++ t ++ [59] = lineF sDraw [] t := by simp [lineF]
   rw [e2, wo hb, hwn];exact zB hl2 [_] ⟨rfl, trivial⟩ [_] .p0 ⟨_, p2, q2, rfl, rfl, ((xZ (by decide) (Out.opt hp1 (by decide) (fun h => by cases h) (fun _ => hs)) h2).le (by omega) (Nat.le_refl _)).one rfl⟩
 | some s =>
   have hsl := zx hs;rw [show sideV who = .tuple #[.string (bs s), .bool true] by unfold sideV; rw [hs]; rfl];refine vr 11 ?_;refine Lo 0 sg42 rfl hc1 ?_;refine cfa 25 ?_;refine Sr 6 co4 .here .h2 ?_;refine Lo 5 sg42 rfl hc0 ?_;refine cfo 6 ?_;refine cfo 6 ?_;refine ctr 7 ?_;refine Ps 0 ?_;refine Ps 2 ?_;refine La 0 ag45 haN ?_
   refine zC ((zF cl121 rfl .k0 (fun m' hm he => iN m' hm (p + 1) d false (by omega) (by omega) (fun _ => hd)) rfl ?_)) rfl;rintro _ _ ⟨t, p2, q2, rfl, rfl, h2⟩;have htl := h2.len;refine Ps 0 ?_;refine Ps 6 ?_;have e2 : [100, 114, 97, 119, 32] ++ s ++ [32] ++ t ++ [59] = lineF sDraw s t := by simp [lineF]
   rw [e2, wo hb, hwn];exact zB hl2 [_] ⟨rfl, trivial⟩ [_] .p0 ⟨_, p2, q2, rfl, rfl, ((xZ (by decide) (Out.opt hp1 (by omega) (fun _ => hs) (fun h => by cases h)) h2).le (by omega) (Nat.le_refl _)).one rfl⟩
end
section
open Wd Tp Kd
variable {m : Mp} {b d p : Nat} {q : Bool}
theorem XX {op who nop nn nwho : Int} {nA : Option Addr} {nl nc : Nat} {name : List UInt8} {cop cwho : Int} {cname : List UInt8} {cA : Option Addr} {cla cca : Nat} {cB : Option Addr} {clb ccb : Nat} {TA : Option Addr} {la ca : Nat} {EB : Option Addr} {lb cb : Nat} {n : NumT} {cond : CondT} {thn els : List EffT}
  (hn : NumR m (n4 nop nn nwho nA nl nc) n) (hc : CondR m (c5 cop cwho cname cA cla cca cB clb ccb) cond) (iC : CondD m b (c5 cop cwho cname cA cla cca cB clb ccb) cond) (hnm : name.length ≤ 140737488355328) (hla : thn.length = la) (hlb : els.length = lb) (hla2 : la ≤ 140737488355328) (hlb2 : lb ≤ 140737488355328)
  (hbt : BlkD m b TA la ca thn) (hbe : BlkD m b EB lb cb els) (hop : op = 3) : EffD m b (e14 op who nop nn nwho nA nl nc name cop cwho cname cA cla cca cB clb ccb TA la ca EB lb cb) (.mk op who n name cond thn els) := by
 intro m0 hm0 p d q hp hd hq;refine zn [.tmp 4] Tryz.func96 rfl rfl rfl ?_;refine tr 2 ?_;refine Bx 4 rfl fun b1 => ?_;refine zI .here (fun ns hi _ hd1 => ?_);have hR : Rd (uni m0 ns) (some ⟨b1, 0, none⟩) (e14 op who nop nn nwho nA nl nc name cop cwho cname cA cla cca cB clb ccb TA la ca EB lb cb) := (Rd.blk hi).mono (zP hd1)
 have haN : At (uni m0 ns) ⟨b1, 2, none⟩ (n4 nop nn nwho nA nl nc) := (At.blkO (o := 2) (k := 4) hi).mono (zP hd1);have haC : At (uni m0 ns) ⟨b1, 7, none⟩ (c5 cop cwho cname cA cla cca cB clb ccb) := (At.blkO (o := 7) (k := 5) hi).mono (zP hd1);have hl2 : Le m0 (uni m0 ns) := zN _ _;clear hi hd1;generalize uni m0 ns = m9 at hR hl2 haN haC;have hl9 := hm0.trans hl2;have hn := hn.mono hl9
 have hc := hc.mono hl9;have hbt := hbt.mono hl9;have hbe := hbe.mono hl9;have iN : NumD m9 b _ n := num121 (b := b) hn;have iC := iC.mono hl9;have hc0 : mc m9 ⟨b1, 0, none⟩ = some (.int .i8 op) := hR.at_ (i := 0) rfl;have hc1 : mc m9 ⟨b1, 1, none⟩ = some (.int .i8 who) := hR.at_ (i := 1) rfl;have hc6 : mc m9 ⟨b1, 3 + 3, none⟩ = some (.string (bs name)) := hR.at_ (i := 6) rfl
 have hc6' : mc m9 ⟨b1, 6, none⟩ = some (.string (bs name)) := hc6;have hc12 : mc m9 ⟨b1, 12, none⟩ = some (.slice TA la ca) := hR.at_ (i := 12) rfl;have hc13 : mc m9 ⟨b1, 13, none⟩ = some (.slice EB lb cb) := hR.at_ (i := 13) rfl;have hw1 := yC (.mk op who n name cond thn els);refine tr 2 ?_;refine zC ((zF cl117 rfl .k0 (fun m' hm he => part117 (by omega)) rfl ?_)) rfl
 rintro _ _ ⟨rfl, rfl⟩;cases q with
 | true =>
   rw [Bool.true_or];refine vr 8 ?_;refine Lb 10 sg4 .here ?_;exact zB hl2 [_] ⟨rfl, trivial⟩ [_] .p0 ⟨[], p + 1, true, rfl, rfl, Out.stop (by omega)⟩
 | false =>
 have hd := hq rfl;rw [Bool.false_or];by_cases hp2 : 200 < p + 1
 ·rw [decide_eq_true hp2];refine vr 8 ?_;refine Lb 10 sg4 .here ?_;exact zB hl2 [_] ⟨rfl, trivial⟩ [_] .p0 ⟨[], p + 1, true, rfl, rfl, Out.over hp2 (by omega)⟩
 rw [decide_eq_false hp2];have hp1 : p + 1 ≤ 200 := by omega
 subst hop;have hwn : effW (.mk 3 who n name cond thn els) = 1 + numW n := yv (by decide);by_cases hw0 : who = 0
 rotate_left
 ·refine vr 8 ?_;refine Lb 8 sg4 .here ?_;refine Lo 0 sg42 rfl hc0 ?_;refine cfo 2 ?_;refine Lo 0 sg42 rfl hc0 ?_;refine cfo 3 ?_;refine Lo 0 sg42 rfl hc0 ?_;refine cfo 3 ?_;refine Lo 0 sg42 rfl hc0 ?_;refine ctr 12 ?_;refine Lo 0 sg42 rfl hc0 ?_;refine cfo 2 ?_;refine Lo 0 sg42 rfl hc0 ?_;refine cfo 3 ?_;refine Lo 0 sg42 rfl hc0 ?_;refine cfo 3 ?_;refine Lo 0 sg42 rfl hc0 ?_;refine cfo 3 ?_
  refine Lo 0 sg42 rfl hc0 ?_;refine cfo 20 ?_;refine Lo 0 sg42 rfl hc1 ?_;refine cta 43 ?_;refine Sr 9 co4 .here .h2 ?_;exact zB hl2 [_] ⟨rfl, trivial⟩ [_] .p0 ⟨[], p + 1, true, rfl, rfl, zm (xb (by decide) hw0) (by decide)⟩
 subst hw0;by_cases hname : name = []
 rotate_left
 ·refine vr 8 ?_;refine Lb 8 sg4 .here ?_;refine Lo 0 sg42 rfl hc0 ?_;refine cfo 2 ?_;refine Lo 0 sg42 rfl hc0 ?_;refine cfo 3 ?_;refine Lo 0 sg42 rfl hc0 ?_;refine cfo 3 ?_;refine Lo 0 sg42 rfl hc0 ?_;refine ctr 12 ?_;refine Lo 0 sg42 rfl hc0 ?_;refine cfo 2 ?_;refine Lo 0 sg42 rfl hc0 ?_;refine cfo 3 ?_;refine Lo 0 sg42 rfl hc0 ?_;refine cfo 3 ?_;refine Lo 0 sg42 rfl hc0 ?_;refine cfo 3 ?_
  refine Lo 0 sg42 rfl hc0 ?_;refine cfo 20 ?_;refine Lo 0 sg42 rfl hc1 ?_;refine cfo 4 ?_;refine Lo 0 sg42 rfl hc0 ?_;refine cto 2 ?_;refine Lo 0 sg9 rfl hc6' ?_;refine cta 33 ?_;refine Sr 9 co4 .here .h2 ?_;exact zB hl2 [_] ⟨rfl, trivial⟩ [_] .p0 ⟨[], p + 1, true, rfl, rfl, zm (yN (by decide) (by decide) hname) (by decide)⟩
 subst hname;refine vr 8 ?_;refine Lb 8 sg4 .here ?_;refine Lo 0 sg42 rfl hc0 ?_;refine cfo 2 ?_;refine Lo 0 sg42 rfl hc0 ?_;refine cfo 3 ?_;refine Lo 0 sg42 rfl hc0 ?_;refine cfo 3 ?_;refine Lo 0 sg42 rfl hc0 ?_;refine ctr 12 ?_;refine Lo 0 sg42 rfl hc0 ?_;refine cfo 2 ?_;refine Lo 0 sg42 rfl hc0 ?_;refine cfo 3 ?_;refine Lo 0 sg42 rfl hc0 ?_;refine cfo 3 ?_;refine Lo 0 sg42 rfl hc0 ?_
 refine cfo 3 ?_;refine Lo 0 sg42 rfl hc0 ?_;refine cfo 20 ?_;refine Lo 0 sg42 rfl hc1 ?_;refine cfo 4 ?_;refine Lo 0 sg42 rfl hc0 ?_;refine cto 2 ?_;refine Lo 0 sg9 rfl hc6' ?_;refine cf 4 rfl (by decide) ?_;refine Lo 0 sg42 rfl hc0 ?_;refine cto 2 ?_;refine La 0 ag48 haC ?_;refine Cr cl119 rfl (fun m' hm he => (zeroCondR hc)) ?_;rintro _ rfl;cases hzc : zeroC cond with
 | false =>
   refine vr 23 ?_;refine Sr 9 co4 .here .h2 ?_;exact zB hl2 [_] ⟨rfl, trivial⟩ [_] .p0 ⟨[], p + 1, true, rfl, rfl, zm (zZ (by decide) (fun h => by rw [h.1] at hzc; cases hzc)) (by decide)⟩
 | true =>
 by_cases hla0 : la = 0
 rotate_left
 ·refine vr 3 ?_;refine Lo 1 sg38 rfl hc12 ?_;refine cto 17 ?_;refine Sr 9 co4 .here .h2 ?_;exact zB hl2 [_] ⟨rfl, trivial⟩ [_] .p0 ⟨[], p + 1, true, rfl, rfl, zm (zZ (by decide) (fun h => by have := h.2; omega)) (by decide)⟩
 by_cases hlb0 : lb = 0
 rotate_left
 ·refine vr 3 ?_;refine Lo 1 sg38 rfl hc12 ?_;refine cfo 3 ?_;refine Lo 1 sg38 rfl hc13 ?_;refine cto 11 ?_;refine Sr 9 co4 .here .h2 ?_;exact zB hl2 [_] ⟨rfl, trivial⟩ [_] .p0 ⟨[], p + 1, true, rfl, rfl, zm (zZ (by decide) (fun h => by have := h.2; omega)) (by decide)⟩
 have hb : bareE cond thn els := ⟨hzc, by omega⟩;refine vr 3 ?_;refine Lo 1 sg38 rfl hc12 ?_;refine cfo 3 ?_;refine Lo 1 sg38 rfl hc13 ?_;refine cfo 11 ?_;refine Lo 0 sg42 rfl hc1 ?_;refine Cr cl120 rfl (fun m' hm he => side120) ?_;rintro _ rfl;rw [show sideV 0 = .tuple #[.string (bs sMe), .bool true] from rfl];refine vr 11 ?_;refine Lo 0 sg42 rfl hc1 ?_;refine cfo 25 ?_
 refine Sr 6 co4 .here .h2 ?_;refine Lo 5 sg42 rfl hc0 ?_;refine cfo 6 ?_;refine cfo 6 ?_;refine cfo 6 ?_;refine ctr 8 ?_;refine La 0 ag45 haN ?_;refine zC ((zF cl121 rfl .k0 (fun m' hm he => iN m' hm (p + 1) d false (by omega) (by omega) (fun _ => hd)) rfl ?_)) rfl;rintro _ _ ⟨t, p2, q2, rfl, rfl, h2⟩;have htl := h2.len;refine Ps 0 ?_;refine Ps 6 ?_
 have e2 : [103, 97, 105, 110, 32] ++ t ++ [59] = sGain ++ sSp ++ t ++ sSemi := by simp
 rw [e2, qA hb, hwn];exact zB hl2 [_] ⟨rfl, trivial⟩ [_] .p0 ⟨_, p2, q2, rfl, rfl, (((h2.map (g := fun s => sGain ++ sSp ++ s ++ sSemi) (k := 6) (by simp)).le (by omega) (Nat.zero_le _))).one rfl⟩
theorem XV {op who nop nn nwho : Int} {nA : Option Addr} {nl nc : Nat} {name : List UInt8} {cop cwho : Int} {cname : List UInt8} {cA : Option Addr} {cla cca : Nat} {cB : Option Addr} {clb ccb : Nat} {TA : Option Addr} {la ca : Nat} {EB : Option Addr} {lb cb : Nat} {n : NumT} {cond : CondT} {thn els : List EffT}
  (hn : NumR m (n4 nop nn nwho nA nl nc) n) (hc : CondR m (c5 cop cwho cname cA cla cca cB clb ccb) cond) (iC : CondD m b (c5 cop cwho cname cA cla cca cB clb ccb) cond) (hnm : name.length ≤ 140737488355328) (hla : thn.length = la) (hlb : els.length = lb) (hla2 : la ≤ 140737488355328) (hlb2 : lb ≤ 140737488355328)
  (hbt : BlkD m b TA la ca thn) (hbe : BlkD m b EB lb cb els) (hop : op = 5) : EffD m b (e14 op who nop nn nwho nA nl nc name cop cwho cname cA cla cca cB clb ccb TA la ca EB lb cb) (.mk op who n name cond thn els) := by
 intro m0 hm0 p d q hp hd hq;refine zn [.tmp 4] Tryz.func96 rfl rfl rfl ?_;refine tr 2 ?_;refine Bx 4 rfl fun b1 => ?_;refine zI .here (fun ns hi _ hd1 => ?_);have hR : Rd (uni m0 ns) (some ⟨b1, 0, none⟩) (e14 op who nop nn nwho nA nl nc name cop cwho cname cA cla cca cB clb ccb TA la ca EB lb cb) := (Rd.blk hi).mono (zP hd1)
 have haN : At (uni m0 ns) ⟨b1, 2, none⟩ (n4 nop nn nwho nA nl nc) := (At.blkO (o := 2) (k := 4) hi).mono (zP hd1);have haC : At (uni m0 ns) ⟨b1, 7, none⟩ (c5 cop cwho cname cA cla cca cB clb ccb) := (At.blkO (o := 7) (k := 5) hi).mono (zP hd1);have hl2 : Le m0 (uni m0 ns) := zN _ _;clear hi hd1;generalize uni m0 ns = m9 at hR hl2 haN haC;have hl9 := hm0.trans hl2;have hn := hn.mono hl9
 have hc := hc.mono hl9;have hbt := hbt.mono hl9;have hbe := hbe.mono hl9;have iN : NumD m9 b _ n := num121 (b := b) hn;have iC := iC.mono hl9;have hc0 : mc m9 ⟨b1, 0, none⟩ = some (.int .i8 op) := hR.at_ (i := 0) rfl;have hc1 : mc m9 ⟨b1, 1, none⟩ = some (.int .i8 who) := hR.at_ (i := 1) rfl;have hc6 : mc m9 ⟨b1, 3 + 3, none⟩ = some (.string (bs name)) := hR.at_ (i := 6) rfl
 have hc6' : mc m9 ⟨b1, 6, none⟩ = some (.string (bs name)) := hc6;have hc12 : mc m9 ⟨b1, 12, none⟩ = some (.slice TA la ca) := hR.at_ (i := 12) rfl;have hc13 : mc m9 ⟨b1, 13, none⟩ = some (.slice EB lb cb) := hR.at_ (i := 13) rfl;have hw1 := yC (.mk op who n name cond thn els);refine tr 2 ?_;refine zC ((zF cl117 rfl .k0 (fun m' hm he => part117 (by omega)) rfl ?_)) rfl
 rintro _ _ ⟨rfl, rfl⟩;cases q with
 | true =>
   rw [Bool.true_or];refine vr 8 ?_;refine Lb 10 sg4 .here ?_;exact zB hl2 [_] ⟨rfl, trivial⟩ [_] .p0 ⟨[], p + 1, true, rfl, rfl, Out.stop (by omega)⟩
 | false =>
 have hd := hq rfl;rw [Bool.false_or];by_cases hp2 : 200 < p + 1
 ·rw [decide_eq_true hp2];refine vr 8 ?_;refine Lb 10 sg4 .here ?_;exact zB hl2 [_] ⟨rfl, trivial⟩ [_] .p0 ⟨[], p + 1, true, rfl, rfl, Out.over hp2 (by omega)⟩
 rw [decide_eq_false hp2];have hp1 : p + 1 ≤ 200 := by omega
 subst hop;have hwn : effW (.mk 5 who n name cond thn els) = 1 + numW n := yv (by decide);by_cases hw0 : who = 0
 rotate_left
 ·refine vr 8 ?_;refine Lb 8 sg4 .here ?_;refine Lo 0 sg42 rfl hc0 ?_;refine cfo 2 ?_;refine Lo 0 sg42 rfl hc0 ?_;refine cfo 3 ?_;refine Lo 0 sg42 rfl hc0 ?_;refine cfo 3 ?_;refine Lo 0 sg42 rfl hc0 ?_;refine cfo 3 ?_;refine Lo 0 sg42 rfl hc0 ?_;refine ctr 7 ?_;refine Lo 0 sg42 rfl hc0 ?_;refine cfo 2 ?_;refine Lo 0 sg42 rfl hc0 ?_;refine cfo 3 ?_;refine Lo 0 sg42 rfl hc0 ?_;refine cfo 3 ?_
  refine Lo 0 sg42 rfl hc0 ?_;refine cfo 3 ?_;refine Lo 0 sg42 rfl hc0 ?_;refine cfo 20 ?_;refine Lo 0 sg42 rfl hc1 ?_;refine cta 43 ?_;refine Sr 9 co4 .here .h2 ?_;exact zB hl2 [_] ⟨rfl, trivial⟩ [_] .p0 ⟨[], p + 1, true, rfl, rfl, zm (xb (by decide) hw0) (by decide)⟩
 subst hw0;by_cases hname : name = []
 rotate_left
 ·refine vr 8 ?_;refine Lb 8 sg4 .here ?_;refine Lo 0 sg42 rfl hc0 ?_;refine cfo 2 ?_;refine Lo 0 sg42 rfl hc0 ?_;refine cfo 3 ?_;refine Lo 0 sg42 rfl hc0 ?_;refine cfo 3 ?_;refine Lo 0 sg42 rfl hc0 ?_;refine cfo 3 ?_;refine Lo 0 sg42 rfl hc0 ?_;refine ctr 7 ?_;refine Lo 0 sg42 rfl hc0 ?_;refine cfo 2 ?_;refine Lo 0 sg42 rfl hc0 ?_;refine cfo 3 ?_;refine Lo 0 sg42 rfl hc0 ?_;refine cfo 3 ?_
  refine Lo 0 sg42 rfl hc0 ?_;refine cfo 3 ?_;refine Lo 0 sg42 rfl hc0 ?_;refine cfo 20 ?_;refine Lo 0 sg42 rfl hc1 ?_;refine cfo 4 ?_;refine Lo 0 sg42 rfl hc0 ?_;refine cto 2 ?_;refine Lo 0 sg9 rfl hc6' ?_;refine cta 33 ?_;refine Sr 9 co4 .here .h2 ?_;exact zB hl2 [_] ⟨rfl, trivial⟩ [_] .p0 ⟨[], p + 1, true, rfl, rfl, zm (yN (by decide) (by decide) hname) (by decide)⟩
 subst hname;refine vr 8 ?_;refine Lb 8 sg4 .here ?_;refine Lo 0 sg42 rfl hc0 ?_;refine cfo 2 ?_;refine Lo 0 sg42 rfl hc0 ?_;refine cfo 3 ?_;refine Lo 0 sg42 rfl hc0 ?_;refine cfo 3 ?_;refine Lo 0 sg42 rfl hc0 ?_;refine cfo 3 ?_;refine Lo 0 sg42 rfl hc0 ?_;refine ctr 7 ?_;refine Lo 0 sg42 rfl hc0 ?_;refine cfo 2 ?_;refine Lo 0 sg42 rfl hc0 ?_;refine cfo 3 ?_;refine Lo 0 sg42 rfl hc0 ?_
 refine cfo 3 ?_;refine Lo 0 sg42 rfl hc0 ?_;refine cfo 3 ?_;refine Lo 0 sg42 rfl hc0 ?_;refine cfo 20 ?_;refine Lo 0 sg42 rfl hc1 ?_;refine cfo 4 ?_;refine Lo 0 sg42 rfl hc0 ?_;refine cto 2 ?_;refine Lo 0 sg9 rfl hc6' ?_;refine cf 4 rfl (by decide) ?_;refine Lo 0 sg42 rfl hc0 ?_;refine cto 2 ?_;refine La 0 ag48 haC ?_;refine Cr cl119 rfl (fun m' hm he => (zeroCondR hc)) ?_;rintro _ rfl
 cases hzc : zeroC cond with
 | false =>
   refine vr 23 ?_;refine Sr 9 co4 .here .h2 ?_;exact zB hl2 [_] ⟨rfl, trivial⟩ [_] .p0 ⟨[], p + 1, true, rfl, rfl, zm (zZ (by decide) (fun h => by rw [h.1] at hzc; cases hzc)) (by decide)⟩
 | true =>
 by_cases hla0 : la = 0
 rotate_left
 ·refine vr 3 ?_;refine Lo 1 sg38 rfl hc12 ?_;refine cto 17 ?_;refine Sr 9 co4 .here .h2 ?_;exact zB hl2 [_] ⟨rfl, trivial⟩ [_] .p0 ⟨[], p + 1, true, rfl, rfl, zm (zZ (by decide) (fun h => by have := h.2; omega)) (by decide)⟩
 by_cases hlb0 : lb = 0
 rotate_left
 ·refine vr 3 ?_;refine Lo 1 sg38 rfl hc12 ?_;refine cfo 3 ?_;refine Lo 1 sg38 rfl hc13 ?_;refine cto 11 ?_;refine Sr 9 co4 .here .h2 ?_;exact zB hl2 [_] ⟨rfl, trivial⟩ [_] .p0 ⟨[], p + 1, true, rfl, rfl, zm (zZ (by decide) (fun h => by have := h.2; omega)) (by decide)⟩
 have hb : bareE cond thn els := ⟨hzc, by omega⟩;refine vr 3 ?_;refine Lo 1 sg38 rfl hc12 ?_;refine cfo 3 ?_;refine Lo 1 sg38 rfl hc13 ?_;refine cfo 11 ?_;refine Lo 0 sg42 rfl hc1 ?_;refine Cr cl120 rfl (fun m' hm he => side120) ?_;rintro _ rfl;rw [show sideV 0 = .tuple #[.string (bs sMe), .bool true] from rfl];refine vr 11 ?_;refine Lo 0 sg42 rfl hc1 ?_;refine cfo 25 ?_
 refine Sr 6 co4 .here .h2 ?_;refine Lo 5 sg42 rfl hc0 ?_;refine cfo 6 ?_;refine cfo 6 ?_;refine cfo 6 ?_;refine cfo 6 ?_;refine ctr 8 ?_;refine La 0 ag45 haN ?_;refine zC ((zF cl121 rfl .k0 (fun m' hm he => iN m' hm (p + 1) d false (by omega) (by omega) (fun _ => hd)) rfl ?_)) rfl;rintro _ _ ⟨t, p2, q2, rfl, rfl, h2⟩;have htl := h2.len;refine Ps 0 ?_;refine Ps 6 ?_
 have e2 : [108, 111, 111, 107, 32] ++ t ++ [59] = sLook ++ sSp ++ t ++ sSemi := by simp
 rw [e2, u9 hb, hwn];exact zB hl2 [_] ⟨rfl, trivial⟩ [_] .p0 ⟨_, p2, q2, rfl, rfl, (((h2.map (g := fun s => sLook ++ sSp ++ s ++ sSemi) (k := 6) (by simp)).le (by omega) (Nat.zero_le _))).one rfl⟩
end
section
open Wd Tp Kd
variable {m : Mp} {b d p : Nat} {q : Bool}
theorem XZ {op who nop nn nwho : Int} {nA : Option Addr} {nl nc : Nat} {name : List UInt8} {cop cwho : Int} {cname : List UInt8} {cA : Option Addr} {cla cca : Nat} {cB : Option Addr} {clb ccb : Nat} {TA : Option Addr} {la ca : Nat} {EB : Option Addr} {lb cb : Nat} {n : NumT} {cond : CondT} {thn els : List EffT}
  (hn : NumR m (n4 nop nn nwho nA nl nc) n) (hc : CondR m (c5 cop cwho cname cA cla cca cB clb ccb) cond) (iC : CondD m b (c5 cop cwho cname cA cla cca cB clb ccb) cond) (hnm : name.length ≤ 140737488355328) (hla : thn.length = la) (hlb : els.length = lb) (hla2 : la ≤ 140737488355328) (hlb2 : lb ≤ 140737488355328)
  (hbt : BlkD m b TA la ca thn) (hbe : BlkD m b EB lb cb els) (hop : op = 4) : EffD m b (e14 op who nop nn nwho nA nl nc name cop cwho cname cA cla cca cB clb ccb TA la ca EB lb cb) (.mk op who n name cond thn els) := by
 intro m0 hm0 p d q hp hd hq;refine zn [.tmp 4] Tryz.func96 rfl rfl rfl ?_;refine tr 2 ?_;refine Bx 4 rfl fun b1 => ?_;refine zI .here (fun ns hi _ hd1 => ?_);have hR : Rd (uni m0 ns) (some ⟨b1, 0, none⟩) (e14 op who nop nn nwho nA nl nc name cop cwho cname cA cla cca cB clb ccb TA la ca EB lb cb) := (Rd.blk hi).mono (zP hd1)
 have haN : At (uni m0 ns) ⟨b1, 2, none⟩ (n4 nop nn nwho nA nl nc) := (At.blkO (o := 2) (k := 4) hi).mono (zP hd1);have haC : At (uni m0 ns) ⟨b1, 7, none⟩ (c5 cop cwho cname cA cla cca cB clb ccb) := (At.blkO (o := 7) (k := 5) hi).mono (zP hd1);have hl2 : Le m0 (uni m0 ns) := zN _ _;clear hi hd1;generalize uni m0 ns = m9 at hR hl2 haN haC;have hl9 := hm0.trans hl2;have hn := hn.mono hl9
 have hc := hc.mono hl9;have hbt := hbt.mono hl9;have hbe := hbe.mono hl9;have iN : NumD m9 b _ n := num121 (b := b) hn;have iC := iC.mono hl9;have hc0 : mc m9 ⟨b1, 0, none⟩ = some (.int .i8 op) := hR.at_ (i := 0) rfl;have hc1 : mc m9 ⟨b1, 1, none⟩ = some (.int .i8 who) := hR.at_ (i := 1) rfl;have hc6 : mc m9 ⟨b1, 3 + 3, none⟩ = some (.string (bs name)) := hR.at_ (i := 6) rfl
 have hc6' : mc m9 ⟨b1, 6, none⟩ = some (.string (bs name)) := hc6;have hc12 : mc m9 ⟨b1, 12, none⟩ = some (.slice TA la ca) := hR.at_ (i := 12) rfl;have hc13 : mc m9 ⟨b1, 13, none⟩ = some (.slice EB lb cb) := hR.at_ (i := 13) rfl;have hw1 := yC (.mk op who n name cond thn els);refine tr 2 ?_;refine zC ((zF cl117 rfl .k0 (fun m' hm he => part117 (by omega)) rfl ?_)) rfl
 rintro _ _ ⟨rfl, rfl⟩;cases q with
 | true =>
   rw [Bool.true_or];refine vr 8 ?_;refine Lb 10 sg4 .here ?_;exact zB hl2 [_] ⟨rfl, trivial⟩ [_] .p0 ⟨[], p + 1, true, rfl, rfl, Out.stop (by omega)⟩
 | false =>
 have hd := hq rfl;rw [Bool.false_or];by_cases hp2 : 200 < p + 1
 ·rw [decide_eq_true hp2];refine vr 8 ?_;refine Lb 10 sg4 .here ?_;exact zB hl2 [_] ⟨rfl, trivial⟩ [_] .p0 ⟨[], p + 1, true, rfl, rfl, Out.over hp2 (by omega)⟩
 rw [decide_eq_false hp2];have hp1 : p + 1 ≤ 200 := by omega
 subst hop;have hwn : effW (.mk 4 who n name cond thn els) = 1 := xV (by decide) (by decide);refine vr 8 ?_;refine Lb 8 sg4 .here ?_;refine Lo 0 sg42 rfl hc0 ?_;refine cfo 2 ?_;refine Lo 0 sg42 rfl hc0 ?_;refine cfo 3 ?_;refine Lo 0 sg42 rfl hc0 ?_;refine cfo 3 ?_;refine Lo 0 sg42 rfl hc0 ?_;refine cfo 3 ?_;refine Lo 0 sg42 rfl hc0 ?_;refine cfo 7 ?_;refine Lo 0 sg42 rfl hc0 ?_
 refine cfo 2 ?_;refine Lo 0 sg42 rfl hc0 ?_;refine cfo 3 ?_;refine Lo 0 sg42 rfl hc0 ?_;refine cfo 3 ?_;refine Lo 0 sg42 rfl hc0 ?_;refine ctr 16 ?_;refine La 0 ag45 haN ?_;refine Cr cl118 rfl (fun m' hm he => (zeroNumR hn)) ?_;rintro _ rfl;cases hz : zeroN n with
 | false =>
   refine vr 52 ?_;refine Sr 9 co4 .here .h2 ?_;exact zB hl2 [_] ⟨rfl, trivial⟩ [_] .p0 ⟨[], p + 1, true, rfl, rfl, zm (xd (by decide) hz) (by decide)⟩
 | true =>
 by_cases hname : name = []
 rotate_left
 ·refine vr 13 ?_;refine Lo 0 sg42 rfl hc0 ?_;refine cto 2 ?_;refine Lo 0 sg9 rfl hc6' ?_;refine cta 33 ?_;refine Sr 9 co4 .here .h2 ?_;exact zB hl2 [_] ⟨rfl, trivial⟩ [_] .p0 ⟨[], p + 1, true, rfl, rfl, zm (yN (by decide) (by decide) hname) (by decide)⟩
 subst hname;refine vr 13 ?_;refine Lo 0 sg42 rfl hc0 ?_;refine cto 2 ?_;refine Lo 0 sg9 rfl hc6' ?_;refine cf 4 rfl (by decide) ?_;refine Lo 0 sg42 rfl hc0 ?_;refine cto 2 ?_;refine La 0 ag48 haC ?_;refine Cr cl119 rfl (fun m' hm he => (zeroCondR hc)) ?_;rintro _ rfl;cases hzc : zeroC cond with
 | false =>
   refine vr 23 ?_;refine Sr 9 co4 .here .h2 ?_;exact zB hl2 [_] ⟨rfl, trivial⟩ [_] .p0 ⟨[], p + 1, true, rfl, rfl, zm (zZ (by decide) (fun h => by rw [h.1] at hzc; cases hzc)) (by decide)⟩
 | true =>
 by_cases hla0 : la = 0
 rotate_left
 ·refine vr 3 ?_;refine Lo 1 sg38 rfl hc12 ?_;refine cto 17 ?_;refine Sr 9 co4 .here .h2 ?_;exact zB hl2 [_] ⟨rfl, trivial⟩ [_] .p0 ⟨[], p + 1, true, rfl, rfl, zm (zZ (by decide) (fun h => by have := h.2; omega)) (by decide)⟩
 by_cases hlb0 : lb = 0
 rotate_left
 ·refine vr 3 ?_;refine Lo 1 sg38 rfl hc12 ?_;refine cfo 3 ?_;refine Lo 1 sg38 rfl hc13 ?_;refine cto 11 ?_;refine Sr 9 co4 .here .h2 ?_;exact zB hl2 [_] ⟨rfl, trivial⟩ [_] .p0 ⟨[], p + 1, true, rfl, rfl, zm (zZ (by decide) (fun h => by have := h.2; omega)) (by decide)⟩
 have hb : bareE cond thn els := ⟨hzc, by omega⟩;refine vr 3 ?_;refine Lo 1 sg38 rfl hc12 ?_;refine cfo 3 ?_;refine Lo 1 sg38 rfl hc13 ?_;refine cfo 11 ?_;refine Lo 0 sg42 rfl hc1 ?_;refine Cr cl120 rfl (fun m' hm he => side120) ?_;rintro _ rfl;by_cases hw2 : who = 2
 ·have hs : sideP who = none := by rw [hw2]; rfl
  rw [show sideV who = .tuple #[.string (bs []), .bool false] by unfold sideV; rw [hs]; rfl];refine vr 11 ?_;refine Lo 0 sg42 rfl hc1 ?_;refine cta 2 ?_;refine Lo 0 sg42 rfl hc0 ?_;refine cfo 2 ?_;refine Lo 0 sg42 rfl hc0 ?_;refine cfo 17 ?_;refine Sr 6 co4 .here .h2 ?_;refine Lo 5 sg42 rfl hc0 ?_;refine cfo 6 ?_;refine cfo 6 ?_;refine cfo 6 ?_;refine cfo 6 ?_;refine cfo 6 ?_;refine ctr 7 ?_
  refine Ps 0 ?_;refine Ps 6 ?_;have e2 : [100, 114, 111, 112, 32] ++ [] ++ [59] = sDrop ++ sSp ++ [] ++ sSemi := by simp
  rw [e2, wn hb hz, hwn];exact zB hl2 [_] ⟨rfl, trivial⟩ [_] .p0 ⟨_, p + 1, true, rfl, rfl, ((Out.map (c := 6) (H := 0) (g := fun s => sDrop ++ sSp ++ s ++ sSemi) (k := 6) (Out.opt hp1 (by decide) (fun h => by cases h) (fun _ => hs)) (by simp)).le (by omega) (Nat.zero_le _)).one rfl⟩
 cases hs : sideP who with
 | none =>
   rw [show sideV who = .tuple #[.string (bs []), .bool false] by unfold sideV; rw [hs]; rfl];refine vr 11 ?_;refine Lo 0 sg42 rfl hc1 ?_;refine cfa 25 ?_;refine Sr 6 co4 .here .h2 ?_;refine Lo 5 sg42 rfl hc0 ?_;refine cfo 6 ?_;refine cfo 6 ?_;refine cfo 6 ?_;refine cfo 6 ?_;refine cfo 6 ?_;refine ctr 7 ?_;refine Ps 0 ?_;refine Ps 6 ?_
   have e2 : [100, 114, 111, 112, 32] ++ [] ++ [59] = sDrop ++ sSp ++ [] ++ sSemi := by simp
   rw [e2, wn hb hz, hwn];exact zB hl2 [_] ⟨rfl, trivial⟩ [_] .p0 ⟨_, p + 1, true, rfl, rfl, ((Out.map (c := 6) (H := 0) (g := fun s => sDrop ++ sSp ++ s ++ sSemi) (k := 6) (Out.opt hp1 (by decide) (fun h => by cases h) (fun _ => hs)) (by simp)).le (by omega) (Nat.zero_le _)).one rfl⟩
 | some s =>
   have hsl := zx hs;rw [show sideV who = .tuple #[.string (bs s), .bool true] by unfold sideV; rw [hs]; rfl];refine vr 11 ?_;refine Lo 0 sg42 rfl hc1 ?_;refine cfa 25 ?_;refine Sr 6 co4 .here .h2 ?_;refine Lo 5 sg42 rfl hc0 ?_;refine cfo 6 ?_;refine cfo 6 ?_;refine cfo 6 ?_;refine cfo 6 ?_;refine cfo 6 ?_;refine ctr 7 ?_;refine Ps 0 ?_;refine Ps 6 ?_
   have e2 : [100, 114, 111, 112, 32] ++ s ++ [59] = sDrop ++ sSp ++ s ++ sSemi := by simp
   rw [e2, wn hb hz, hwn];exact zB hl2 [_] ⟨rfl, trivial⟩ [_] .p0 ⟨_, p + 1, false, rfl, rfl, ((Out.map (c := 6) (H := 0) (g := fun s => sDrop ++ sSp ++ s ++ sSemi) (k := 6) (Out.opt hp1 (by omega) (fun _ => hs) (fun h => by cases h)) (by simp)).le (by omega) (Nat.zero_le _)).one rfl⟩
theorem XT {op who nop nn nwho : Int} {nA : Option Addr} {nl nc : Nat} {name : List UInt8} {cop cwho : Int} {cname : List UInt8} {cA : Option Addr} {cla cca : Nat} {cB : Option Addr} {clb ccb : Nat} {TA : Option Addr} {la ca : Nat} {EB : Option Addr} {lb cb : Nat} {n : NumT} {cond : CondT} {thn els : List EffT}
  (hn : NumR m (n4 nop nn nwho nA nl nc) n) (hc : CondR m (c5 cop cwho cname cA cla cca cB clb ccb) cond) (iC : CondD m b (c5 cop cwho cname cA cla cca cB clb ccb) cond) (hnm : name.length ≤ 140737488355328) (hla : thn.length = la) (hlb : els.length = lb) (hla2 : la ≤ 140737488355328) (hlb2 : lb ≤ 140737488355328)
  (hbt : BlkD m b TA la ca thn) (hbe : BlkD m b EB lb cb els) (hop : op = 6) : EffD m b (e14 op who nop nn nwho nA nl nc name cop cwho cname cA cla cca cB clb ccb TA la ca EB lb cb) (.mk op who n name cond thn els) := by
 intro m0 hm0 p d q hp hd hq;refine zn [.tmp 4] Tryz.func96 rfl rfl rfl ?_;refine tr 2 ?_;refine Bx 4 rfl fun b1 => ?_;refine zI .here (fun ns hi _ hd1 => ?_);have hR : Rd (uni m0 ns) (some ⟨b1, 0, none⟩) (e14 op who nop nn nwho nA nl nc name cop cwho cname cA cla cca cB clb ccb TA la ca EB lb cb) := (Rd.blk hi).mono (zP hd1)
 have haN : At (uni m0 ns) ⟨b1, 2, none⟩ (n4 nop nn nwho nA nl nc) := (At.blkO (o := 2) (k := 4) hi).mono (zP hd1);have haC : At (uni m0 ns) ⟨b1, 7, none⟩ (c5 cop cwho cname cA cla cca cB clb ccb) := (At.blkO (o := 7) (k := 5) hi).mono (zP hd1);have hl2 : Le m0 (uni m0 ns) := zN _ _;clear hi hd1;generalize uni m0 ns = m9 at hR hl2 haN haC;have hl9 := hm0.trans hl2;have hn := hn.mono hl9
 have hc := hc.mono hl9;have hbt := hbt.mono hl9;have hbe := hbe.mono hl9;have iN : NumD m9 b _ n := num121 (b := b) hn;have iC := iC.mono hl9;have hc0 : mc m9 ⟨b1, 0, none⟩ = some (.int .i8 op) := hR.at_ (i := 0) rfl;have hc1 : mc m9 ⟨b1, 1, none⟩ = some (.int .i8 who) := hR.at_ (i := 1) rfl;have hc6 : mc m9 ⟨b1, 3 + 3, none⟩ = some (.string (bs name)) := hR.at_ (i := 6) rfl
 have hc6' : mc m9 ⟨b1, 6, none⟩ = some (.string (bs name)) := hc6;have hc12 : mc m9 ⟨b1, 12, none⟩ = some (.slice TA la ca) := hR.at_ (i := 12) rfl;have hc13 : mc m9 ⟨b1, 13, none⟩ = some (.slice EB lb cb) := hR.at_ (i := 13) rfl;have hw1 := yC (.mk op who n name cond thn els);refine tr 2 ?_;refine zC ((zF cl117 rfl .k0 (fun m' hm he => part117 (by omega)) rfl ?_)) rfl
 rintro _ _ ⟨rfl, rfl⟩;cases q with
 | true =>
   rw [Bool.true_or];refine vr 8 ?_;refine Lb 10 sg4 .here ?_;exact zB hl2 [_] ⟨rfl, trivial⟩ [_] .p0 ⟨[], p + 1, true, rfl, rfl, Out.stop (by omega)⟩
 | false =>
 have hd := hq rfl;rw [Bool.false_or];by_cases hp2 : 200 < p + 1
 ·rw [decide_eq_true hp2];refine vr 8 ?_;refine Lb 10 sg4 .here ?_;exact zB hl2 [_] ⟨rfl, trivial⟩ [_] .p0 ⟨[], p + 1, true, rfl, rfl, Out.over hp2 (by omega)⟩
 rw [decide_eq_false hp2];have hp1 : p + 1 ≤ 200 := by omega
 subst hop;have hwn : effW (.mk 6 who n name cond thn els) = 1 := xV (by decide) (by decide);refine vr 8 ?_;refine Lb 8 sg4 .here ?_;refine Lo 0 sg42 rfl hc0 ?_;refine cfo 2 ?_;refine Lo 0 sg42 rfl hc0 ?_;refine cfo 3 ?_;refine Lo 0 sg42 rfl hc0 ?_;refine cfo 3 ?_;refine Lo 0 sg42 rfl hc0 ?_;refine cfo 3 ?_;refine Lo 0 sg42 rfl hc0 ?_;refine cfo 7 ?_;refine Lo 0 sg42 rfl hc0 ?_
 refine cfo 2 ?_;refine Lo 0 sg42 rfl hc0 ?_;refine cfo 3 ?_;refine Lo 0 sg42 rfl hc0 ?_;refine cfo 3 ?_;refine Lo 0 sg42 rfl hc0 ?_;refine cfo 3 ?_;refine Lo 0 sg42 rfl hc0 ?_;refine ctr 11 ?_;refine La 0 ag45 haN ?_;refine Cr cl118 rfl (fun m' hm he => (zeroNumR hn)) ?_;rintro _ rfl;cases hz : zeroN n with
 | false =>
   refine vr 52 ?_;refine Sr 9 co4 .here .h2 ?_;exact zB hl2 [_] ⟨rfl, trivial⟩ [_] .p0 ⟨[], p + 1, true, rfl, rfl, zm (xd (by decide) hz) (by decide)⟩
 | true =>
 by_cases hname : name = []
 rotate_left
 ·refine vr 13 ?_;refine Lo 0 sg42 rfl hc0 ?_;refine cto 2 ?_;refine Lo 0 sg9 rfl hc6' ?_;refine cta 33 ?_;refine Sr 9 co4 .here .h2 ?_;exact zB hl2 [_] ⟨rfl, trivial⟩ [_] .p0 ⟨[], p + 1, true, rfl, rfl, zm (yN (by decide) (by decide) hname) (by decide)⟩
 subst hname;refine vr 13 ?_;refine Lo 0 sg42 rfl hc0 ?_;refine cto 2 ?_;refine Lo 0 sg9 rfl hc6' ?_;refine cf 4 rfl (by decide) ?_;refine Lo 0 sg42 rfl hc0 ?_;refine cto 2 ?_;refine La 0 ag48 haC ?_;refine Cr cl119 rfl (fun m' hm he => (zeroCondR hc)) ?_;rintro _ rfl;cases hzc : zeroC cond with
 | false =>
   refine vr 23 ?_;refine Sr 9 co4 .here .h2 ?_;exact zB hl2 [_] ⟨rfl, trivial⟩ [_] .p0 ⟨[], p + 1, true, rfl, rfl, zm (zZ (by decide) (fun h => by rw [h.1] at hzc; cases hzc)) (by decide)⟩
 | true =>
 by_cases hla0 : la = 0
 rotate_left
 ·refine vr 3 ?_;refine Lo 1 sg38 rfl hc12 ?_;refine cto 17 ?_;refine Sr 9 co4 .here .h2 ?_;exact zB hl2 [_] ⟨rfl, trivial⟩ [_] .p0 ⟨[], p + 1, true, rfl, rfl, zm (zZ (by decide) (fun h => by have := h.2; omega)) (by decide)⟩
 by_cases hlb0 : lb = 0
 rotate_left
 ·refine vr 3 ?_;refine Lo 1 sg38 rfl hc12 ?_;refine cfo 3 ?_;refine Lo 1 sg38 rfl hc13 ?_;refine cto 11 ?_;refine Sr 9 co4 .here .h2 ?_;exact zB hl2 [_] ⟨rfl, trivial⟩ [_] .p0 ⟨[], p + 1, true, rfl, rfl, zm (zZ (by decide) (fun h => by have := h.2; omega)) (by decide)⟩
 have hb : bareE cond thn els := ⟨hzc, by omega⟩;refine vr 3 ?_;refine Lo 1 sg38 rfl hc12 ?_;refine cfo 3 ?_;refine Lo 1 sg38 rfl hc13 ?_;refine cfo 11 ?_;refine Lo 0 sg42 rfl hc1 ?_;refine Cr cl120 rfl (fun m' hm he => side120) ?_;rintro _ rfl;by_cases hw2 : who = 2
 ·have hs : sideP who = none := by rw [hw2]; rfl
  rw [show sideV who = .tuple #[.string (bs []), .bool false] by unfold sideV; rw [hs]; rfl];refine vr 11 ?_;refine Lo 0 sg42 rfl hc1 ?_;refine cta 2 ?_;refine Lo 0 sg42 rfl hc0 ?_;refine cfo 2 ?_;refine Lo 0 sg42 rfl hc0 ?_;refine cfo 17 ?_;refine Sr 6 co4 .here .h2 ?_;refine Lo 5 sg42 rfl hc0 ?_;refine cfo 6 ?_;refine cfo 6 ?_;refine cfo 6 ?_;refine cfo 6 ?_;refine cfo 6 ?_;refine cfo 6 ?_
  refine ctr 7 ?_;refine Ps 0 ?_;refine Ps 6 ?_;have e2 : [115, 104, 111, 119, 32] ++ [] ++ [59] = sShow ++ sSp ++ [] ++ sSemi := by simp
  rw [e2, wm hb hz, hwn];exact zB hl2 [_] ⟨rfl, trivial⟩ [_] .p0 ⟨_, p + 1, true, rfl, rfl, ((Out.map (c := 6) (H := 0) (g := fun s => sShow ++ sSp ++ s ++ sSemi) (k := 6) (Out.opt hp1 (by decide) (fun h => by cases h) (fun _ => hs)) (by simp)).le (by omega) (Nat.zero_le _)).one rfl⟩
 cases hs : sideP who with
 | none =>
   rw [show sideV who = .tuple #[.string (bs []), .bool false] by unfold sideV; rw [hs]; rfl];refine vr 11 ?_;refine Lo 0 sg42 rfl hc1 ?_;refine cfa 25 ?_;refine Sr 6 co4 .here .h2 ?_;refine Lo 5 sg42 rfl hc0 ?_;refine cfo 6 ?_;refine cfo 6 ?_;refine cfo 6 ?_;refine cfo 6 ?_;refine cfo 6 ?_;refine cfo 6 ?_;refine ctr 7 ?_;refine Ps 0 ?_;refine Ps 6 ?_
   have e2 : [115, 104, 111, 119, 32] ++ [] ++ [59] = sShow ++ sSp ++ [] ++ sSemi := by simp
   rw [e2, wm hb hz, hwn];exact zB hl2 [_] ⟨rfl, trivial⟩ [_] .p0 ⟨_, p + 1, true, rfl, rfl, ((Out.map (c := 6) (H := 0) (g := fun s => sShow ++ sSp ++ s ++ sSemi) (k := 6) (Out.opt hp1 (by decide) (fun h => by cases h) (fun _ => hs)) (by simp)).le (by omega) (Nat.zero_le _)).one rfl⟩
 | some s =>
   have hsl := zx hs;rw [show sideV who = .tuple #[.string (bs s), .bool true] by unfold sideV; rw [hs]; rfl];refine vr 11 ?_;refine Lo 0 sg42 rfl hc1 ?_;refine cfa 25 ?_;refine Sr 6 co4 .here .h2 ?_;refine Lo 5 sg42 rfl hc0 ?_;refine cfo 6 ?_;refine cfo 6 ?_;refine cfo 6 ?_;refine cfo 6 ?_;refine cfo 6 ?_;refine cfo 6 ?_;refine ctr 7 ?_;refine Ps 0 ?_;refine Ps 6 ?_
   have e2 : [115, 104, 111, 119, 32] ++ s ++ [59] = sShow ++ sSp ++ s ++ sSemi := by simp
   rw [e2, wm hb hz, hwn];exact zB hl2 [_] ⟨rfl, trivial⟩ [_] .p0 ⟨_, p + 1, false, rfl, rfl, ((Out.map (c := 6) (H := 0) (g := fun s => sShow ++ sSp ++ s ++ sSemi) (k := 6) (Out.opt hp1 (by omega) (fun _ => hs) (fun h => by cases h)) (by simp)).le (by omega) (Nat.zero_le _)).one rfl⟩
end
section
open Wd Tp Kd
variable {m : Mp} {b d p : Nat} {q : Bool}
theorem ZN {op who nop nn nwho : Int} {nA : Option Addr} {nl nc : Nat} {name : List UInt8} {cop cwho : Int} {cname : List UInt8} {cA : Option Addr} {cla cca : Nat} {cB : Option Addr} {clb ccb : Nat} {TA : Option Addr} {la ca : Nat} {EB : Option Addr} {lb cb : Nat} {n : NumT} {cond : CondT} {thn els : List EffT}
  (hn : NumR m (n4 nop nn nwho nA nl nc) n) (hc : CondR m (c5 cop cwho cname cA cla cca cB clb ccb) cond) (iC : CondD m b (c5 cop cwho cname cA cla cca cB clb ccb) cond) (hnm : name.length ≤ 140737488355328) (hla : thn.length = la) (hlb : els.length = lb) (hla2 : la ≤ 140737488355328) (hlb2 : lb ≤ 140737488355328)
  (hbt : BlkD m b TA la ca thn) (hbe : BlkD m b EB lb cb els) (hop : op = 7) : EffD m b (e14 op who nop nn nwho nA nl nc name cop cwho cname cA cla cca cB clb ccb TA la ca EB lb cb) (.mk op who n name cond thn els) := by
 intro m0 hm0 p d q hp hd hq;refine zn [.tmp 4] Tryz.func96 rfl rfl rfl ?_;refine tr 2 ?_;refine Bx 4 rfl fun b1 => ?_;refine zI .here (fun ns hi _ hd1 => ?_);have hR : Rd (uni m0 ns) (some ⟨b1, 0, none⟩) (e14 op who nop nn nwho nA nl nc name cop cwho cname cA cla cca cB clb ccb TA la ca EB lb cb) := (Rd.blk hi).mono (zP hd1)
 have haN : At (uni m0 ns) ⟨b1, 2, none⟩ (n4 nop nn nwho nA nl nc) := (At.blkO (o := 2) (k := 4) hi).mono (zP hd1);have haC : At (uni m0 ns) ⟨b1, 7, none⟩ (c5 cop cwho cname cA cla cca cB clb ccb) := (At.blkO (o := 7) (k := 5) hi).mono (zP hd1);have hl2 : Le m0 (uni m0 ns) := zN _ _;clear hi hd1;generalize uni m0 ns = m9 at hR hl2 haN haC;have hl9 := hm0.trans hl2;have hn := hn.mono hl9
 have hc := hc.mono hl9;have hbt := hbt.mono hl9;have hbe := hbe.mono hl9;have iN : NumD m9 b _ n := num121 (b := b) hn;have iC := iC.mono hl9;have hc0 : mc m9 ⟨b1, 0, none⟩ = some (.int .i8 op) := hR.at_ (i := 0) rfl;have hc1 : mc m9 ⟨b1, 1, none⟩ = some (.int .i8 who) := hR.at_ (i := 1) rfl;have hc6 : mc m9 ⟨b1, 3 + 3, none⟩ = some (.string (bs name)) := hR.at_ (i := 6) rfl
 have hc6' : mc m9 ⟨b1, 6, none⟩ = some (.string (bs name)) := hc6;have hc12 : mc m9 ⟨b1, 12, none⟩ = some (.slice TA la ca) := hR.at_ (i := 12) rfl;have hc13 : mc m9 ⟨b1, 13, none⟩ = some (.slice EB lb cb) := hR.at_ (i := 13) rfl;have hw1 := yC (.mk op who n name cond thn els);refine tr 2 ?_;refine zC ((zF cl117 rfl .k0 (fun m' hm he => part117 (by omega)) rfl ?_)) rfl
 rintro _ _ ⟨rfl, rfl⟩;cases q with
 | true =>
   rw [Bool.true_or];refine vr 8 ?_;refine Lb 10 sg4 .here ?_;exact zB hl2 [_] ⟨rfl, trivial⟩ [_] .p0 ⟨[], p + 1, true, rfl, rfl, Out.stop (by omega)⟩
 | false =>
 have hd := hq rfl;rw [Bool.false_or];by_cases hp2 : 200 < p + 1
 ·rw [decide_eq_true hp2];refine vr 8 ?_;refine Lb 10 sg4 .here ?_;exact zB hl2 [_] ⟨rfl, trivial⟩ [_] .p0 ⟨[], p + 1, true, rfl, rfl, Out.over hp2 (by omega)⟩
 rw [decide_eq_false hp2];have hp1 : p + 1 ≤ 200 := by omega
 subst hop;refine vr 8 ?_;refine Lb 8 sg4 .here ?_;refine Lo 0 sg42 rfl hc0 ?_;refine cfo 2 ?_;refine Lo 0 sg42 rfl hc0 ?_;refine cfo 3 ?_;refine Lo 0 sg42 rfl hc0 ?_;refine cfo 3 ?_;refine Lo 0 sg42 rfl hc0 ?_;refine cfo 3 ?_;refine Lo 0 sg42 rfl hc0 ?_;refine cfo 7 ?_;refine Lo 0 sg42 rfl hc0 ?_;refine cfo 2 ?_;refine Lo 0 sg42 rfl hc0 ?_;refine cfo 3 ?_;refine Lo 0 sg42 rfl hc0 ?_
 refine cfo 3 ?_;refine Lo 0 sg42 rfl hc0 ?_;refine cfo 3 ?_;refine Lo 0 sg42 rfl hc0 ?_;refine cfo 11 ?_;refine La 0 ag45 haN ?_;refine Cr cl118 rfl (fun m' hm he => (zeroNumR hn)) ?_;rintro _ rfl;cases hz : zeroN n with
 | false =>
   refine vr 52 ?_;refine Sr 9 co4 .here .h2 ?_;exact zB hl2 [_] ⟨rfl, trivial⟩ [_] .p0 ⟨[], p + 1, true, rfl, rfl, zm (xd (by decide) hz) (by decide)⟩
 | true =>
 by_cases hw0 : who = 0
 rotate_left
 ·refine vr 7 ?_;refine Lo 0 sg42 rfl hc1 ?_;refine cta 43 ?_;refine Sr 9 co4 .here .h2 ?_;exact zB hl2 [_] ⟨rfl, trivial⟩ [_] .p0 ⟨[], p + 1, true, rfl, rfl, zm (xb (by decide) hw0) (by decide)⟩
 subst hw0;refine vr 7 ?_;refine Lo 0 sg42 rfl hc1 ?_;refine cfo 4 ?_;refine Lo 0 sg42 rfl hc0 ?_;refine cfo 8 ?_;refine Lo 0 sg42 rfl hc0 ?_;refine cto 2 ?_;refine La 0 ag48 haC ?_;refine Cr cl119 rfl (fun m' hm he => (zeroCondR hc)) ?_;rintro _ rfl;cases hzc : zeroC cond with
 | false =>
   refine vr 23 ?_;refine Sr 9 co4 .here .h2 ?_;exact zB hl2 [_] ⟨rfl, trivial⟩ [_] .p0 ⟨[], p + 1, true, rfl, rfl, zm (zZ (by decide) (fun h => by rw [h.1] at hzc; cases hzc)) (by decide)⟩
 | true =>
 by_cases hla0 : la = 0
 rotate_left
 ·refine vr 3 ?_;refine Lo 1 sg38 rfl hc12 ?_;refine cto 17 ?_;refine Sr 9 co4 .here .h2 ?_;exact zB hl2 [_] ⟨rfl, trivial⟩ [_] .p0 ⟨[], p + 1, true, rfl, rfl, zm (zZ (by decide) (fun h => by have := h.2; omega)) (by decide)⟩
 by_cases hlb0 : lb = 0
 rotate_left
 ·refine vr 3 ?_;refine Lo 1 sg38 rfl hc12 ?_;refine cfo 3 ?_;refine Lo 1 sg38 rfl hc13 ?_;refine cto 11 ?_;refine Sr 9 co4 .here .h2 ?_;exact zB hl2 [_] ⟨rfl, trivial⟩ [_] .p0 ⟨[], p + 1, true, rfl, rfl, zm (zZ (by decide) (fun h => by have := h.2; omega)) (by decide)⟩
 have hb : bareE cond thn els := ⟨hzc, by omega⟩;refine vr 3 ?_;refine Lo 1 sg38 rfl hc12 ?_;refine cfo 3 ?_;refine Lo 1 sg38 rfl hc13 ?_;refine cfo 11 ?_;refine Lo 0 sg42 rfl hc1 ?_;refine Cr cl120 rfl (fun m' hm he => side120) ?_;rintro _ rfl;rw [show sideV 0 = .tuple #[.string (bs sMe), .bool true] from rfl];refine vr 11 ?_;refine Lo 0 sg42 rfl hc1 ?_;refine cfo 25 ?_
 refine Sr 6 co4 .here .h2 ?_;refine Lo 5 sg42 rfl hc0 ?_;refine cfo 6 ?_;refine cfo 6 ?_;refine cfo 6 ?_;refine cfo 6 ?_;refine cfo 6 ?_;refine cfo 6 ?_;refine cfo 6 ?_;refine ctr 10 ?_;refine Lb 2 sg4 .here ?_;refine Lo 0 sg9 rfl hc6' ?_;refine Cr cl45 rfl (fun m' hm he => (vi hnm)) ?_;rintro _ rfl;cases hnp : nameP name with
 | false =>
   refine vr 4 ?_;refine Sr 5 co4 .here .h2 ?_;refine Lo 0 sg9 rfl hc6' ?_;refine Ps 0 ?_;refine Ps 6 ?_;exact zB hl2 [_] ⟨rfl, trivial⟩ [_] .p0 ⟨_, p + 1, true, rfl, rfl, zm (vX hnp) (by simp; omega)⟩
 | true =>
   have hn40 := yF hnp;refine vr 4 ?_;refine Sr 5 co4 .here .h2 ?_;refine Lo 0 sg9 rfl hc6' ?_;refine Ps 0 ?_;refine Ps 6 ?_;have e2 : [115, 117, 109, 109, 111, 110, 32] ++ name ++ [59] = sSummon ++ sSp ++ name ++ sSemi := by simp
   rw [e2, vV hb hz hnp, xV (by decide) (by decide)];exact zB hl2 [_] ⟨rfl, trivial⟩ [_] .p0 ⟨_, p + 1, false, rfl, rfl, (Out.some rfl hp1 (by simp; omega)).one rfl⟩
theorem XY {op who nop nn nwho : Int} {nA : Option Addr} {nl nc : Nat} {name : List UInt8} {cop cwho : Int} {cname : List UInt8} {cA : Option Addr} {cla cca : Nat} {cB : Option Addr} {clb ccb : Nat} {TA : Option Addr} {la ca : Nat} {EB : Option Addr} {lb cb : Nat} {n : NumT} {cond : CondT} {thn els : List EffT}
  (hn : NumR m (n4 nop nn nwho nA nl nc) n) (hc : CondR m (c5 cop cwho cname cA cla cca cB clb ccb) cond) (iC : CondD m b (c5 cop cwho cname cA cla cca cB clb ccb) cond) (hnm : name.length ≤ 140737488355328) (hla : thn.length = la) (hlb : els.length = lb) (hla2 : la ≤ 140737488355328) (hlb2 : lb ≤ 140737488355328)
  (hbt : BlkD m b TA la ca thn) (hbe : BlkD m b EB lb cb els) (h9 : ¬ (0 ≤ op ∧ op ≤ 8)) : EffD m b (e14 op who nop nn nwho nA nl nc name cop cwho cname cA cla cca cB clb ccb TA la ca EB lb cb) (.mk op who n name cond thn els) := by
 intro m0 hm0 p d q hp hd hq;refine zn [.tmp 4] Tryz.func96 rfl rfl rfl ?_;refine tr 2 ?_;refine Bx 4 rfl fun b1 => ?_;refine zI .here (fun ns hi _ hd1 => ?_);have hR : Rd (uni m0 ns) (some ⟨b1, 0, none⟩) (e14 op who nop nn nwho nA nl nc name cop cwho cname cA cla cca cB clb ccb TA la ca EB lb cb) := (Rd.blk hi).mono (zP hd1)
 have haN : At (uni m0 ns) ⟨b1, 2, none⟩ (n4 nop nn nwho nA nl nc) := (At.blkO (o := 2) (k := 4) hi).mono (zP hd1);have haC : At (uni m0 ns) ⟨b1, 7, none⟩ (c5 cop cwho cname cA cla cca cB clb ccb) := (At.blkO (o := 7) (k := 5) hi).mono (zP hd1);have hl2 : Le m0 (uni m0 ns) := zN _ _;clear hi hd1;generalize uni m0 ns = m9 at hR hl2 haN haC;have hl9 := hm0.trans hl2;have hn := hn.mono hl9
 have hc := hc.mono hl9;have hbt := hbt.mono hl9;have hbe := hbe.mono hl9;have iN : NumD m9 b _ n := num121 (b := b) hn;have iC := iC.mono hl9;have hc0 : mc m9 ⟨b1, 0, none⟩ = some (.int .i8 op) := hR.at_ (i := 0) rfl;have hc1 : mc m9 ⟨b1, 1, none⟩ = some (.int .i8 who) := hR.at_ (i := 1) rfl;have hc6 : mc m9 ⟨b1, 3 + 3, none⟩ = some (.string (bs name)) := hR.at_ (i := 6) rfl
 have hc6' : mc m9 ⟨b1, 6, none⟩ = some (.string (bs name)) := hc6;have hc12 : mc m9 ⟨b1, 12, none⟩ = some (.slice TA la ca) := hR.at_ (i := 12) rfl;have hc13 : mc m9 ⟨b1, 13, none⟩ = some (.slice EB lb cb) := hR.at_ (i := 13) rfl;have hw1 := yC (.mk op who n name cond thn els);refine tr 2 ?_;refine zC ((zF cl117 rfl .k0 (fun m' hm he => part117 (by omega)) rfl ?_)) rfl
 rintro _ _ ⟨rfl, rfl⟩;cases q with
 | true =>
   rw [Bool.true_or];refine vr 8 ?_;refine Lb 10 sg4 .here ?_;exact zB hl2 [_] ⟨rfl, trivial⟩ [_] .p0 ⟨[], p + 1, true, rfl, rfl, Out.stop (by omega)⟩
 | false =>
 have hd := hq rfl;rw [Bool.false_or];by_cases hp2 : 200 < p + 1
 ·rw [decide_eq_true hp2];refine vr 8 ?_;refine Lb 10 sg4 .here ?_;exact zB hl2 [_] ⟨rfl, trivial⟩ [_] .p0 ⟨[], p + 1, true, rfl, rfl, Out.over hp2 (by omega)⟩
 rw [decide_eq_false hp2];have hp1 : p + 1 ≤ 200 := by omega
 have hop0 : op ≠ 0 := by omega
 have hop1 : op ≠ 1 := by omega
 have hop2 : op ≠ 2 := by omega
 have hop3 : op ≠ 3 := by omega
 have hop4 : op ≠ 4 := by omega
 have hop5 : op ≠ 5 := by omega
 have hop6 : op ≠ 6 := by omega
 have hop7 : op ≠ 7 := by omega
 have hop8 : op ≠ 8 := by omega
 refine vr 8 ?_;refine Lb 8 sg4 .here ?_;refine Lo 0 sg42 rfl hc0 ?_;refine cfa 2 ?_;refine Lo 0 sg42 rfl hc0 ?_;refine cfa 3 ?_;refine Lo 0 sg42 rfl hc0 ?_;refine cfa 3 ?_;refine Lo 0 sg42 rfl hc0 ?_;refine cfa 3 ?_;refine Lo 0 sg42 rfl hc0 ?_;refine cfa 7 ?_;refine Lo 0 sg42 rfl hc0 ?_;refine cfa 2 ?_;refine Lo 0 sg42 rfl hc0 ?_;refine cfa 3 ?_;refine Lo 0 sg42 rfl hc0 ?_;refine cfa 3 ?_
 refine Lo 0 sg42 rfl hc0 ?_;refine cfa 3 ?_;refine Lo 0 sg42 rfl hc0 ?_;refine cfa 11 ?_;refine La 0 ag45 haN ?_;refine Cr cl118 rfl (fun m' hm he => (zeroNumR hn)) ?_;rintro _ rfl;cases hz : zeroN n with
 | false =>
   refine vr 52 ?_;refine Sr 9 co4 .here .h2 ?_;exact zB hl2 [_] ⟨rfl, trivial⟩ [_] .p0 ⟨[], p + 1, true, rfl, rfl, zm (yx h9) (by decide)⟩
 | true =>
 by_cases hw0 : who = 0
 rotate_left
 ·refine vr 7 ?_;refine Lo 0 sg42 rfl hc1 ?_;refine cta 43 ?_;refine Sr 9 co4 .here .h2 ?_;exact zB hl2 [_] ⟨rfl, trivial⟩ [_] .p0 ⟨[], p + 1, true, rfl, rfl, zm (yx h9) (by decide)⟩
 subst hw0;by_cases hname : name = []
 rotate_left
 ·refine vr 7 ?_;refine Lo 0 sg42 rfl hc1 ?_;refine cfo 4 ?_;refine Lo 0 sg42 rfl hc0 ?_;refine cta 2 ?_;refine Lo 0 sg9 rfl hc6' ?_;refine cta 33 ?_;refine Sr 9 co4 .here .h2 ?_;exact zB hl2 [_] ⟨rfl, trivial⟩ [_] .p0 ⟨[], p + 1, true, rfl, rfl, zm (yx h9) (by decide)⟩
 subst hname;refine vr 7 ?_;refine Lo 0 sg42 rfl hc1 ?_;refine cfo 4 ?_;refine Lo 0 sg42 rfl hc0 ?_;refine cta 2 ?_;refine Lo 0 sg9 rfl hc6' ?_;refine cf 4 rfl (by decide) ?_;refine Lo 0 sg42 rfl hc0 ?_;refine cta 2 ?_;refine La 0 ag48 haC ?_;refine Cr cl119 rfl (fun m' hm he => (zeroCondR hc)) ?_;rintro _ rfl;cases hzc : zeroC cond with
 | false =>
   refine vr 23 ?_;refine Sr 9 co4 .here .h2 ?_;exact zB hl2 [_] ⟨rfl, trivial⟩ [_] .p0 ⟨[], p + 1, true, rfl, rfl, zm (yx h9) (by decide)⟩
 | true =>
 by_cases hla0 : la = 0
 rotate_left
 ·refine vr 3 ?_;refine Lo 1 sg38 rfl hc12 ?_;refine cto 17 ?_;refine Sr 9 co4 .here .h2 ?_;exact zB hl2 [_] ⟨rfl, trivial⟩ [_] .p0 ⟨[], p + 1, true, rfl, rfl, zm (yx h9) (by decide)⟩
 by_cases hlb0 : lb = 0
 rotate_left
 ·refine vr 3 ?_;refine Lo 1 sg38 rfl hc12 ?_;refine cfo 3 ?_;refine Lo 1 sg38 rfl hc13 ?_;refine cto 11 ?_;refine Sr 9 co4 .here .h2 ?_;exact zB hl2 [_] ⟨rfl, trivial⟩ [_] .p0 ⟨[], p + 1, true, rfl, rfl, zm (yx h9) (by decide)⟩
 have hb : bareE cond thn els := ⟨hzc, by omega⟩;refine vr 3 ?_;refine Lo 1 sg38 rfl hc12 ?_;refine cfo 3 ?_;refine Lo 1 sg38 rfl hc13 ?_;refine cfo 11 ?_;refine Lo 0 sg42 rfl hc1 ?_;refine Cr cl120 rfl (fun m' hm he => side120) ?_;rintro _ rfl;rw [show sideV 0 = .tuple #[.string (bs sMe), .bool true] from rfl];refine vr 11 ?_;refine Lo 0 sg42 rfl hc1 ?_;refine cfo 25 ?_
 refine Sr 6 co4 .here .h2 ?_;refine Lo 5 sg42 rfl hc0 ?_;refine cfa 6 ?_;refine cfa 6 ?_;refine cfa 6 ?_;refine cfa 6 ?_;refine cfa 6 ?_;refine cfa 6 ?_;refine cfa 6 ?_;refine cfa 6 ?_;refine cfa 12 ?_;refine Sr 8 co4 .here .h2 ?_;exact zB hl2 [_] ⟨rfl, trivial⟩ [_] .p0 ⟨[], p + 1, true, rfl, rfl, zm (yx h9) (by decide)⟩
end
section
open Wd Tp Kd
variable {m : Mp} {b d p : Nat} {q : Bool}
theorem d_effIf {op who nop nn nwho : Int} {nA : Option Addr} {nl nc : Nat} {name : List UInt8} {cop cwho : Int} {cname : List UInt8} {cA : Option Addr} {cla cca : Nat} {cB : Option Addr} {clb ccb : Nat} {TA : Option Addr} {la ca : Nat} {EB : Option Addr} {lb cb : Nat} {n : NumT} {cond : CondT} {thn els : List EffT}
  (hn : NumR m (n4 nop nn nwho nA nl nc) n) (hc : CondR m (c5 cop cwho cname cA cla cca cB clb ccb) cond) (iC : CondD m b (c5 cop cwho cname cA cla cca cB clb ccb) cond) (hnm : name.length ≤ 140737488355328) (hla : thn.length = la) (hlb : els.length = lb) (hla2 : la ≤ 140737488355328) (hlb2 : lb ≤ 140737488355328)
  (hbt : BlkD m b TA la ca thn) (hbe : BlkD m b EB lb cb els) (hop : op = 8) : EffD m b (e14 op who nop nn nwho nA nl nc name cop cwho cname cA cla cca cB clb ccb TA la ca EB lb cb) (.mk op who n name cond thn els) := by
 intro m0 hm0 p d q hp hd hq;refine zn [.tmp 4] Tryz.func96 rfl rfl rfl ?_;refine tr 2 ?_;refine Bx 4 rfl fun b1 => ?_;refine zI .here (fun ns hi _ hd1 => ?_);have hR : Rd (uni m0 ns) (some ⟨b1, 0, none⟩) (e14 op who nop nn nwho nA nl nc name cop cwho cname cA cla cca cB clb ccb TA la ca EB lb cb) := (Rd.blk hi).mono (zP hd1)
 have haN : At (uni m0 ns) ⟨b1, 2, none⟩ (n4 nop nn nwho nA nl nc) := (At.blkO (o := 2) (k := 4) hi).mono (zP hd1);have haC : At (uni m0 ns) ⟨b1, 7, none⟩ (c5 cop cwho cname cA cla cca cB clb ccb) := (At.blkO (o := 7) (k := 5) hi).mono (zP hd1);have hl2 : Le m0 (uni m0 ns) := zN _ _;clear hi hd1;generalize uni m0 ns = m9 at hR hl2 haN haC;have hl9 := hm0.trans hl2;have hn := hn.mono hl9
 have hc := hc.mono hl9;have hbt := hbt.mono hl9;have hbe := hbe.mono hl9;have iN : NumD m9 b _ n := num121 (b := b) hn;have iC := iC.mono hl9;have hc0 : mc m9 ⟨b1, 0, none⟩ = some (.int .i8 op) := hR.at_ (i := 0) rfl;have hc1 : mc m9 ⟨b1, 1, none⟩ = some (.int .i8 who) := hR.at_ (i := 1) rfl;have hc6 : mc m9 ⟨b1, 3 + 3, none⟩ = some (.string (bs name)) := hR.at_ (i := 6) rfl
 have hc6' : mc m9 ⟨b1, 6, none⟩ = some (.string (bs name)) := hc6;have hc12 : mc m9 ⟨b1, 12, none⟩ = some (.slice TA la ca) := hR.at_ (i := 12) rfl;have hc13 : mc m9 ⟨b1, 13, none⟩ = some (.slice EB lb cb) := hR.at_ (i := 13) rfl;have hw1 := yC (.mk op who n name cond thn els);refine tr 2 ?_;refine zC ((zF cl117 rfl .k0 (fun m' hm he => part117 (by omega)) rfl ?_)) rfl
 rintro _ _ ⟨rfl, rfl⟩;cases q with
 | true =>
   rw [Bool.true_or];refine vr 8 ?_;refine Lb 10 sg4 .here ?_;exact zB hl2 [_] ⟨rfl, trivial⟩ [_] .p0 ⟨[], p + 1, true, rfl, rfl, Out.stop (by omega)⟩
 | false =>
 have hd := hq rfl;rw [Bool.false_or];by_cases hp2 : 200 < p + 1
 ·rw [decide_eq_true hp2];refine vr 8 ?_;refine Lb 10 sg4 .here ?_;exact zB hl2 [_] ⟨rfl, trivial⟩ [_] .p0 ⟨[], p + 1, true, rfl, rfl, Out.over hp2 (by omega)⟩
 rw [decide_eq_false hp2];have hp1 : p + 1 ≤ 200 := by omega
 subst hop;subst hla hlb;have hwi : effW (.mk 8 who n name cond thn els) = 1 + (condW cond + effsW thn + effsW els) := kJ;refine vr 8 ?_;refine Lb 8 sg4 .here ?_;refine Lo 0 sg42 rfl hc0 ?_;refine cfo 2 ?_;refine Lo 0 sg42 rfl hc0 ?_;refine cfo 3 ?_;refine Lo 0 sg42 rfl hc0 ?_;refine cfo 3 ?_;refine Lo 0 sg42 rfl hc0 ?_;refine cfo 3 ?_;refine Lo 0 sg42 rfl hc0 ?_;refine cfo 7 ?_
 refine Lo 0 sg42 rfl hc0 ?_;refine cfo 2 ?_;refine Lo 0 sg42 rfl hc0 ?_;refine cfo 3 ?_;refine Lo 0 sg42 rfl hc0 ?_;refine cfo 3 ?_;refine Lo 0 sg42 rfl hc0 ?_;refine cfo 3 ?_;refine Lo 0 sg42 rfl hc0 ?_;refine cfo 11 ?_;refine La 0 ag45 haN ?_;refine Cr cl118 rfl (fun m' hm he => (zeroNumR hn)) ?_;rintro _ rfl;cases hz : zeroN n with
 | false =>
   refine vr 52 ?_;refine Sr 9 co4 .here .h2 ?_;exact zB hl2 [_] ⟨rfl, trivial⟩ [_] .p0 ⟨[], p + 1, true, rfl, rfl, zm (by rw [vy, if_neg (fun h => by rw [hz] at h; exact absurd h.2.2 (by decide))]) (by decide)⟩
 | true =>
 by_cases hw0 : who = 0
 rotate_left
 ·refine vr 7 ?_;refine Lo 0 sg42 rfl hc1 ?_;refine cta 43 ?_;refine Sr 9 co4 .here .h2 ?_;exact zB hl2 [_] ⟨rfl, trivial⟩ [_] .p0 ⟨[], p + 1, true, rfl, rfl, zm (by rw [vy, if_neg (fun h => hw0 h.1)]) (by decide)⟩
 subst hw0;by_cases hname : name = []
 rotate_left
 ·refine vr 7 ?_;refine Lo 0 sg42 rfl hc1 ?_;refine cfo 4 ?_;refine Lo 0 sg42 rfl hc0 ?_;refine cto 2 ?_;refine Lo 0 sg9 rfl hc6' ?_;refine cta 33 ?_;refine Sr 9 co4 .here .h2 ?_;exact zB hl2 [_] ⟨rfl, trivial⟩ [_] .p0 ⟨[], p + 1, true, rfl, rfl, zm (by rw [vy, if_neg (fun h => hname h.2.1)]) (by decide)⟩
 subst hname;refine vr 7 ?_;refine Lo 0 sg42 rfl hc1 ?_;refine cfo 4 ?_;refine Lo 0 sg42 rfl hc0 ?_;refine cto 2 ?_;refine Lo 0 sg9 rfl hc6' ?_;refine cf 4 rfl (by decide) ?_;refine Lo 0 sg42 rfl hc0 ?_;refine cfo 27 ?_;refine Lo 0 sg42 rfl hc1 ?_;refine Cr cl120 rfl (fun m' hm he => side120) ?_;rintro _ rfl;rw [show sideV 0 = .tuple #[.string (bs sMe), .bool true] from rfl];rw [hwi] at hp ⊢
 refine vr 11 ?_;refine Lo 0 sg42 rfl hc1 ?_;refine cfo 25 ?_;refine Sr 6 co4 .here .h2 ?_;refine Lo 5 sg42 rfl hc0 ?_;refine cfo 6 ?_;refine cfo 6 ?_;refine cfo 6 ?_;refine cfo 6 ?_;refine cfo 6 ?_;refine cfo 6 ?_;refine cfo 6 ?_;refine cfo 6 ?_;refine ctr 7 ?_;refine zC ((zF cl122 rfl .k0 (fun m' hm he => in122 (by omega)) rfl ?_)) rfl;rintro _ _ ⟨rfl, rfl⟩;refine vr 6 ?_
 refine La 0 ag48 haC ?_;refine zC ((zF cl123 rfl .k0 (fun m' hm he => iC m' hm (p + 1) (d + 1) _ (by omega) (by omega) uf) rfl ?_)) rfl;rintro _ _ ⟨s, p1, q1, rfl, rfl, h1⟩;have hsl := h1.len;have hph := h1.hi;refine Ps 6 ?_;refine Ps 2 ?_;refine Lo 0 sg38 rfl hc12 ?_
 refine zC ((zF cl48 rfl .k0 (fun m' hm he => hbt m' hm p1 (d + 1) q1 (by omega) (by omega) (fun e => ⟨qW h1 e, (h1.good e).2.2⟩)) rfl ?_)) rfl;rintro _ _ ⟨t, p2, q2, rfl, rfl, h2⟩;have htl := h2.len;have hph2 := h2.hi;refine Ps 0 ?_;refine Ps 6 ?_;refine Ps 2 ?_;refine Lo 0 sg38 rfl hc13 ?_
 refine zC ((zF cl48 rfl .k0 (fun m' hm he => hbe m' hm p2 (d + 1) q2 (by omega) (by omega) (fun e => ⟨qW h1 (by cases hq1 : q1 with | false => rfl | true => rw [h2.stay hq1] at e; cases e), (h2.good e).2.2⟩)) rfl ?_)) rfl;rintro _ _ ⟨u, p3, q3, rfl, rfl, h3⟩;have hul := h3.len;refine Ps 0 ?_;refine Ps 6 ?_
 refine zC ((zF cl124 rfl .k0 (fun m' hm he => out124 (by omega)) rfl ?_)) rfl;rintro _ _ ⟨rfl, rfl⟩;refine vr 11 ?_;have e2 : [105, 102, 32] ++ s ++ [32, 123] ++ t ++ [32, 125] ++ [32, 101, 108, 115, 101, 32, 123] ++ u ++ [32, 125] = sIf ++ sSp ++ s ++ sSp ++ sLb ++ (t ++ sSp ++ sRb ++ sSp ++ sElse ++ sSp ++ sLb ++ u ++ sSp ++ sRb) := by simp
 rw [e2, vy, if_pos ⟨rfl, rfl, hz⟩];have h23 := h2.put (f := fun u v => u ++ sSp ++ sRb ++ sSp ++ sElse ++ sSp ++ sLb ++ v ++ sSp ++ sRb) h3 (K := 11) (by simp; omega);have h123 := h1.put (f := fun s x => sIf ++ sSp ++ s ++ sSp ++ sLb ++ x) h23 (K := 5) (by simp; omega);rw [← ifP_put] at h123
 exact zB hl2 [_] ⟨rfl, trivial⟩ [_] .p0 ⟨_, p3, q3, rfl, rfl, ((Out.inn (f := ifP cond thn els) h123).le (by omega) (Nat.le_refl _)).one (by omega)⟩
end
section
open Wd Tp Kd
variable {m : Mp} {b d p : Nat}
theorem Zs (hT : TabI m) (hU : Tabs m) {op who nop nn nwho : Int} {nA : Option Addr} {nl nc : Nat} {name : List UInt8} {cop cwho : Int} {cname : List UInt8} {cA : Option Addr} {cla cca : Nat} {cB : Option Addr} {clb ccb : Nat} {TA : Option Addr} {la ca : Nat} {EB : Option Addr} {lb cb : Nat} {n : NumT} {cond : CondT} {thn els : List EffT}
  (hn : NumR m (n4 nop nn nwho nA nl nc) n) (hc : CondR m (c5 cop cwho cname cA cla cca cB clb ccb) cond) (hcs : CondSm cond) (hnm : name.length ≤ 140737488355328) (hla : thn.length = la) (hlb : els.length = lb) (hla2 : la ≤ 140737488355328) (hlb2 : lb ≤ 140737488355328)
  (hbt : BlkOk m b TA la ca thn) (hbe : BlkOk m b EB lb cb els) (hop : op = 0) : EffOk m b (e14 op who nop nn nwho nA nl nc name cop cwho cname cA cla cca cB clb ccb TA la ca EB lb cb) (.mk op who n name cond thn els) := by
 subst hop;intro m0 hm0 p d hp hd;skip;refine zg [.tmp 4] Tryz.func94 rfl rfl rfl ?_;refine tr 2 ?_;refine Bx 0 rfl fun b1 => ?_;refine Bx 4 rfl fun b2 => ?_;refine zI .here (fun ns hi _ hd1 => ?_);refine zI .here (fun ns2 hi2 _ hd2 => ?_)
 have hR : Rd (uni (uni m0 ns) ns2) (some ⟨b2, 0, none⟩) (e14 0 who nop nn nwho nA nl nc name cop cwho cname cA cla cca cB clb ccb TA la ca EB lb cb) := ((Rd.blk hi).mono (zP hd1)).mono (zN _ _);have haN : At (uni (uni m0 ns) ns2) ⟨b2, 2, none⟩ (n4 nop nn nwho nA nl nc) := ((At.blkO (o := 2) (k := 4) hi).mono (zP hd1)).mono (zN _ _)
 have haC : At (uni (uni m0 ns) ns2) ⟨b2, 7, none⟩ (c5 cop cwho cname cA cla cca cB clb ccb) := ((At.blkO (o := 7) (k := 5) hi).mono (zP hd1)).mono (zN _ _);have hR1 : Rd (uni (uni m0 ns) ns2) (some ⟨b1, 0, none⟩) [ptr b] := (Rd.blk hi2).mono (zP hd2);have hl2 : Le m0 (uni (uni m0 ns) ns2) := (zN _ _).trans (zN _ _);clear hi hd1 hi2 hd2
 generalize uni (uni m0 ns) ns2 = m9 at hR hR1 hl2 haN haC;have hl9 := hm0.trans hl2;have hT := hT.mono hl9;have hU := hU.mono hl9;have hn := hn.mono hl9;have hc := hc.mono hl9;have hbt := hbt.mono hl9;have hbe := hbe.mono hl9;have iN : NumOk m9 b _ n := num111 (b := b) hT hn;have iC : CondOk m9 b _ cond := cond115 (b := b) hT hU hc hcs
 have hcp : mc m9 ⟨b1, 0, none⟩ = some (ptr b) := hR1.at_ (i := 0) rfl;have hc0 : mc m9 ⟨b2, 0, none⟩ = some (.int .i8 0) := hR.at_ (i := 0) rfl;have hc1 : mc m9 ⟨b2, 1, none⟩ = some (.int .i8 who) := hR.at_ (i := 1) rfl;have hc6 : mc m9 ⟨b2, 6, none⟩ = some (.string (bs name)) := hR.at_ (i := 6) rfl;have hc12 : mc m9 ⟨b2, 12, none⟩ = some (.slice TA la ca) := hR.at_ (i := 12) rfl
 have hc13 : mc m9 ⟨b2, 13, none⟩ = some (.slice EB lb cb) := hR.at_ (i := 13) rfl;have hw1 := yC (.mk 0 who n name cond thn els);refine tr 1 ?_;refine Lo 0 sg89 rfl hcp ?_;refine Cp cl109 rfl .k0 (fun m' hm he => part109 hp) ?_ ?_
 ·rintro _ _ ⟨h1, rfl⟩;exact pW hl2 ⟨.inr (by omega), rfl⟩
 rintro _ _ ⟨hp1, rfl, rfl⟩;rw [yv (by decide)];by_cases hw2 : who = 2
 ·have hwho : whoP who = some sTarget := by unfold whoP; rw [if_pos hw2]
  refine vr 5 ?_;refine Lo 0 sg42 rfl hc0 ?_;refine pe 0 (zV zl50 pl50 rfl rfl) ?_;refine Al 0 zl50 fun b3 => ?_;refine Sg 11 ag50 .here ?_;refine Lo 6 sg42 rfl hc0 ?_;refine ctr 16 ?_;refine Lo 0 sg42 rfl hc0 ?_;refine ctr 11 ?_;refine Lo 0 sg42 rfl hc1 ?_;refine cta 5 ?_;refine Ps 6 ?_;refine Lo 1 sg89 rfl hcp ?_;refine La 0 ag45 haN ?_
  refine Cp cl111 rfl .k1 (fun m' hm he => iN m' hm (p + 1) d hp1 hd) ?_ ?_
  ·rintro _ _ ⟨h3, rfl⟩;exact pW hl2 ⟨h3.imp (xO (by decide)) (fun h => by omega), rfl⟩
  rintro _ _ ⟨v, h3, h4, rfl, rfl⟩;have hvl := ym h3 h4;by_cases hname : name = []
  rotate_left
  ·refine Ps 3 ?_;refine Db (sq [0, 1, 2, 3, 4, 105, 6, 107] .done) ?_;refine vB 1 ?_;refine Vr 1 rfl (zG sg42 rfl hc1) ?_;refine Vr 1 rfl (zJ ag45 rfl rfl haN) ?_;refine zA rfl (yH co42 rfl rfl rfl .h1 .h1 ?_) rfl;refine vB 1 ?_;refine zA rfl (zj ag45 rfl rfl rfl .h1 (.there (.there (.cons (.cons (.cons (.cons .nil)))))) rfl ?_) rfl;refine Vn 5 ?_
   refine Lo 1 sg42 rfl hc1 ?_;refine Lb 0 sg42 .h1 ?_;refine ctr 2 ?_;refine Lo 1 sg9 rfl hc6 ?_;refine Lb 0 sg9 .h1 ?_;refine cfa 17 ?_;refine Mf fun _ => ?_;exact pW hl2 ⟨.inl (yN (by decide) (by decide) hname), rfl⟩
  subst hname;by_cases hle : la + lb = 0
  rotate_left
  ·have hnb : ¬ bareE cond thn els := fun h => hle (by have := h.2; omega);refine Ps 3 ?_;refine Db (sq [0, 1, 2, 3, 4, 105, 6, 107] .done) ?_;refine vB 1 ?_;refine Vr 1 rfl (zG sg42 rfl hc1) ?_;refine Vr 1 rfl (zJ ag45 rfl rfl haN) ?_;refine zA rfl (yH co42 rfl rfl rfl .h1 .h1 ?_) rfl;refine vB 1 ?_
   refine zA rfl (zj ag45 rfl rfl rfl .h1 (.there (.there (.cons (.cons (.cons (.cons .nil)))))) rfl ?_) rfl;refine Vn 5 ?_;refine Lo 1 sg42 rfl hc1 ?_;refine Lb 0 sg42 .h1 ?_;refine ctr 2 ?_;refine Lo 1 sg9 rfl hc6 ?_;refine Lb 0 sg9 .h1 ?_;refine ctr 3 ?_;refine Lo 2 sg38 rfl hc12 ?_;refine Lo 1 sg38 rfl hc13 ?_;refine pe 0 (zp rfl rfl (by omega)) ?_;refine cfo 7 ?_
   refine Mf fun _ => ?_;exact pW hl2 ⟨.inl (zZ (by decide) hnb), rfl⟩
  refine Ps 3 ?_;refine Db (sq [0, 1, 2, 3, 4, 105, 6, 107] .done) ?_;refine vB 1 ?_;refine Vr 1 rfl (zG sg42 rfl hc1) ?_;refine Vr 1 rfl (zJ ag45 rfl rfl haN) ?_;refine zA rfl (yH co42 rfl rfl rfl .h1 .h1 ?_) rfl;refine vB 1 ?_;refine zA rfl (zj ag45 rfl rfl rfl .h1 (.there (.there (.cons (.cons (.cons (.cons .nil)))))) rfl ?_) rfl;refine Vn 5 ?_
  refine Lo 1 sg42 rfl hc1 ?_;refine Lb 0 sg42 .h1 ?_;refine ctr 2 ?_;refine Lo 1 sg9 rfl hc6 ?_;refine Lb 0 sg9 .h1 ?_;refine ctr 3 ?_;refine Lo 2 sg38 rfl hc12 ?_;refine Lo 1 sg38 rfl hc13 ?_;refine pe 0 (zp rfl rfl (by omega)) ?_;refine cto 2 ?_;refine pe 1 (zV zl45 pl45 rfl rfl) ?_;refine La 0 ag48 haC ?_;refine Cr cl112 rfl (fun m' hm he => (plainC112 hc)) ?_;rintro _ rfl
  cases hzc : zeroC cond with
  | false =>
    have hnb : ¬ bareE cond thn els := fun h => absurd (hzc.symm.trans h.1) (by decide);refine vr 1 ?_;refine Mf fun _ => ?_;exact pW hl2 ⟨.inl (zZ (by decide) hnb), rfl⟩
  | true =>
    have hbr : bareE cond thn els := ⟨hzc, by omega⟩;refine vr 1 ?_;refine Mt 6 ?_;refine Lo 0 sg42 rfl hc0 ?_;refine cfo 2 ?_;refine Lo 0 sg42 rfl hc0 ?_;refine cfo 3 ?_;refine Lo 0 sg42 rfl hc0 ?_;refine cfo 9 ?_;refine Ps 4 ?_;rw [show p + 1 + numW n = p + (1 + numW n) by omega]
    exact za hl2 [_] ⟨rfl, trivial⟩ [_] .p0 ⟨sHarm ++ sSp ++ sTarget ++ sSp ++ v ++ sSemi, by rw [wH hbr, hwho, h3]; rfl, by omega, congrArg (fun t => Value.string (bs t)) (by simp), rfl⟩
 ·have hws : whoP who = sideP who := by unfold whoP; rw [if_neg hw2]
  refine vr 5 ?_;refine Lo 0 sg42 rfl hc0 ?_;refine pe 0 (zV zl50 pl50 rfl rfl) ?_;refine Al 0 zl50 fun b3 => ?_;refine Sg 11 ag50 .here ?_;refine Lo 6 sg42 rfl hc0 ?_;refine ctr 16 ?_;refine Lo 0 sg42 rfl hc0 ?_;refine ctr 11 ?_;refine Lo 0 sg42 rfl hc1 ?_;refine cfa 6 ?_;refine Lo 0 sg42 rfl hc1 ?_;refine Cn cl110 rfl side110 ?_ ?_
  ·rintro _ _ ⟨h1, rfl⟩;exact pW hl2 ⟨.inl (jF (by decide) (hws.trans h1)), rfl⟩
  rintro _ _ ⟨u, hu, rfl, rfl⟩;have hul := zx hu;have hwho := hws.trans hu;refine Ps 0 ?_;refine Ps 6 ?_;refine Lo 1 sg89 rfl hcp ?_;refine La 0 ag45 haN ?_;refine Cp cl111 rfl .k1 (fun m' hm he => iN m' hm (p + 1) d hp1 hd) ?_ ?_
  ·rintro _ _ ⟨h3, rfl⟩;exact pW hl2 ⟨h3.imp (xO (by decide)) (fun h => by omega), rfl⟩
  rintro _ _ ⟨v, h3, h4, rfl, rfl⟩;have hvl := ym h3 h4;by_cases hname : name = []
  rotate_left
  ·refine Ps 3 ?_;refine Db (sq [0, 1, 2, 3, 4, 105, 6, 107] .done) ?_;refine vB 1 ?_;refine Vr 1 rfl (zG sg42 rfl hc1) ?_;refine Vr 1 rfl (zJ ag45 rfl rfl haN) ?_;refine zA rfl (yH co42 rfl rfl rfl .h1 .h1 ?_) rfl;refine vB 1 ?_;refine zA rfl (zj ag45 rfl rfl rfl .h1 (.there (.there (.cons (.cons (.cons (.cons .nil)))))) rfl ?_) rfl;refine Vn 5 ?_
   refine Lo 1 sg42 rfl hc1 ?_;refine Lb 0 sg42 .h1 ?_;refine ctr 2 ?_;refine Lo 1 sg9 rfl hc6 ?_;refine Lb 0 sg9 .h1 ?_;refine cfa 17 ?_;refine Mf fun _ => ?_;exact pW hl2 ⟨.inl (yN (by decide) (by decide) hname), rfl⟩
  subst hname;by_cases hle : la + lb = 0
  rotate_left
  ·have hnb : ¬ bareE cond thn els := fun h => hle (by have := h.2; omega);refine Ps 3 ?_;refine Db (sq [0, 1, 2, 3, 4, 105, 6, 107] .done) ?_;refine vB 1 ?_;refine Vr 1 rfl (zG sg42 rfl hc1) ?_;refine Vr 1 rfl (zJ ag45 rfl rfl haN) ?_;refine zA rfl (yH co42 rfl rfl rfl .h1 .h1 ?_) rfl;refine vB 1 ?_
   refine zA rfl (zj ag45 rfl rfl rfl .h1 (.there (.there (.cons (.cons (.cons (.cons .nil)))))) rfl ?_) rfl;refine Vn 5 ?_;refine Lo 1 sg42 rfl hc1 ?_;refine Lb 0 sg42 .h1 ?_;refine ctr 2 ?_;refine Lo 1 sg9 rfl hc6 ?_;refine Lb 0 sg9 .h1 ?_;refine ctr 3 ?_;refine Lo 2 sg38 rfl hc12 ?_;refine Lo 1 sg38 rfl hc13 ?_;refine pe 0 (zp rfl rfl (by omega)) ?_;refine cfo 7 ?_
   refine Mf fun _ => ?_;exact pW hl2 ⟨.inl (zZ (by decide) hnb), rfl⟩
  refine Ps 3 ?_;refine Db (sq [0, 1, 2, 3, 4, 105, 6, 107] .done) ?_;refine vB 1 ?_;refine Vr 1 rfl (zG sg42 rfl hc1) ?_;refine Vr 1 rfl (zJ ag45 rfl rfl haN) ?_;refine zA rfl (yH co42 rfl rfl rfl .h1 .h1 ?_) rfl;refine vB 1 ?_;refine zA rfl (zj ag45 rfl rfl rfl .h1 (.there (.there (.cons (.cons (.cons (.cons .nil)))))) rfl ?_) rfl;refine Vn 5 ?_
  refine Lo 1 sg42 rfl hc1 ?_;refine Lb 0 sg42 .h1 ?_;refine ctr 2 ?_;refine Lo 1 sg9 rfl hc6 ?_;refine Lb 0 sg9 .h1 ?_;refine ctr 3 ?_;refine Lo 2 sg38 rfl hc12 ?_;refine Lo 1 sg38 rfl hc13 ?_;refine pe 0 (zp rfl rfl (by omega)) ?_;refine cto 2 ?_;refine pe 1 (zV zl45 pl45 rfl rfl) ?_;refine La 0 ag48 haC ?_;refine Cr cl112 rfl (fun m' hm he => (plainC112 hc)) ?_;rintro _ rfl
  cases hzc : zeroC cond with
  | false =>
    have hnb : ¬ bareE cond thn els := fun h => absurd (hzc.symm.trans h.1) (by decide);refine vr 1 ?_;refine Mf fun _ => ?_;exact pW hl2 ⟨.inl (zZ (by decide) hnb), rfl⟩
  | true =>
    have hbr : bareE cond thn els := ⟨hzc, by omega⟩;refine vr 1 ?_;refine Mt 6 ?_;refine Lo 0 sg42 rfl hc0 ?_;refine cfo 2 ?_;refine Lo 0 sg42 rfl hc0 ?_;refine cfo 3 ?_;refine Lo 0 sg42 rfl hc0 ?_;refine cfo 9 ?_;refine Ps 4 ?_;rw [show p + 1 + numW n = p + (1 + numW n) by omega]
    exact za hl2 [_] ⟨rfl, trivial⟩ [_] .p0 ⟨sHarm ++ sSp ++ u ++ sSp ++ v ++ sSemi, by rw [wH hbr, hwho, h3]; rfl, by omega, congrArg (fun t => Value.string (bs t)) (by simp), rfl⟩
end
section
open Wd Tp Kd
variable {m : Mp} {b d p : Nat}
theorem Zq (hT : TabI m) (hU : Tabs m) {op who nop nn nwho : Int} {nA : Option Addr} {nl nc : Nat} {name : List UInt8} {cop cwho : Int} {cname : List UInt8} {cA : Option Addr} {cla cca : Nat} {cB : Option Addr} {clb ccb : Nat} {TA : Option Addr} {la ca : Nat} {EB : Option Addr} {lb cb : Nat} {n : NumT} {cond : CondT} {thn els : List EffT}
  (hn : NumR m (n4 nop nn nwho nA nl nc) n) (hc : CondR m (c5 cop cwho cname cA cla cca cB clb ccb) cond) (hcs : CondSm cond) (hnm : name.length ≤ 140737488355328) (hla : thn.length = la) (hlb : els.length = lb) (hla2 : la ≤ 140737488355328) (hlb2 : lb ≤ 140737488355328)
  (hbt : BlkOk m b TA la ca thn) (hbe : BlkOk m b EB lb cb els) (hop : op = 1) : EffOk m b (e14 op who nop nn nwho nA nl nc name cop cwho cname cA cla cca cB clb ccb TA la ca EB lb cb) (.mk op who n name cond thn els) := by
 subst hop;intro m0 hm0 p d hp hd;skip;refine zg [.tmp 4] Tryz.func94 rfl rfl rfl ?_;refine tr 2 ?_;refine Bx 0 rfl fun b1 => ?_;refine Bx 4 rfl fun b2 => ?_;refine zI .here (fun ns hi _ hd1 => ?_);refine zI .here (fun ns2 hi2 _ hd2 => ?_)
 have hR : Rd (uni (uni m0 ns) ns2) (some ⟨b2, 0, none⟩) (e14 1 who nop nn nwho nA nl nc name cop cwho cname cA cla cca cB clb ccb TA la ca EB lb cb) := ((Rd.blk hi).mono (zP hd1)).mono (zN _ _);have haN : At (uni (uni m0 ns) ns2) ⟨b2, 2, none⟩ (n4 nop nn nwho nA nl nc) := ((At.blkO (o := 2) (k := 4) hi).mono (zP hd1)).mono (zN _ _)
 have haC : At (uni (uni m0 ns) ns2) ⟨b2, 7, none⟩ (c5 cop cwho cname cA cla cca cB clb ccb) := ((At.blkO (o := 7) (k := 5) hi).mono (zP hd1)).mono (zN _ _);have hR1 : Rd (uni (uni m0 ns) ns2) (some ⟨b1, 0, none⟩) [ptr b] := (Rd.blk hi2).mono (zP hd2);have hl2 : Le m0 (uni (uni m0 ns) ns2) := (zN _ _).trans (zN _ _);clear hi hd1 hi2 hd2
 generalize uni (uni m0 ns) ns2 = m9 at hR hR1 hl2 haN haC;have hl9 := hm0.trans hl2;have hT := hT.mono hl9;have hU := hU.mono hl9;have hn := hn.mono hl9;have hc := hc.mono hl9;have hbt := hbt.mono hl9;have hbe := hbe.mono hl9;have iN : NumOk m9 b _ n := num111 (b := b) hT hn;have iC : CondOk m9 b _ cond := cond115 (b := b) hT hU hc hcs
 have hcp : mc m9 ⟨b1, 0, none⟩ = some (ptr b) := hR1.at_ (i := 0) rfl;have hc0 : mc m9 ⟨b2, 0, none⟩ = some (.int .i8 1) := hR.at_ (i := 0) rfl;have hc1 : mc m9 ⟨b2, 1, none⟩ = some (.int .i8 who) := hR.at_ (i := 1) rfl;have hc6 : mc m9 ⟨b2, 6, none⟩ = some (.string (bs name)) := hR.at_ (i := 6) rfl;have hc12 : mc m9 ⟨b2, 12, none⟩ = some (.slice TA la ca) := hR.at_ (i := 12) rfl
 have hc13 : mc m9 ⟨b2, 13, none⟩ = some (.slice EB lb cb) := hR.at_ (i := 13) rfl;have hw1 := yC (.mk 1 who n name cond thn els);refine tr 1 ?_;refine Lo 0 sg89 rfl hcp ?_;refine Cp cl109 rfl .k0 (fun m' hm he => part109 hp) ?_ ?_
 ·rintro _ _ ⟨h1, rfl⟩;exact pW hl2 ⟨.inr (by omega), rfl⟩
 rintro _ _ ⟨hp1, rfl, rfl⟩;rw [yv (by decide)];by_cases hw2 : who = 2
 ·have hwho : whoP who = some sTarget := by unfold whoP; rw [if_pos hw2]
  refine vr 5 ?_;refine Lo 0 sg42 rfl hc0 ?_;refine pe 0 (zV zl50 pl50 rfl rfl) ?_;refine Al 0 zl50 fun b3 => ?_;refine Sg 11 ag50 .here ?_;refine Lo 6 sg42 rfl hc0 ?_;refine cfo 5 ?_;refine ctr 13 ?_;refine Lo 0 sg42 rfl hc0 ?_;refine cfo 9 ?_;refine Lo 0 sg42 rfl hc1 ?_;refine cta 5 ?_;refine Ps 6 ?_;refine Lo 1 sg89 rfl hcp ?_;refine La 0 ag45 haN ?_
  refine Cp cl111 rfl .k1 (fun m' hm he => iN m' hm (p + 1) d hp1 hd) ?_ ?_
  ·rintro _ _ ⟨h3, rfl⟩;exact pW hl2 ⟨h3.imp (xO (by decide)) (fun h => by omega), rfl⟩
  rintro _ _ ⟨v, h3, h4, rfl, rfl⟩;have hvl := ym h3 h4;by_cases hname : name = []
  rotate_left
  ·refine Ps 3 ?_;refine Db (sq [0, 1, 2, 3, 4, 105, 6, 107] .done) ?_;refine vB 1 ?_;refine Vr 1 rfl (zG sg42 rfl hc1) ?_;refine Vr 1 rfl (zJ ag45 rfl rfl haN) ?_;refine zA rfl (yH co42 rfl rfl rfl .h1 .h1 ?_) rfl;refine vB 1 ?_;refine zA rfl (zj ag45 rfl rfl rfl .h1 (.there (.there (.cons (.cons (.cons (.cons .nil)))))) rfl ?_) rfl;refine Vn 5 ?_
   refine Lo 1 sg42 rfl hc1 ?_;refine Lb 0 sg42 .h1 ?_;refine ctr 2 ?_;refine Lo 1 sg9 rfl hc6 ?_;refine Lb 0 sg9 .h1 ?_;refine cfa 17 ?_;refine Mf fun _ => ?_;exact pW hl2 ⟨.inl (yN (by decide) (by decide) hname), rfl⟩
  subst hname;by_cases hle : la + lb = 0
  rotate_left
  ·have hnb : ¬ bareE cond thn els := fun h => hle (by have := h.2; omega);refine Ps 3 ?_;refine Db (sq [0, 1, 2, 3, 4, 105, 6, 107] .done) ?_;refine vB 1 ?_;refine Vr 1 rfl (zG sg42 rfl hc1) ?_;refine Vr 1 rfl (zJ ag45 rfl rfl haN) ?_;refine zA rfl (yH co42 rfl rfl rfl .h1 .h1 ?_) rfl;refine vB 1 ?_
   refine zA rfl (zj ag45 rfl rfl rfl .h1 (.there (.there (.cons (.cons (.cons (.cons .nil)))))) rfl ?_) rfl;refine Vn 5 ?_;refine Lo 1 sg42 rfl hc1 ?_;refine Lb 0 sg42 .h1 ?_;refine ctr 2 ?_;refine Lo 1 sg9 rfl hc6 ?_;refine Lb 0 sg9 .h1 ?_;refine ctr 3 ?_;refine Lo 2 sg38 rfl hc12 ?_;refine Lo 1 sg38 rfl hc13 ?_;refine pe 0 (zp rfl rfl (by omega)) ?_;refine cfo 7 ?_
   refine Mf fun _ => ?_;exact pW hl2 ⟨.inl (zZ (by decide) hnb), rfl⟩
  refine Ps 3 ?_;refine Db (sq [0, 1, 2, 3, 4, 105, 6, 107] .done) ?_;refine vB 1 ?_;refine Vr 1 rfl (zG sg42 rfl hc1) ?_;refine Vr 1 rfl (zJ ag45 rfl rfl haN) ?_;refine zA rfl (yH co42 rfl rfl rfl .h1 .h1 ?_) rfl;refine vB 1 ?_;refine zA rfl (zj ag45 rfl rfl rfl .h1 (.there (.there (.cons (.cons (.cons (.cons .nil)))))) rfl ?_) rfl;refine Vn 5 ?_
  refine Lo 1 sg42 rfl hc1 ?_;refine Lb 0 sg42 .h1 ?_;refine ctr 2 ?_;refine Lo 1 sg9 rfl hc6 ?_;refine Lb 0 sg9 .h1 ?_;refine ctr 3 ?_;refine Lo 2 sg38 rfl hc12 ?_;refine Lo 1 sg38 rfl hc13 ?_;refine pe 0 (zp rfl rfl (by omega)) ?_;refine cto 2 ?_;refine pe 1 (zV zl45 pl45 rfl rfl) ?_;refine La 0 ag48 haC ?_;refine Cr cl112 rfl (fun m' hm he => (plainC112 hc)) ?_;rintro _ rfl
  cases hzc : zeroC cond with
  | false =>
    have hnb : ¬ bareE cond thn els := fun h => absurd (hzc.symm.trans h.1) (by decide);refine vr 1 ?_;refine Mf fun _ => ?_;exact pW hl2 ⟨.inl (zZ (by decide) hnb), rfl⟩
  | true =>
    have hbr : bareE cond thn els := ⟨hzc, by omega⟩;refine vr 1 ?_;refine Mt 6 ?_;refine Lo 0 sg42 rfl hc0 ?_;refine cfo 2 ?_;refine Lo 0 sg42 rfl hc0 ?_;refine cfo 3 ?_;refine Lo 0 sg42 rfl hc0 ?_;refine cfo 9 ?_;refine Ps 4 ?_;rw [show p + 1 + numW n = p + (1 + numW n) by omega]
    exact za hl2 [_] ⟨rfl, trivial⟩ [_] .p0 ⟨sMend ++ sSp ++ sTarget ++ sSp ++ v ++ sSemi, by rw [wG hbr, hwho, h3]; rfl, by omega, congrArg (fun t => Value.string (bs t)) (by simp), rfl⟩
 ·have hws : whoP who = sideP who := by unfold whoP; rw [if_neg hw2]
  refine vr 5 ?_;refine Lo 0 sg42 rfl hc0 ?_;refine pe 0 (zV zl50 pl50 rfl rfl) ?_;refine Al 0 zl50 fun b3 => ?_;refine Sg 11 ag50 .here ?_;refine Lo 6 sg42 rfl hc0 ?_;refine cfo 5 ?_;refine ctr 13 ?_;refine Lo 0 sg42 rfl hc0 ?_;refine cfo 9 ?_;refine Lo 0 sg42 rfl hc1 ?_;refine cfa 6 ?_;refine Lo 0 sg42 rfl hc1 ?_;refine Cn cl110 rfl side110 ?_ ?_
  ·rintro _ _ ⟨h1, rfl⟩;exact pW hl2 ⟨.inl (jF (by decide) (hws.trans h1)), rfl⟩
  rintro _ _ ⟨u, hu, rfl, rfl⟩;have hul := zx hu;have hwho := hws.trans hu;refine Ps 0 ?_;refine Ps 6 ?_;refine Lo 1 sg89 rfl hcp ?_;refine La 0 ag45 haN ?_;refine Cp cl111 rfl .k1 (fun m' hm he => iN m' hm (p + 1) d hp1 hd) ?_ ?_
  ·rintro _ _ ⟨h3, rfl⟩;exact pW hl2 ⟨h3.imp (xO (by decide)) (fun h => by omega), rfl⟩
  rintro _ _ ⟨v, h3, h4, rfl, rfl⟩;have hvl := ym h3 h4;by_cases hname : name = []
  rotate_left
  ·refine Ps 3 ?_;refine Db (sq [0, 1, 2, 3, 4, 105, 6, 107] .done) ?_;refine vB 1 ?_;refine Vr 1 rfl (zG sg42 rfl hc1) ?_;refine Vr 1 rfl (zJ ag45 rfl rfl haN) ?_;refine zA rfl (yH co42 rfl rfl rfl .h1 .h1 ?_) rfl;refine vB 1 ?_;refine zA rfl (zj ag45 rfl rfl rfl .h1 (.there (.there (.cons (.cons (.cons (.cons .nil)))))) rfl ?_) rfl;refine Vn 5 ?_
   refine Lo 1 sg42 rfl hc1 ?_;refine Lb 0 sg42 .h1 ?_;refine ctr 2 ?_;refine Lo 1 sg9 rfl hc6 ?_;refine Lb 0 sg9 .h1 ?_;refine cfa 17 ?_;refine Mf fun _ => ?_;exact pW hl2 ⟨.inl (yN (by decide) (by decide) hname), rfl⟩
  subst hname;by_cases hle : la + lb = 0
  rotate_left
  ·have hnb : ¬ bareE cond thn els := fun h => hle (by have := h.2; omega);refine Ps 3 ?_;refine Db (sq [0, 1, 2, 3, 4, 105, 6, 107] .done) ?_;refine vB 1 ?_;refine Vr 1 rfl (zG sg42 rfl hc1) ?_;refine Vr 1 rfl (zJ ag45 rfl rfl haN) ?_;refine zA rfl (yH co42 rfl rfl rfl .h1 .h1 ?_) rfl;refine vB 1 ?_
   refine zA rfl (zj ag45 rfl rfl rfl .h1 (.there (.there (.cons (.cons (.cons (.cons .nil)))))) rfl ?_) rfl;refine Vn 5 ?_;refine Lo 1 sg42 rfl hc1 ?_;refine Lb 0 sg42 .h1 ?_;refine ctr 2 ?_;refine Lo 1 sg9 rfl hc6 ?_;refine Lb 0 sg9 .h1 ?_;refine ctr 3 ?_;refine Lo 2 sg38 rfl hc12 ?_;refine Lo 1 sg38 rfl hc13 ?_;refine pe 0 (zp rfl rfl (by omega)) ?_;refine cfo 7 ?_
   refine Mf fun _ => ?_;exact pW hl2 ⟨.inl (zZ (by decide) hnb), rfl⟩
  refine Ps 3 ?_;refine Db (sq [0, 1, 2, 3, 4, 105, 6, 107] .done) ?_;refine vB 1 ?_;refine Vr 1 rfl (zG sg42 rfl hc1) ?_;refine Vr 1 rfl (zJ ag45 rfl rfl haN) ?_;refine zA rfl (yH co42 rfl rfl rfl .h1 .h1 ?_) rfl;refine vB 1 ?_;refine zA rfl (zj ag45 rfl rfl rfl .h1 (.there (.there (.cons (.cons (.cons (.cons .nil)))))) rfl ?_) rfl;refine Vn 5 ?_
  refine Lo 1 sg42 rfl hc1 ?_;refine Lb 0 sg42 .h1 ?_;refine ctr 2 ?_;refine Lo 1 sg9 rfl hc6 ?_;refine Lb 0 sg9 .h1 ?_;refine ctr 3 ?_;refine Lo 2 sg38 rfl hc12 ?_;refine Lo 1 sg38 rfl hc13 ?_;refine pe 0 (zp rfl rfl (by omega)) ?_;refine cto 2 ?_;refine pe 1 (zV zl45 pl45 rfl rfl) ?_;refine La 0 ag48 haC ?_;refine Cr cl112 rfl (fun m' hm he => (plainC112 hc)) ?_;rintro _ rfl
  cases hzc : zeroC cond with
  | false =>
    have hnb : ¬ bareE cond thn els := fun h => absurd (hzc.symm.trans h.1) (by decide);refine vr 1 ?_;refine Mf fun _ => ?_;exact pW hl2 ⟨.inl (zZ (by decide) hnb), rfl⟩
  | true =>
    have hbr : bareE cond thn els := ⟨hzc, by omega⟩;refine vr 1 ?_;refine Mt 6 ?_;refine Lo 0 sg42 rfl hc0 ?_;refine cfo 2 ?_;refine Lo 0 sg42 rfl hc0 ?_;refine cfo 3 ?_;refine Lo 0 sg42 rfl hc0 ?_;refine cfo 9 ?_;refine Ps 4 ?_;rw [show p + 1 + numW n = p + (1 + numW n) by omega]
    exact za hl2 [_] ⟨rfl, trivial⟩ [_] .p0 ⟨sMend ++ sSp ++ u ++ sSp ++ v ++ sSemi, by rw [wG hbr, hwho, h3]; rfl, by omega, congrArg (fun t => Value.string (bs t)) (by simp), rfl⟩
end
section
open Wd Tp Kd
variable {m : Mp} {b d p : Nat}
theorem Zw (hT : TabI m) (hU : Tabs m) {op who nop nn nwho : Int} {nA : Option Addr} {nl nc : Nat} {name : List UInt8} {cop cwho : Int} {cname : List UInt8} {cA : Option Addr} {cla cca : Nat} {cB : Option Addr} {clb ccb : Nat} {TA : Option Addr} {la ca : Nat} {EB : Option Addr} {lb cb : Nat} {n : NumT} {cond : CondT} {thn els : List EffT}
  (hn : NumR m (n4 nop nn nwho nA nl nc) n) (hc : CondR m (c5 cop cwho cname cA cla cca cB clb ccb) cond) (hcs : CondSm cond) (hnm : name.length ≤ 140737488355328) (hla : thn.length = la) (hlb : els.length = lb) (hla2 : la ≤ 140737488355328) (hlb2 : lb ≤ 140737488355328)
  (hbt : BlkOk m b TA la ca thn) (hbe : BlkOk m b EB lb cb els) (hop : op = 2) : EffOk m b (e14 op who nop nn nwho nA nl nc name cop cwho cname cA cla cca cB clb ccb TA la ca EB lb cb) (.mk op who n name cond thn els) := by
 subst hop;intro m0 hm0 p d hp hd;skip;refine zg [.tmp 4] Tryz.func94 rfl rfl rfl ?_;refine tr 2 ?_;refine Bx 0 rfl fun b1 => ?_;refine Bx 4 rfl fun b2 => ?_;refine zI .here (fun ns hi _ hd1 => ?_);refine zI .here (fun ns2 hi2 _ hd2 => ?_)
 have hR : Rd (uni (uni m0 ns) ns2) (some ⟨b2, 0, none⟩) (e14 2 who nop nn nwho nA nl nc name cop cwho cname cA cla cca cB clb ccb TA la ca EB lb cb) := ((Rd.blk hi).mono (zP hd1)).mono (zN _ _);have haN : At (uni (uni m0 ns) ns2) ⟨b2, 2, none⟩ (n4 nop nn nwho nA nl nc) := ((At.blkO (o := 2) (k := 4) hi).mono (zP hd1)).mono (zN _ _)
 have haC : At (uni (uni m0 ns) ns2) ⟨b2, 7, none⟩ (c5 cop cwho cname cA cla cca cB clb ccb) := ((At.blkO (o := 7) (k := 5) hi).mono (zP hd1)).mono (zN _ _);have hR1 : Rd (uni (uni m0 ns) ns2) (some ⟨b1, 0, none⟩) [ptr b] := (Rd.blk hi2).mono (zP hd2);have hl2 : Le m0 (uni (uni m0 ns) ns2) := (zN _ _).trans (zN _ _);clear hi hd1 hi2 hd2
 generalize uni (uni m0 ns) ns2 = m9 at hR hR1 hl2 haN haC;have hl9 := hm0.trans hl2;have hT := hT.mono hl9;have hU := hU.mono hl9;have hn := hn.mono hl9;have hc := hc.mono hl9;have hbt := hbt.mono hl9;have hbe := hbe.mono hl9;have iN : NumOk m9 b _ n := num111 (b := b) hT hn;have iC : CondOk m9 b _ cond := cond115 (b := b) hT hU hc hcs
 have hcp : mc m9 ⟨b1, 0, none⟩ = some (ptr b) := hR1.at_ (i := 0) rfl;have hc0 : mc m9 ⟨b2, 0, none⟩ = some (.int .i8 2) := hR.at_ (i := 0) rfl;have hc1 : mc m9 ⟨b2, 1, none⟩ = some (.int .i8 who) := hR.at_ (i := 1) rfl;have hc6 : mc m9 ⟨b2, 6, none⟩ = some (.string (bs name)) := hR.at_ (i := 6) rfl;have hc12 : mc m9 ⟨b2, 12, none⟩ = some (.slice TA la ca) := hR.at_ (i := 12) rfl
 have hc13 : mc m9 ⟨b2, 13, none⟩ = some (.slice EB lb cb) := hR.at_ (i := 13) rfl;have hw1 := yC (.mk 2 who n name cond thn els);refine tr 1 ?_;refine Lo 0 sg89 rfl hcp ?_;refine Cp cl109 rfl .k0 (fun m' hm he => part109 hp) ?_ ?_
 ·rintro _ _ ⟨h1, rfl⟩;exact pW hl2 ⟨.inr (by omega), rfl⟩
 rintro _ _ ⟨hp1, rfl, rfl⟩;rw [yv (by decide)];refine vr 5 ?_;refine Lo 0 sg42 rfl hc0 ?_;refine pe 0 (zV zl50 pl50 rfl rfl) ?_;refine Al 0 zl50 fun b3 => ?_;refine Sg 11 ag50 .here ?_;refine Lo 6 sg42 rfl hc0 ?_;refine cfo 5 ?_;refine cfo 6 ?_;refine ctr 5 ?_;refine Db (sq [0, 1, 5, 6, 7, 102, 3, 4, 108, 9, 10] .done) ?_;refine vB 1 ?_;refine Vr 0 rfl (zG sg42 rfl hc1) ?_
 refine Vr 1 rfl (zG sg89 rfl hcp) ?_;refine Vr 0 rfl (zJ ag45 rfl rfl haN) ?_;refine zA rfl ((zW cl110 rfl .nil (fun m' hm he => side110) rfl ?_ ?_)) rfl
 ·rintro _ _ ⟨h1, rfl⟩;exact pW hl2 ⟨.inl (vW (by decide) h1), rfl⟩
 rintro _ _ ⟨u, hu, rfl, rfl⟩;have hul := zx hu;refine Vs 0 rfl ?_;refine Vs 0 rfl ?_;refine zA rfl ((zW cl111 rfl .k1 (fun m' hm he => iN m' hm (p + 1) d hp1 hd) rfl ?_ ?_)) rfl
 ·rintro _ _ ⟨h3, rfl⟩;exact pW hl2 ⟨h3.imp (xO (by decide)) (fun h => by omega), rfl⟩
 rintro _ _ ⟨v, h3, h4, rfl, rfl⟩;have hvl := ym h3 h4;by_cases hname : name = []
 rotate_left
 ·refine Vs 1 rfl ?_;refine Vn 1 ?_;refine Db (sq [0, 1, 2, 3, 4, 105, 6, 107] .done) ?_;refine vB 1 ?_;refine Vr 1 rfl (zG sg42 rfl hc1) ?_;refine Vr 1 rfl (zJ ag45 rfl rfl haN) ?_;refine zA rfl (yH co42 rfl rfl rfl .h1 .h1 ?_) rfl;refine vB 1 ?_;refine zA rfl (zj ag45 rfl rfl rfl .h1 (.there (.there (.cons (.cons (.cons (.cons .nil)))))) rfl ?_) rfl
  refine Vn 5 ?_;refine Lo 1 sg42 rfl hc1 ?_;refine Lb 0 sg42 .h1 ?_;refine ctr 2 ?_;refine Lo 1 sg9 rfl hc6 ?_;refine Lb 0 sg9 .h1 ?_;refine cfa 17 ?_;refine Mf fun _ => ?_;exact pW hl2 ⟨.inl (yN (by decide) (by decide) hname), rfl⟩
 subst hname;by_cases hle : la + lb = 0
 rotate_left
 ·have hnb : ¬ bareE cond thn els := fun h => hle (by have := h.2; omega);refine Vs 1 rfl ?_;refine Vn 1 ?_;refine Db (sq [0, 1, 2, 3, 4, 105, 6, 107] .done) ?_;refine vB 1 ?_;refine Vr 1 rfl (zG sg42 rfl hc1) ?_;refine Vr 1 rfl (zJ ag45 rfl rfl haN) ?_;refine zA rfl (yH co42 rfl rfl rfl .h1 .h1 ?_) rfl;refine vB 1 ?_
  refine zA rfl (zj ag45 rfl rfl rfl .h1 (.there (.there (.cons (.cons (.cons (.cons .nil)))))) rfl ?_) rfl;refine Vn 5 ?_;refine Lo 1 sg42 rfl hc1 ?_;refine Lb 0 sg42 .h1 ?_;refine ctr 2 ?_;refine Lo 1 sg9 rfl hc6 ?_;refine Lb 0 sg9 .h1 ?_;refine ctr 3 ?_;refine Lo 2 sg38 rfl hc12 ?_;refine Lo 1 sg38 rfl hc13 ?_;refine pe 0 (zp rfl rfl (by omega)) ?_;refine cfo 7 ?_
  refine Mf fun _ => ?_;exact pW hl2 ⟨.inl (zZ (by decide) hnb), rfl⟩
 refine Vs 1 rfl ?_;refine Vn 1 ?_;refine Db (sq [0, 1, 2, 3, 4, 105, 6, 107] .done) ?_;refine vB 1 ?_;refine Vr 1 rfl (zG sg42 rfl hc1) ?_;refine Vr 1 rfl (zJ ag45 rfl rfl haN) ?_;refine zA rfl (yH co42 rfl rfl rfl .h1 .h1 ?_) rfl;refine vB 1 ?_;refine zA rfl (zj ag45 rfl rfl rfl .h1 (.there (.there (.cons (.cons (.cons (.cons .nil)))))) rfl ?_) rfl
 refine Vn 5 ?_;refine Lo 1 sg42 rfl hc1 ?_;refine Lb 0 sg42 .h1 ?_;refine ctr 2 ?_;refine Lo 1 sg9 rfl hc6 ?_;refine Lb 0 sg9 .h1 ?_;refine ctr 3 ?_;refine Lo 2 sg38 rfl hc12 ?_;refine Lo 1 sg38 rfl hc13 ?_;refine pe 0 (zp rfl rfl (by omega)) ?_;refine cto 2 ?_;refine pe 1 (zV zl45 pl45 rfl rfl) ?_;refine La 0 ag48 haC ?_;refine Cr cl112 rfl (fun m' hm he => (plainC112 hc)) ?_
 rintro _ rfl;cases hzc : zeroC cond with
 | false =>
   have hnb : ¬ bareE cond thn els := fun h => absurd (hzc.symm.trans h.1) (by decide);refine vr 1 ?_;refine Mf fun _ => ?_;exact pW hl2 ⟨.inl (zZ (by decide) hnb), rfl⟩
 | true =>
   have hbr : bareE cond thn els := ⟨hzc, by omega⟩;refine vr 1 ?_;refine Mt 6 ?_;refine Lo 0 sg42 rfl hc0 ?_;refine cfo 2 ?_;refine Lo 0 sg42 rfl hc0 ?_;refine cfo 3 ?_;refine Lo 0 sg42 rfl hc0 ?_;refine cfo 9 ?_;refine Ps 4 ?_;rw [show p + 1 + numW n = p + (1 + numW n) by omega]
   exact za hl2 [_] ⟨rfl, trivial⟩ [_] .p0 ⟨sDraw ++ sSp ++ u ++ sSp ++ v ++ sSemi, by rw [wo hbr, hu, h3]; rfl, by omega, congrArg (fun t => Value.string (bs t)) (by simp), rfl⟩
end
section
open Wd Tp Kd
variable {m : Mp} {b d p : Nat}
theorem Zt (hT : TabI m) (hU : Tabs m) {op who nop nn nwho : Int} {nA : Option Addr} {nl nc : Nat} {name : List UInt8} {cop cwho : Int} {cname : List UInt8} {cA : Option Addr} {cla cca : Nat} {cB : Option Addr} {clb ccb : Nat} {TA : Option Addr} {la ca : Nat} {EB : Option Addr} {lb cb : Nat} {n : NumT} {cond : CondT} {thn els : List EffT}
  (hn : NumR m (n4 nop nn nwho nA nl nc) n) (hc : CondR m (c5 cop cwho cname cA cla cca cB clb ccb) cond) (hcs : CondSm cond) (hnm : name.length ≤ 140737488355328) (hla : thn.length = la) (hlb : els.length = lb) (hla2 : la ≤ 140737488355328) (hlb2 : lb ≤ 140737488355328)
  (hbt : BlkOk m b TA la ca thn) (hbe : BlkOk m b EB lb cb els) (hop : op = 3) : EffOk m b (e14 op who nop nn nwho nA nl nc name cop cwho cname cA cla cca cB clb ccb TA la ca EB lb cb) (.mk op who n name cond thn els) := by
 subst hop;intro m0 hm0 p d hp hd;skip;refine zg [.tmp 4] Tryz.func94 rfl rfl rfl ?_;refine tr 2 ?_;refine Bx 0 rfl fun b1 => ?_;refine Bx 4 rfl fun b2 => ?_;refine zI .here (fun ns hi _ hd1 => ?_);refine zI .here (fun ns2 hi2 _ hd2 => ?_)
 have hR : Rd (uni (uni m0 ns) ns2) (some ⟨b2, 0, none⟩) (e14 3 who nop nn nwho nA nl nc name cop cwho cname cA cla cca cB clb ccb TA la ca EB lb cb) := ((Rd.blk hi).mono (zP hd1)).mono (zN _ _);have haN : At (uni (uni m0 ns) ns2) ⟨b2, 2, none⟩ (n4 nop nn nwho nA nl nc) := ((At.blkO (o := 2) (k := 4) hi).mono (zP hd1)).mono (zN _ _)
 have haC : At (uni (uni m0 ns) ns2) ⟨b2, 7, none⟩ (c5 cop cwho cname cA cla cca cB clb ccb) := ((At.blkO (o := 7) (k := 5) hi).mono (zP hd1)).mono (zN _ _);have hR1 : Rd (uni (uni m0 ns) ns2) (some ⟨b1, 0, none⟩) [ptr b] := (Rd.blk hi2).mono (zP hd2);have hl2 : Le m0 (uni (uni m0 ns) ns2) := (zN _ _).trans (zN _ _);clear hi hd1 hi2 hd2
 generalize uni (uni m0 ns) ns2 = m9 at hR hR1 hl2 haN haC;have hl9 := hm0.trans hl2;have hT := hT.mono hl9;have hU := hU.mono hl9;have hn := hn.mono hl9;have hc := hc.mono hl9;have hbt := hbt.mono hl9;have hbe := hbe.mono hl9;have iN : NumOk m9 b _ n := num111 (b := b) hT hn;have iC : CondOk m9 b _ cond := cond115 (b := b) hT hU hc hcs
 have hcp : mc m9 ⟨b1, 0, none⟩ = some (ptr b) := hR1.at_ (i := 0) rfl;have hc0 : mc m9 ⟨b2, 0, none⟩ = some (.int .i8 3) := hR.at_ (i := 0) rfl;have hc1 : mc m9 ⟨b2, 1, none⟩ = some (.int .i8 who) := hR.at_ (i := 1) rfl;have hc6 : mc m9 ⟨b2, 6, none⟩ = some (.string (bs name)) := hR.at_ (i := 6) rfl;have hc12 : mc m9 ⟨b2, 12, none⟩ = some (.slice TA la ca) := hR.at_ (i := 12) rfl
 have hc13 : mc m9 ⟨b2, 13, none⟩ = some (.slice EB lb cb) := hR.at_ (i := 13) rfl;have hw1 := yC (.mk 3 who n name cond thn els);refine tr 1 ?_;refine Lo 0 sg89 rfl hcp ?_;refine Cp cl109 rfl .k0 (fun m' hm he => part109 hp) ?_ ?_
 ·rintro _ _ ⟨h1, rfl⟩;exact pW hl2 ⟨.inr (by omega), rfl⟩
 rintro _ _ ⟨hp1, rfl, rfl⟩;rw [yv (by decide)];refine vr 5 ?_;refine Lo 0 sg42 rfl hc0 ?_;refine pe 0 (zV zl50 pl50 rfl rfl) ?_;refine Al 0 zl50 fun b3 => ?_;refine Sg 11 ag50 .here ?_;refine Lo 6 sg42 rfl hc0 ?_;refine cfo 5 ?_;refine cfo 6 ?_;refine cfo 6 ?_;refine ctr 6 ?_;refine Lo 1 sg89 rfl hcp ?_;refine La 0 ag45 haN ?_
 refine Cp cl111 rfl .k1 (fun m' hm he => iN m' hm (p + 1) d hp1 hd) ?_ ?_
 ·rintro _ _ ⟨h3, rfl⟩;exact pW hl2 ⟨h3.imp (xO (by decide)) (fun h => by omega), rfl⟩
 rintro _ _ ⟨v, h3, h4, rfl, rfl⟩;have hvl := ym h3 h4;by_cases hwho : who = 0
 rotate_left
 ·refine Ps 5 ?_;refine La 1 ag45 haN ?_;refine zC (zj ag45 rfl rfl rfl .h1 (.there (.there (.cons (.cons (.cons (.cons .nil)))))) rfl ?_) rfl;refine vr 6 ?_;refine Lo 1 sg42 rfl hc1 ?_;refine Lb 0 sg42 .h1 ?_;refine cfa 23 ?_;refine Mf fun _ => ?_;exact pW hl2 ⟨.inl (xb (by decide) hwho), rfl⟩
 subst hwho;by_cases hname : name = []
 rotate_left
 ·refine Ps 5 ?_;refine La 1 ag45 haN ?_;refine zC (zj ag45 rfl rfl rfl .h1 (.there (.there (.cons (.cons (.cons (.cons .nil)))))) rfl ?_) rfl;refine vr 6 ?_;refine Lo 1 sg42 rfl hc1 ?_;refine Lb 0 sg42 .h1 ?_;refine ctr 2 ?_;refine Lo 1 sg9 rfl hc6 ?_;refine Lb 0 sg9 .h1 ?_;refine cfa 17 ?_;refine Mf fun _ => ?_;exact pW hl2 ⟨.inl (yN (by decide) (by decide) hname), rfl⟩
 subst hname;by_cases hle : la + lb = 0
 rotate_left
 ·have hnb : ¬ bareE cond thn els := fun h => hle (by have := h.2; omega);refine Ps 5 ?_;refine La 1 ag45 haN ?_;refine zC (zj ag45 rfl rfl rfl .h1 (.there (.there (.cons (.cons (.cons (.cons .nil)))))) rfl ?_) rfl;refine vr 6 ?_;refine Lo 1 sg42 rfl hc1 ?_;refine Lb 0 sg42 .h1 ?_;refine ctr 2 ?_;refine Lo 1 sg9 rfl hc6 ?_;refine Lb 0 sg9 .h1 ?_;refine ctr 3 ?_
  refine Lo 2 sg38 rfl hc12 ?_;refine Lo 1 sg38 rfl hc13 ?_;refine pe 0 (zp rfl rfl (by omega)) ?_;refine cfo 7 ?_;refine Mf fun _ => ?_;exact pW hl2 ⟨.inl (zZ (by decide) hnb), rfl⟩
 refine Ps 5 ?_;refine La 1 ag45 haN ?_;refine zC (zj ag45 rfl rfl rfl .h1 (.there (.there (.cons (.cons (.cons (.cons .nil)))))) rfl ?_) rfl;refine vr 6 ?_;refine Lo 1 sg42 rfl hc1 ?_;refine Lb 0 sg42 .h1 ?_;refine ctr 2 ?_;refine Lo 1 sg9 rfl hc6 ?_;refine Lb 0 sg9 .h1 ?_;refine ctr 3 ?_;refine Lo 2 sg38 rfl hc12 ?_;refine Lo 1 sg38 rfl hc13 ?_
 refine pe 0 (zp rfl rfl (by omega)) ?_;refine cto 2 ?_;refine pe 1 (zV zl45 pl45 rfl rfl) ?_;refine La 0 ag48 haC ?_;refine Cr cl112 rfl (fun m' hm he => (plainC112 hc)) ?_;rintro _ rfl;cases hzc : zeroC cond with
 | false =>
   have hnb : ¬ bareE cond thn els := fun h => absurd (hzc.symm.trans h.1) (by decide);refine vr 1 ?_;refine Mf fun _ => ?_;exact pW hl2 ⟨.inl (zZ (by decide) hnb), rfl⟩
 | true =>
   have hbr : bareE cond thn els := ⟨hzc, by omega⟩;refine vr 1 ?_;refine Mt 6 ?_;refine Lo 0 sg42 rfl hc0 ?_;refine cfo 2 ?_;refine Lo 0 sg42 rfl hc0 ?_;refine cfo 3 ?_;refine Lo 0 sg42 rfl hc0 ?_;refine cfo 9 ?_;refine Ps 4 ?_;rw [show p + 1 + numW n = p + (1 + numW n) by omega]
   exact za hl2 [_] ⟨rfl, trivial⟩ [_] .p0 ⟨sGain ++ sSp ++ v ++ sSemi, by rw [qA hbr, h3]; rfl, by omega, congrArg (fun t => Value.string (bs t)) (by simp), rfl⟩
theorem Zr (hT : TabI m) (hU : Tabs m) {op who nop nn nwho : Int} {nA : Option Addr} {nl nc : Nat} {name : List UInt8} {cop cwho : Int} {cname : List UInt8} {cA : Option Addr} {cla cca : Nat} {cB : Option Addr} {clb ccb : Nat} {TA : Option Addr} {la ca : Nat} {EB : Option Addr} {lb cb : Nat} {n : NumT} {cond : CondT} {thn els : List EffT}
  (hn : NumR m (n4 nop nn nwho nA nl nc) n) (hc : CondR m (c5 cop cwho cname cA cla cca cB clb ccb) cond) (hcs : CondSm cond) (hnm : name.length ≤ 140737488355328) (hla : thn.length = la) (hlb : els.length = lb) (hla2 : la ≤ 140737488355328) (hlb2 : lb ≤ 140737488355328)
  (hbt : BlkOk m b TA la ca thn) (hbe : BlkOk m b EB lb cb els) (hop : op = 5) : EffOk m b (e14 op who nop nn nwho nA nl nc name cop cwho cname cA cla cca cB clb ccb TA la ca EB lb cb) (.mk op who n name cond thn els) := by
 subst hop;intro m0 hm0 p d hp hd;skip;refine zg [.tmp 4] Tryz.func94 rfl rfl rfl ?_;refine tr 2 ?_;refine Bx 0 rfl fun b1 => ?_;refine Bx 4 rfl fun b2 => ?_;refine zI .here (fun ns hi _ hd1 => ?_);refine zI .here (fun ns2 hi2 _ hd2 => ?_)
 have hR : Rd (uni (uni m0 ns) ns2) (some ⟨b2, 0, none⟩) (e14 5 who nop nn nwho nA nl nc name cop cwho cname cA cla cca cB clb ccb TA la ca EB lb cb) := ((Rd.blk hi).mono (zP hd1)).mono (zN _ _);have haN : At (uni (uni m0 ns) ns2) ⟨b2, 2, none⟩ (n4 nop nn nwho nA nl nc) := ((At.blkO (o := 2) (k := 4) hi).mono (zP hd1)).mono (zN _ _)
 have haC : At (uni (uni m0 ns) ns2) ⟨b2, 7, none⟩ (c5 cop cwho cname cA cla cca cB clb ccb) := ((At.blkO (o := 7) (k := 5) hi).mono (zP hd1)).mono (zN _ _);have hR1 : Rd (uni (uni m0 ns) ns2) (some ⟨b1, 0, none⟩) [ptr b] := (Rd.blk hi2).mono (zP hd2);have hl2 : Le m0 (uni (uni m0 ns) ns2) := (zN _ _).trans (zN _ _);clear hi hd1 hi2 hd2
 generalize uni (uni m0 ns) ns2 = m9 at hR hR1 hl2 haN haC;have hl9 := hm0.trans hl2;have hT := hT.mono hl9;have hU := hU.mono hl9;have hn := hn.mono hl9;have hc := hc.mono hl9;have hbt := hbt.mono hl9;have hbe := hbe.mono hl9;have iN : NumOk m9 b _ n := num111 (b := b) hT hn;have iC : CondOk m9 b _ cond := cond115 (b := b) hT hU hc hcs
 have hcp : mc m9 ⟨b1, 0, none⟩ = some (ptr b) := hR1.at_ (i := 0) rfl;have hc0 : mc m9 ⟨b2, 0, none⟩ = some (.int .i8 5) := hR.at_ (i := 0) rfl;have hc1 : mc m9 ⟨b2, 1, none⟩ = some (.int .i8 who) := hR.at_ (i := 1) rfl;have hc6 : mc m9 ⟨b2, 6, none⟩ = some (.string (bs name)) := hR.at_ (i := 6) rfl;have hc12 : mc m9 ⟨b2, 12, none⟩ = some (.slice TA la ca) := hR.at_ (i := 12) rfl
 have hc13 : mc m9 ⟨b2, 13, none⟩ = some (.slice EB lb cb) := hR.at_ (i := 13) rfl;have hw1 := yC (.mk 5 who n name cond thn els);refine tr 1 ?_;refine Lo 0 sg89 rfl hcp ?_;refine Cp cl109 rfl .k0 (fun m' hm he => part109 hp) ?_ ?_
 ·rintro _ _ ⟨h1, rfl⟩;exact pW hl2 ⟨.inr (by omega), rfl⟩
 rintro _ _ ⟨hp1, rfl, rfl⟩;rw [yv (by decide)];refine vr 5 ?_;refine Lo 0 sg42 rfl hc0 ?_;refine pe 0 (zV zl50 pl50 rfl rfl) ?_;refine Al 0 zl50 fun b3 => ?_;refine Sg 11 ag50 .here ?_;refine Lo 6 sg42 rfl hc0 ?_;refine cfo 5 ?_;refine cfo 6 ?_;refine cfo 6 ?_;refine cfo 6 ?_;refine ctr 6 ?_;refine Lo 1 sg89 rfl hcp ?_;refine La 0 ag45 haN ?_
 refine Cp cl111 rfl .k1 (fun m' hm he => iN m' hm (p + 1) d hp1 hd) ?_ ?_
 ·rintro _ _ ⟨h3, rfl⟩;exact pW hl2 ⟨h3.imp (xO (by decide)) (fun h => by omega), rfl⟩
 rintro _ _ ⟨v, h3, h4, rfl, rfl⟩;have hvl := ym h3 h4;by_cases hwho : who = 0
 rotate_left
 ·refine Ps 5 ?_;refine La 1 ag45 haN ?_;refine zC (zj ag45 rfl rfl rfl .h1 (.there (.there (.cons (.cons (.cons (.cons .nil)))))) rfl ?_) rfl;refine vr 6 ?_;refine Lo 1 sg42 rfl hc1 ?_;refine Lb 0 sg42 .h1 ?_;refine cfa 23 ?_;refine Mf fun _ => ?_;exact pW hl2 ⟨.inl (xb (by decide) hwho), rfl⟩
 subst hwho;by_cases hname : name = []
 rotate_left
 ·refine Ps 5 ?_;refine La 1 ag45 haN ?_;refine zC (zj ag45 rfl rfl rfl .h1 (.there (.there (.cons (.cons (.cons (.cons .nil)))))) rfl ?_) rfl;refine vr 6 ?_;refine Lo 1 sg42 rfl hc1 ?_;refine Lb 0 sg42 .h1 ?_;refine ctr 2 ?_;refine Lo 1 sg9 rfl hc6 ?_;refine Lb 0 sg9 .h1 ?_;refine cfa 17 ?_;refine Mf fun _ => ?_;exact pW hl2 ⟨.inl (yN (by decide) (by decide) hname), rfl⟩
 subst hname;by_cases hle : la + lb = 0
 rotate_left
 ·have hnb : ¬ bareE cond thn els := fun h => hle (by have := h.2; omega);refine Ps 5 ?_;refine La 1 ag45 haN ?_;refine zC (zj ag45 rfl rfl rfl .h1 (.there (.there (.cons (.cons (.cons (.cons .nil)))))) rfl ?_) rfl;refine vr 6 ?_;refine Lo 1 sg42 rfl hc1 ?_;refine Lb 0 sg42 .h1 ?_;refine ctr 2 ?_;refine Lo 1 sg9 rfl hc6 ?_;refine Lb 0 sg9 .h1 ?_;refine ctr 3 ?_
  refine Lo 2 sg38 rfl hc12 ?_;refine Lo 1 sg38 rfl hc13 ?_;refine pe 0 (zp rfl rfl (by omega)) ?_;refine cfo 7 ?_;refine Mf fun _ => ?_;exact pW hl2 ⟨.inl (zZ (by decide) hnb), rfl⟩
 refine Ps 5 ?_;refine La 1 ag45 haN ?_;refine zC (zj ag45 rfl rfl rfl .h1 (.there (.there (.cons (.cons (.cons (.cons .nil)))))) rfl ?_) rfl;refine vr 6 ?_;refine Lo 1 sg42 rfl hc1 ?_;refine Lb 0 sg42 .h1 ?_;refine ctr 2 ?_;refine Lo 1 sg9 rfl hc6 ?_;refine Lb 0 sg9 .h1 ?_;refine ctr 3 ?_;refine Lo 2 sg38 rfl hc12 ?_;refine Lo 1 sg38 rfl hc13 ?_
 refine pe 0 (zp rfl rfl (by omega)) ?_;refine cto 2 ?_;refine pe 1 (zV zl45 pl45 rfl rfl) ?_;refine La 0 ag48 haC ?_;refine Cr cl112 rfl (fun m' hm he => (plainC112 hc)) ?_;rintro _ rfl;cases hzc : zeroC cond with
 | false =>
   have hnb : ¬ bareE cond thn els := fun h => absurd (hzc.symm.trans h.1) (by decide);refine vr 1 ?_;refine Mf fun _ => ?_;exact pW hl2 ⟨.inl (zZ (by decide) hnb), rfl⟩
 | true =>
   have hbr : bareE cond thn els := ⟨hzc, by omega⟩;refine vr 1 ?_;refine Mt 6 ?_;refine Lo 0 sg42 rfl hc0 ?_;refine cfo 2 ?_;refine Lo 0 sg42 rfl hc0 ?_;refine cfo 3 ?_;refine Lo 0 sg42 rfl hc0 ?_;refine cfo 9 ?_;refine Ps 4 ?_;rw [show p + 1 + numW n = p + (1 + numW n) by omega]
   exact za hl2 [_] ⟨rfl, trivial⟩ [_] .p0 ⟨sLook ++ sSp ++ v ++ sSemi, by rw [u9 hbr, h3]; rfl, by omega, congrArg (fun t => Value.string (bs t)) (by simp), rfl⟩
end
section
open Wd Tp Kd
variable {m : Mp} {b d p : Nat}
theorem Zv (hT : TabI m) (hU : Tabs m) {op who nop nn nwho : Int} {nA : Option Addr} {nl nc : Nat} {name : List UInt8} {cop cwho : Int} {cname : List UInt8} {cA : Option Addr} {cla cca : Nat} {cB : Option Addr} {clb ccb : Nat} {TA : Option Addr} {la ca : Nat} {EB : Option Addr} {lb cb : Nat} {n : NumT} {cond : CondT} {thn els : List EffT}
  (hn : NumR m (n4 nop nn nwho nA nl nc) n) (hc : CondR m (c5 cop cwho cname cA cla cca cB clb ccb) cond) (hcs : CondSm cond) (hnm : name.length ≤ 140737488355328) (hla : thn.length = la) (hlb : els.length = lb) (hla2 : la ≤ 140737488355328) (hlb2 : lb ≤ 140737488355328)
  (hbt : BlkOk m b TA la ca thn) (hbe : BlkOk m b EB lb cb els) (hop : op = 4) : EffOk m b (e14 op who nop nn nwho nA nl nc name cop cwho cname cA cla cca cB clb ccb TA la ca EB lb cb) (.mk op who n name cond thn els) := by
 subst hop;intro m0 hm0 p d hp hd;skip;refine zg [.tmp 4] Tryz.func94 rfl rfl rfl ?_;refine tr 2 ?_;refine Bx 0 rfl fun b1 => ?_;refine Bx 4 rfl fun b2 => ?_;refine zI .here (fun ns hi _ hd1 => ?_);refine zI .here (fun ns2 hi2 _ hd2 => ?_)
 have hR : Rd (uni (uni m0 ns) ns2) (some ⟨b2, 0, none⟩) (e14 4 who nop nn nwho nA nl nc name cop cwho cname cA cla cca cB clb ccb TA la ca EB lb cb) := ((Rd.blk hi).mono (zP hd1)).mono (zN _ _);have haN : At (uni (uni m0 ns) ns2) ⟨b2, 2, none⟩ (n4 nop nn nwho nA nl nc) := ((At.blkO (o := 2) (k := 4) hi).mono (zP hd1)).mono (zN _ _)
 have haC : At (uni (uni m0 ns) ns2) ⟨b2, 7, none⟩ (c5 cop cwho cname cA cla cca cB clb ccb) := ((At.blkO (o := 7) (k := 5) hi).mono (zP hd1)).mono (zN _ _);have hR1 : Rd (uni (uni m0 ns) ns2) (some ⟨b1, 0, none⟩) [ptr b] := (Rd.blk hi2).mono (zP hd2);have hl2 : Le m0 (uni (uni m0 ns) ns2) := (zN _ _).trans (zN _ _);clear hi hd1 hi2 hd2
 generalize uni (uni m0 ns) ns2 = m9 at hR hR1 hl2 haN haC;have hl9 := hm0.trans hl2;have hT := hT.mono hl9;have hU := hU.mono hl9;have hn := hn.mono hl9;have hc := hc.mono hl9;have hbt := hbt.mono hl9;have hbe := hbe.mono hl9;have iN : NumOk m9 b _ n := num111 (b := b) hT hn;have iC : CondOk m9 b _ cond := cond115 (b := b) hT hU hc hcs
 have hcp : mc m9 ⟨b1, 0, none⟩ = some (ptr b) := hR1.at_ (i := 0) rfl;have hc0 : mc m9 ⟨b2, 0, none⟩ = some (.int .i8 4) := hR.at_ (i := 0) rfl;have hc1 : mc m9 ⟨b2, 1, none⟩ = some (.int .i8 who) := hR.at_ (i := 1) rfl;have hc6 : mc m9 ⟨b2, 6, none⟩ = some (.string (bs name)) := hR.at_ (i := 6) rfl;have hc12 : mc m9 ⟨b2, 12, none⟩ = some (.slice TA la ca) := hR.at_ (i := 12) rfl
 have hc13 : mc m9 ⟨b2, 13, none⟩ = some (.slice EB lb cb) := hR.at_ (i := 13) rfl;have hw1 := yC (.mk 4 who n name cond thn els);refine tr 1 ?_;refine Lo 0 sg89 rfl hcp ?_;refine Cp cl109 rfl .k0 (fun m' hm he => part109 hp) ?_ ?_
 ·rintro _ _ ⟨h1, rfl⟩;exact pW hl2 ⟨.inr (by omega), rfl⟩
 rintro _ _ ⟨hp1, rfl, rfl⟩;rw [xV (by decide) (by decide)];refine vr 5 ?_;refine Lo 0 sg42 rfl hc0 ?_;refine pe 0 (zV zl50 pl50 rfl rfl) ?_;refine Al 0 zl50 fun b3 => ?_;refine Sg 11 ag50 .here ?_;refine Lo 6 sg42 rfl hc0 ?_;refine cfo 5 ?_;refine cfo 6 ?_;refine cfo 6 ?_;refine cfo 6 ?_;refine cfo 6 ?_;refine ctr 7 ?_;refine Lo 0 sg42 rfl hc1 ?_;refine Cn cl110 rfl side110 ?_ ?_
 ·rintro _ _ ⟨h1, rfl⟩;exact pW hl2 ⟨.inl (vW (by decide) h1), rfl⟩
 rintro _ _ ⟨u, hu, rfl, rfl⟩;have hul := zx hu;by_cases hname : name = []
 rotate_left
 ·refine Ps 5 ?_;refine Lo 1 sg42 rfl hc1 ?_;refine Sr 6 co42 .here .h1 ?_;refine Lo 1 sg42 rfl hc1 ?_;refine Lb 0 sg42 .here ?_;refine ctr 2 ?_;refine Lo 1 sg9 rfl hc6 ?_;refine Lb 0 sg9 .here ?_;refine cfa 17 ?_;refine Mf fun _ => ?_;exact pW hl2 ⟨.inl (yN (by decide) (by decide) hname), rfl⟩
 subst hname;by_cases hle : la + lb = 0
 rotate_left
 ·have hnb : ¬ bareE cond thn els := fun h => hle (by have := h.2; omega);refine Ps 5 ?_;refine Lo 1 sg42 rfl hc1 ?_;refine Sr 6 co42 .here .h1 ?_;refine Lo 1 sg42 rfl hc1 ?_;refine Lb 0 sg42 .here ?_;refine ctr 2 ?_;refine Lo 1 sg9 rfl hc6 ?_;refine Lb 0 sg9 .here ?_;refine ctr 3 ?_;refine Lo 2 sg38 rfl hc12 ?_;refine Lo 1 sg38 rfl hc13 ?_;refine pe 0 (zp rfl rfl (by omega)) ?_;refine cfo 7 ?_
  refine Mf fun _ => ?_;exact pW hl2 ⟨.inl (zZ (by decide) hnb), rfl⟩
 refine Ps 5 ?_;refine Lo 1 sg42 rfl hc1 ?_;refine Sr 6 co42 .here .h1 ?_;refine Lo 1 sg42 rfl hc1 ?_;refine Lb 0 sg42 .here ?_;refine ctr 2 ?_;refine Lo 1 sg9 rfl hc6 ?_;refine Lb 0 sg9 .here ?_;refine ctr 3 ?_;refine Lo 2 sg38 rfl hc12 ?_;refine Lo 1 sg38 rfl hc13 ?_;refine pe 0 (zp rfl rfl (by omega)) ?_;refine cto 2 ?_;refine pe 1 (zV zl45 pl45 rfl rfl) ?_;refine La 0 ag48 haC ?_
 refine Cr cl112 rfl (fun m' hm he => (plainC112 hc)) ?_;rintro _ rfl;cases hzc : zeroC cond with
 | false =>
   have hnb : ¬ bareE cond thn els := fun h => absurd (hzc.symm.trans h.1) (by decide);refine vr 1 ?_;refine Mf fun _ => ?_;exact pW hl2 ⟨.inl (zZ (by decide) hnb), rfl⟩
 | true =>
   have hbr : bareE cond thn els := ⟨hzc, by omega⟩;refine vr 1 ?_;refine Mt 6 ?_;refine Lo 0 sg42 rfl hc0 ?_;refine ctr 15 ?_;refine La 0 ag45 haN ?_;refine pe 0 (zV zl48 pl48 rfl rfl) ?_;refine Cr cl112 rfl (fun m' hm he => (plainN112 hn)) ?_;rintro _ rfl;cases hzn : zeroN n with
   | false =>
     skip;refine Mf fun _ => ?_;exact pW hl2 ⟨.inl (xd (by decide) hzn), rfl⟩
   | true =>
     skip;refine Mt 5 ?_;refine Ps 4 ?_;exact za hl2 [_] ⟨rfl, trivial⟩ [_] .p1 ⟨sDrop ++ sSp ++ u ++ sSemi, by rw [wn hbr hzn, hu]; rfl, by omega, congrArg (fun t => Value.string (bs t)) (by simp), rfl⟩
theorem Zp (hT : TabI m) (hU : Tabs m) {op who nop nn nwho : Int} {nA : Option Addr} {nl nc : Nat} {name : List UInt8} {cop cwho : Int} {cname : List UInt8} {cA : Option Addr} {cla cca : Nat} {cB : Option Addr} {clb ccb : Nat} {TA : Option Addr} {la ca : Nat} {EB : Option Addr} {lb cb : Nat} {n : NumT} {cond : CondT} {thn els : List EffT}
  (hn : NumR m (n4 nop nn nwho nA nl nc) n) (hc : CondR m (c5 cop cwho cname cA cla cca cB clb ccb) cond) (hcs : CondSm cond) (hnm : name.length ≤ 140737488355328) (hla : thn.length = la) (hlb : els.length = lb) (hla2 : la ≤ 140737488355328) (hlb2 : lb ≤ 140737488355328)
  (hbt : BlkOk m b TA la ca thn) (hbe : BlkOk m b EB lb cb els) (hop : op = 6) : EffOk m b (e14 op who nop nn nwho nA nl nc name cop cwho cname cA cla cca cB clb ccb TA la ca EB lb cb) (.mk op who n name cond thn els) := by
 subst hop;intro m0 hm0 p d hp hd;skip;refine zg [.tmp 4] Tryz.func94 rfl rfl rfl ?_;refine tr 2 ?_;refine Bx 0 rfl fun b1 => ?_;refine Bx 4 rfl fun b2 => ?_;refine zI .here (fun ns hi _ hd1 => ?_);refine zI .here (fun ns2 hi2 _ hd2 => ?_)
 have hR : Rd (uni (uni m0 ns) ns2) (some ⟨b2, 0, none⟩) (e14 6 who nop nn nwho nA nl nc name cop cwho cname cA cla cca cB clb ccb TA la ca EB lb cb) := ((Rd.blk hi).mono (zP hd1)).mono (zN _ _);have haN : At (uni (uni m0 ns) ns2) ⟨b2, 2, none⟩ (n4 nop nn nwho nA nl nc) := ((At.blkO (o := 2) (k := 4) hi).mono (zP hd1)).mono (zN _ _)
 have haC : At (uni (uni m0 ns) ns2) ⟨b2, 7, none⟩ (c5 cop cwho cname cA cla cca cB clb ccb) := ((At.blkO (o := 7) (k := 5) hi).mono (zP hd1)).mono (zN _ _);have hR1 : Rd (uni (uni m0 ns) ns2) (some ⟨b1, 0, none⟩) [ptr b] := (Rd.blk hi2).mono (zP hd2);have hl2 : Le m0 (uni (uni m0 ns) ns2) := (zN _ _).trans (zN _ _);clear hi hd1 hi2 hd2
 generalize uni (uni m0 ns) ns2 = m9 at hR hR1 hl2 haN haC;have hl9 := hm0.trans hl2;have hT := hT.mono hl9;have hU := hU.mono hl9;have hn := hn.mono hl9;have hc := hc.mono hl9;have hbt := hbt.mono hl9;have hbe := hbe.mono hl9;have iN : NumOk m9 b _ n := num111 (b := b) hT hn;have iC : CondOk m9 b _ cond := cond115 (b := b) hT hU hc hcs
 have hcp : mc m9 ⟨b1, 0, none⟩ = some (ptr b) := hR1.at_ (i := 0) rfl;have hc0 : mc m9 ⟨b2, 0, none⟩ = some (.int .i8 6) := hR.at_ (i := 0) rfl;have hc1 : mc m9 ⟨b2, 1, none⟩ = some (.int .i8 who) := hR.at_ (i := 1) rfl;have hc6 : mc m9 ⟨b2, 6, none⟩ = some (.string (bs name)) := hR.at_ (i := 6) rfl;have hc12 : mc m9 ⟨b2, 12, none⟩ = some (.slice TA la ca) := hR.at_ (i := 12) rfl
 have hc13 : mc m9 ⟨b2, 13, none⟩ = some (.slice EB lb cb) := hR.at_ (i := 13) rfl;have hw1 := yC (.mk 6 who n name cond thn els);refine tr 1 ?_;refine Lo 0 sg89 rfl hcp ?_;refine Cp cl109 rfl .k0 (fun m' hm he => part109 hp) ?_ ?_
 ·rintro _ _ ⟨h1, rfl⟩;exact pW hl2 ⟨.inr (by omega), rfl⟩
 rintro _ _ ⟨hp1, rfl, rfl⟩;rw [xV (by decide) (by decide)];refine vr 5 ?_;refine Lo 0 sg42 rfl hc0 ?_;refine pe 0 (zV zl50 pl50 rfl rfl) ?_;refine Al 0 zl50 fun b3 => ?_;refine Sg 11 ag50 .here ?_;refine Lo 6 sg42 rfl hc0 ?_;refine cfo 5 ?_;refine cfo 6 ?_;refine cfo 6 ?_;refine cfo 6 ?_;refine cfo 6 ?_;refine cfo 6 ?_;refine ctr 7 ?_;refine Lo 0 sg42 rfl hc1 ?_
 refine Cn cl110 rfl side110 ?_ ?_
 ·rintro _ _ ⟨h1, rfl⟩;exact pW hl2 ⟨.inl (vW (by decide) h1), rfl⟩
 rintro _ _ ⟨u, hu, rfl, rfl⟩;have hul := zx hu;by_cases hname : name = []
 rotate_left
 ·refine Ps 5 ?_;refine Lo 1 sg42 rfl hc1 ?_;refine Sr 6 co42 .here .h1 ?_;refine Lo 1 sg42 rfl hc1 ?_;refine Lb 0 sg42 .here ?_;refine ctr 2 ?_;refine Lo 1 sg9 rfl hc6 ?_;refine Lb 0 sg9 .here ?_;refine cfa 17 ?_;refine Mf fun _ => ?_;exact pW hl2 ⟨.inl (yN (by decide) (by decide) hname), rfl⟩
 subst hname;by_cases hle : la + lb = 0
 rotate_left
 ·have hnb : ¬ bareE cond thn els := fun h => hle (by have := h.2; omega);refine Ps 5 ?_;refine Lo 1 sg42 rfl hc1 ?_;refine Sr 6 co42 .here .h1 ?_;refine Lo 1 sg42 rfl hc1 ?_;refine Lb 0 sg42 .here ?_;refine ctr 2 ?_;refine Lo 1 sg9 rfl hc6 ?_;refine Lb 0 sg9 .here ?_;refine ctr 3 ?_;refine Lo 2 sg38 rfl hc12 ?_;refine Lo 1 sg38 rfl hc13 ?_;refine pe 0 (zp rfl rfl (by omega)) ?_;refine cfo 7 ?_
  refine Mf fun _ => ?_;exact pW hl2 ⟨.inl (zZ (by decide) hnb), rfl⟩
 refine Ps 5 ?_;refine Lo 1 sg42 rfl hc1 ?_;refine Sr 6 co42 .here .h1 ?_;refine Lo 1 sg42 rfl hc1 ?_;refine Lb 0 sg42 .here ?_;refine ctr 2 ?_;refine Lo 1 sg9 rfl hc6 ?_;refine Lb 0 sg9 .here ?_;refine ctr 3 ?_;refine Lo 2 sg38 rfl hc12 ?_;refine Lo 1 sg38 rfl hc13 ?_;refine pe 0 (zp rfl rfl (by omega)) ?_;refine cto 2 ?_;refine pe 1 (zV zl45 pl45 rfl rfl) ?_;refine La 0 ag48 haC ?_
 refine Cr cl112 rfl (fun m' hm he => (plainC112 hc)) ?_;rintro _ rfl;cases hzc : zeroC cond with
 | false =>
   have hnb : ¬ bareE cond thn els := fun h => absurd (hzc.symm.trans h.1) (by decide);refine vr 1 ?_;refine Mf fun _ => ?_;exact pW hl2 ⟨.inl (zZ (by decide) hnb), rfl⟩
 | true =>
   have hbr : bareE cond thn els := ⟨hzc, by omega⟩;refine vr 1 ?_;refine Mt 6 ?_;refine Lo 0 sg42 rfl hc0 ?_;refine cfo 2 ?_;refine Lo 0 sg42 rfl hc0 ?_;refine ctr 11 ?_;refine La 0 ag45 haN ?_;refine pe 0 (zV zl48 pl48 rfl rfl) ?_;refine Cr cl112 rfl (fun m' hm he => (plainN112 hn)) ?_;rintro _ rfl;cases hzn : zeroN n with
   | false =>
     skip;refine Mf fun _ => ?_;exact pW hl2 ⟨.inl (xd (by decide) hzn), rfl⟩
   | true =>
     skip;refine Mt 5 ?_;refine Ps 4 ?_;exact za hl2 [_] ⟨rfl, trivial⟩ [_] .p1 ⟨sShow ++ sSp ++ u ++ sSemi, by rw [wm hbr hzn, hu]; rfl, by omega, congrArg (fun t => Value.string (bs t)) (by simp), rfl⟩
end
section
open Wd Tp Kd
variable {m : Mp} {b d p : Nat}
theorem j3 (hT : TabI m) (hU : Tabs m) {op who nop nn nwho : Int} {nA : Option Addr} {nl nc : Nat} {name : List UInt8} {cop cwho : Int} {cname : List UInt8} {cA : Option Addr} {cla cca : Nat} {cB : Option Addr} {clb ccb : Nat} {TA : Option Addr} {la ca : Nat} {EB : Option Addr} {lb cb : Nat} {n : NumT} {cond : CondT} {thn els : List EffT}
  (hn : NumR m (n4 nop nn nwho nA nl nc) n) (hc : CondR m (c5 cop cwho cname cA cla cca cB clb ccb) cond) (hcs : CondSm cond) (hnm : name.length ≤ 140737488355328) (hla : thn.length = la) (hlb : els.length = lb) (hla2 : la ≤ 140737488355328) (hlb2 : lb ≤ 140737488355328)
  (hbt : BlkOk m b TA la ca thn) (hbe : BlkOk m b EB lb cb els) (hop : op = 7) : EffOk m b (e14 op who nop nn nwho nA nl nc name cop cwho cname cA cla cca cB clb ccb TA la ca EB lb cb) (.mk op who n name cond thn els) := by
 subst hop;intro m0 hm0 p d hp hd;skip;refine zg [.tmp 4] Tryz.func94 rfl rfl rfl ?_;refine tr 2 ?_;refine Bx 0 rfl fun b1 => ?_;refine Bx 4 rfl fun b2 => ?_;refine zI .here (fun ns hi _ hd1 => ?_);refine zI .here (fun ns2 hi2 _ hd2 => ?_)
 have hR : Rd (uni (uni m0 ns) ns2) (some ⟨b2, 0, none⟩) (e14 7 who nop nn nwho nA nl nc name cop cwho cname cA cla cca cB clb ccb TA la ca EB lb cb) := ((Rd.blk hi).mono (zP hd1)).mono (zN _ _);have haN : At (uni (uni m0 ns) ns2) ⟨b2, 2, none⟩ (n4 nop nn nwho nA nl nc) := ((At.blkO (o := 2) (k := 4) hi).mono (zP hd1)).mono (zN _ _)
 have haC : At (uni (uni m0 ns) ns2) ⟨b2, 7, none⟩ (c5 cop cwho cname cA cla cca cB clb ccb) := ((At.blkO (o := 7) (k := 5) hi).mono (zP hd1)).mono (zN _ _);have hR1 : Rd (uni (uni m0 ns) ns2) (some ⟨b1, 0, none⟩) [ptr b] := (Rd.blk hi2).mono (zP hd2);have hl2 : Le m0 (uni (uni m0 ns) ns2) := (zN _ _).trans (zN _ _);clear hi hd1 hi2 hd2
 generalize uni (uni m0 ns) ns2 = m9 at hR hR1 hl2 haN haC;have hl9 := hm0.trans hl2;have hT := hT.mono hl9;have hU := hU.mono hl9;have hn := hn.mono hl9;have hc := hc.mono hl9;have hbt := hbt.mono hl9;have hbe := hbe.mono hl9;have iN : NumOk m9 b _ n := num111 (b := b) hT hn;have iC : CondOk m9 b _ cond := cond115 (b := b) hT hU hc hcs
 have hcp : mc m9 ⟨b1, 0, none⟩ = some (ptr b) := hR1.at_ (i := 0) rfl;have hc0 : mc m9 ⟨b2, 0, none⟩ = some (.int .i8 7) := hR.at_ (i := 0) rfl;have hc1 : mc m9 ⟨b2, 1, none⟩ = some (.int .i8 who) := hR.at_ (i := 1) rfl;have hc6 : mc m9 ⟨b2, 6, none⟩ = some (.string (bs name)) := hR.at_ (i := 6) rfl;have hc12 : mc m9 ⟨b2, 12, none⟩ = some (.slice TA la ca) := hR.at_ (i := 12) rfl
 have hc13 : mc m9 ⟨b2, 13, none⟩ = some (.slice EB lb cb) := hR.at_ (i := 13) rfl;have hw1 := yC (.mk 7 who n name cond thn els);refine tr 1 ?_;refine Lo 0 sg89 rfl hcp ?_;refine Cp cl109 rfl .k0 (fun m' hm he => part109 hp) ?_ ?_
 ·rintro _ _ ⟨h1, rfl⟩;exact pW hl2 ⟨.inr (by omega), rfl⟩
 rintro _ _ ⟨hp1, rfl, rfl⟩;rw [xV (by decide) (by decide)];refine vr 5 ?_;refine Lo 0 sg42 rfl hc0 ?_;refine pe 0 (zV zl50 pl50 rfl rfl) ?_;refine Al 0 zl50 fun b3 => ?_;refine Sg 11 ag50 .here ?_;refine Lo 6 sg42 rfl hc0 ?_;refine cfo 5 ?_;refine cfo 6 ?_;refine cfo 6 ?_;refine cfo 6 ?_;refine cfo 6 ?_;refine cfo 6 ?_;refine cfo 6 ?_;refine ctr 7 ?_;refine Lo 0 sg9 rfl hc6 ?_
 refine Cr cl41 rfl (fun m' hm he => (xf (hU.mono hm) hnm)) ?_;rintro _ rfl;cases hnp : nameP name with
 | false =>
   skip;refine Mf fun _ => ?_;exact pW hl2 ⟨.inl (vX hnp), rfl⟩
 | true =>
   have hn40 := yF hnp;skip;refine Mt 0 ?_;by_cases hwho : who = 0
   rotate_left
   ·refine vr 5 ?_;refine Lo 0 sg9 rfl hc6 ?_;refine Ps 5 ?_;refine Lo 1 sg9 rfl hc6 ?_;refine Sr 6 co9 .here .h6 ?_;refine Lo 1 sg42 rfl hc1 ?_;refine Lb 0 sg42 .here ?_;refine cfa 23 ?_;refine Mf fun _ => ?_;exact pW hl2 ⟨.inl (xb (by decide) hwho), rfl⟩
   subst hwho;by_cases hle : la + lb = 0
   rotate_left
   ·have hnb : ¬ bareE cond thn els := fun h => hle (by have := h.2; omega);refine vr 5 ?_;refine Lo 0 sg9 rfl hc6 ?_;refine Ps 5 ?_;refine Lo 1 sg9 rfl hc6 ?_;refine Sr 6 co9 .here .h6 ?_;refine Lo 1 sg42 rfl hc1 ?_;refine Lb 0 sg42 .here ?_;refine ctr 2 ?_;refine Lo 1 sg9 rfl hc6 ?_;refine Lb 0 sg9 .here ?_;refine ctr 3 ?_;refine Lo 2 sg38 rfl hc12 ?_;refine Lo 1 sg38 rfl hc13 ?_
    refine pe 0 (zp rfl rfl (by omega)) ?_;refine cfo 7 ?_;refine Mf fun _ => ?_;exact pW hl2 ⟨.inl (zZ (by decide) hnb), rfl⟩
   refine vr 5 ?_;refine Lo 0 sg9 rfl hc6 ?_;refine Ps 5 ?_;refine Lo 1 sg9 rfl hc6 ?_;refine Sr 6 co9 .here .h6 ?_;refine Lo 1 sg42 rfl hc1 ?_;refine Lb 0 sg42 .here ?_;refine ctr 2 ?_;refine Lo 1 sg9 rfl hc6 ?_;refine Lb 0 sg9 .here ?_;refine ctr 3 ?_;refine Lo 2 sg38 rfl hc12 ?_;refine Lo 1 sg38 rfl hc13 ?_;refine pe 0 (zp rfl rfl (by omega)) ?_;refine cto 2 ?_
   refine pe 1 (zV zl45 pl45 rfl rfl) ?_;refine La 0 ag48 haC ?_;refine Cr cl112 rfl (fun m' hm he => (plainC112 hc)) ?_;rintro _ rfl;cases hzc : zeroC cond with
   | false =>
     have hnb : ¬ bareE cond thn els := fun h => absurd (hzc.symm.trans h.1) (by decide);refine vr 1 ?_;refine Mf fun _ => ?_;exact pW hl2 ⟨.inl (zZ (by decide) hnb), rfl⟩
   | true =>
     have hbr : bareE cond thn els := ⟨hzc, by omega⟩;refine vr 1 ?_;refine Mt 6 ?_;refine Lo 0 sg42 rfl hc0 ?_;refine cfo 2 ?_;refine Lo 0 sg42 rfl hc0 ?_;refine cfo 3 ?_;refine Lo 0 sg42 rfl hc0 ?_;refine ctr 6 ?_;refine La 0 ag45 haN ?_;refine pe 0 (zV zl48 pl48 rfl rfl) ?_;refine Cr cl112 rfl (fun m' hm he => (plainN112 hn)) ?_;rintro _ rfl;cases hzn : zeroN n with
     | false =>
       skip;refine Mf fun _ => ?_;exact pW hl2 ⟨.inl (xd (by decide) hzn), rfl⟩
     | true =>
       skip;refine Mt 5 ?_;refine Ps 4 ?_;exact za hl2 [_] ⟨rfl, trivial⟩ [_] .p1 ⟨sSummon ++ sSp ++ name ++ sSemi, by rw [vV hbr hzn hnp], by omega, congrArg (fun t => Value.string (bs t)) (by simp), rfl⟩
end
section
open Wd Tp Kd
variable {m : Mp} {b d p : Nat}
theorem WW {c : CondT} {t e : List EffT} {d p : Nat} (h : condP c d = none ∨ 200 < p + condW c) : ifP c t e d = none ∨ 200 < p + (condW c + effsW t + effsW e) := by
 rcases h with h | h
 ·left; unfold ifP; rw [h]; rfl
 ·right; omega
theorem WV {c : CondT} {t e : List EffT} {d p : Nat} (h : blkP t d = none ∨ 200 < p + condW c + effsW t) : ifP c t e d = none ∨ 200 < p + (condW c + effsW t + effsW e) := by
 rcases h with h | h
 ·left; unfold ifP; rw [h]; cases condP c d <;> rfl
 ·right; omega
theorem WU {c : CondT} {t e : List EffT} {d p : Nat} (h : blkP e d = none ∨ 200 < p + condW c + effsW t + effsW e) : ifP c t e d = none ∨ 200 < p + (condW c + effsW t + effsW e) := by
 rcases h with h | h
 ·left; unfold ifP; rw [h]; cases condP c d <;> cases blkP t d <;> rfl
 ·right; omega
theorem ifP_ok {c : CondT} {t e : List EffT} {d : Nat} {s u v : List UInt8} (h1 : condP c d = some s) (h2 : blkP t d = some u) (h3 : blkP e d = some v) : ifP c t e d = some (ifT s u v) := by unfold ifP; rw [h1, h2, h3]; rfl
theorem if114 {op who nop nn nwho : Int} {nA : Option Addr} {nl nc : Nat} {name : List UInt8} {cop cwho : Int} {cname : List UInt8} {cA : Option Addr} {cla cca : Nat} {cB : Option Addr} {clb ccb : Nat} {TA : Option Addr} {la ca : Nat} {EB : Option Addr} {lb cb : Nat} {cond : CondT} {thn els : List EffT} {B1 B2 : Nat}
  (h1 : Rd m (some ⟨B1, 0, none⟩) [ptr b]) (h2 : Rd m (some ⟨B2, 0, none⟩) (e14 op who nop nn nwho nA nl nc name cop cwho cname cA cla cca cB clb ccb TA la ca EB lb cb)) (haC : At m ⟨B2, 7, none⟩ (c5 cop cwho cname cA cla cca cB clb ccb))
  (iC : CondOk m b (c5 cop cwho cname cA cla cca cB clb ccb) cond) (hbt : BlkOk m b TA la ca thn) (hbe : BlkOk m b EB lb cb els) (hp : p ≤ 200) (hd : d ≤ 8) :
  PrC 114 [ptr B1, ptr B2] m b p d (ifP cond thn els d) (condW cond + effsW thn + effsW els) := by
 have hcp : mc m ⟨B1, 0, none⟩ = some (ptr b) := h1.at_ (i := 0) rfl;have hc12 : mc m ⟨B2, 12, none⟩ = some (.slice TA la ca) := h2.at_ (i := 12) rfl;have hc13 : mc m ⟨B2, 13, none⟩ = some (.slice EB lb cb) := h2.at_ (i := 13) rfl;refine zg [.tmp 2] Tryz.func114 rfl rfl rfl ?_;refine tr 7 ?_;refine Lo 1 sg89 rfl hcp ?_;refine La 0 ag48 haC ?_
 refine Cp cl115 rfl .k0 (fun m' hm he => iC m' hm p d hp hd) ?_ ?_
 ·rintro _ _ ⟨g1, rfl⟩;exact pn ⟨WW g1, rfl⟩
 rintro _ _ ⟨s, g1, g2, rfl, rfl⟩;have hsl := c_len g1 g2;refine Ps 6 ?_;refine Lo 1 sg89 rfl hcp ?_;refine Lo 0 sg38 rfl hc12 ?_;refine Cp cl44 rfl .k0 (fun m' hm he => hbt m' hm (p + condW cond) d g2 hd) ?_ ?_
 ·rintro _ _ ⟨g3, rfl⟩;exact pn ⟨WV g3, rfl⟩
 rintro _ _ ⟨u, g3, g4, rfl, rfl⟩;have hul := z1 g3
 iterate 3 (refine kR (vf rfl rfl (by simp <;> omega)) rfl rfl rfl ?_)
 refine vr 6 ?_;refine Ps 0 ?_;refine Lo 1 sg89 rfl hcp ?_;refine Lo 0 sg38 rfl hc13 ?_;refine Cp cl44 rfl .k0 (fun m' hm he => hbe m' hm (p + condW cond + effsW thn) d g4 hd) ?_ ?_
 ·rintro _ _ ⟨g5, rfl⟩;exact pn ⟨WU g5, rfl⟩
 rintro _ _ ⟨v, g5, g6, rfl, rfl⟩;have hvl := z1 g5;refine Ps 0 ?_;refine Ps 4 ?_;rw [show p + condW cond + effsW thn + effsW els = p + (condW cond + effsW thn + effsW els) by omega];exact zi [_] ⟨rfl, trivial⟩ [_] .p0 ⟨ifT s u v, ifP_ok g1 g3 g5, by omega, congrArg (fun t => Value.string (bs t)) (by simp [ifT]), rfl⟩
theorem WI (hT : TabI m) (hU : Tabs m) {op who nop nn nwho : Int} {nA : Option Addr} {nl nc : Nat} {name : List UInt8} {cop cwho : Int} {cname : List UInt8} {cA : Option Addr} {cla cca : Nat} {cB : Option Addr} {clb ccb : Nat} {TA : Option Addr} {la ca : Nat} {EB : Option Addr} {lb cb : Nat} {n : NumT} {cond : CondT} {thn els : List EffT}
  (hn : NumR m (n4 nop nn nwho nA nl nc) n) (hc : CondR m (c5 cop cwho cname cA cla cca cB clb ccb) cond) (hcs : CondSm cond) (hnm : name.length ≤ 140737488355328) (hla : thn.length = la) (hlb : els.length = lb) (hla2 : la ≤ 140737488355328) (hlb2 : lb ≤ 140737488355328)
  (hbt : BlkOk m b TA la ca thn) (hbe : BlkOk m b EB lb cb els) (hop : op = 8) : EffOk m b (e14 op who nop nn nwho nA nl nc name cop cwho cname cA cla cca cB clb ccb TA la ca EB lb cb) (.mk op who n name cond thn els) := by
 subst hop;intro m0 hm0 p d hp hd;skip;refine zg [.tmp 4] Tryz.func94 rfl rfl rfl ?_;refine tr 2 ?_;refine Bx 0 rfl fun b1 => ?_;refine Bx 4 rfl fun b2 => ?_;refine zI .here (fun ns hi _ hd1 => ?_);refine zI .here (fun ns2 hi2 _ hd2 => ?_)
 have hR : Rd (uni (uni m0 ns) ns2) (some ⟨b2, 0, none⟩) (e14 8 who nop nn nwho nA nl nc name cop cwho cname cA cla cca cB clb ccb TA la ca EB lb cb) := ((Rd.blk hi).mono (zP hd1)).mono (zN _ _);have haN : At (uni (uni m0 ns) ns2) ⟨b2, 2, none⟩ (n4 nop nn nwho nA nl nc) := ((At.blkO (o := 2) (k := 4) hi).mono (zP hd1)).mono (zN _ _)
 have haC : At (uni (uni m0 ns) ns2) ⟨b2, 7, none⟩ (c5 cop cwho cname cA cla cca cB clb ccb) := ((At.blkO (o := 7) (k := 5) hi).mono (zP hd1)).mono (zN _ _);have hR1 : Rd (uni (uni m0 ns) ns2) (some ⟨b1, 0, none⟩) [ptr b] := (Rd.blk hi2).mono (zP hd2);have hl2 : Le m0 (uni (uni m0 ns) ns2) := (zN _ _).trans (zN _ _);clear hi hd1 hi2 hd2
 generalize uni (uni m0 ns) ns2 = m9 at hR hR1 hl2 haN haC;have hl9 := hm0.trans hl2;have hT := hT.mono hl9;have hU := hU.mono hl9;have hn := hn.mono hl9;have hc := hc.mono hl9;have hbt := hbt.mono hl9;have hbe := hbe.mono hl9;have iN : NumOk m9 b _ n := num111 (b := b) hT hn;have iC : CondOk m9 b _ cond := cond115 (b := b) hT hU hc hcs
 have hcp : mc m9 ⟨b1, 0, none⟩ = some (ptr b) := hR1.at_ (i := 0) rfl;have hc0 : mc m9 ⟨b2, 0, none⟩ = some (.int .i8 8) := hR.at_ (i := 0) rfl;have hc1 : mc m9 ⟨b2, 1, none⟩ = some (.int .i8 who) := hR.at_ (i := 1) rfl;have hc6 : mc m9 ⟨b2, 6, none⟩ = some (.string (bs name)) := hR.at_ (i := 6) rfl;have hc12 : mc m9 ⟨b2, 12, none⟩ = some (.slice TA la ca) := hR.at_ (i := 12) rfl
 have hc13 : mc m9 ⟨b2, 13, none⟩ = some (.slice EB lb cb) := hR.at_ (i := 13) rfl;have hw1 := yC (.mk 8 who n name cond thn els);refine tr 1 ?_;refine Lo 0 sg89 rfl hcp ?_;refine Cp cl109 rfl .k0 (fun m' hm he => part109 hp) ?_ ?_
 ·rintro _ _ ⟨h1, rfl⟩;exact pW hl2 ⟨.inr (by omega), rfl⟩
 rintro _ _ ⟨hp1, rfl, rfl⟩;rw [vy, kJ];by_cases hwho : who = 0
 rotate_left
 ·rw [if_neg (fun h => hwho h.1)];refine vr 5 ?_;refine Lo 0 sg42 rfl hc0 ?_;refine pe 0 (zV zl50 pl50 rfl rfl) ?_;refine Al 0 zl50 fun b3 => ?_;refine Sg 11 ag50 .here ?_;refine Lo 6 sg42 rfl hc0 ?_;refine cfo 5 ?_;refine cfo 6 ?_;refine cfo 6 ?_;refine cfo 6 ?_;refine cfo 6 ?_;refine cfo 6 ?_;refine cfo 6 ?_;refine cfo 7 ?_;refine Lo 0 sg42 rfl hc0 ?_;refine ctr 2 ?_
  refine Lo 0 sg42 rfl hc1 ?_;refine cfa 12 ?_;refine Mf fun _ => ?_;exact pW hl2 ⟨.inl (rfl), rfl⟩
 by_cases hname : name = []
 rotate_left
 ·rw [if_neg (fun h => hname h.2.1)];refine vr 5 ?_;refine Lo 0 sg42 rfl hc0 ?_;refine pe 0 (zV zl50 pl50 rfl rfl) ?_;refine Al 0 zl50 fun b3 => ?_;refine Sg 11 ag50 .here ?_;refine Lo 6 sg42 rfl hc0 ?_;refine cfo 5 ?_;refine cfo 6 ?_;refine cfo 6 ?_;refine cfo 6 ?_;refine cfo 6 ?_;refine cfo 6 ?_;refine cfo 6 ?_;refine cfo 7 ?_;refine Lo 0 sg42 rfl hc0 ?_;refine ctr 2 ?_
  refine Lo 0 sg42 rfl hc1 ?_;refine cta 3 ?_;refine Lo 0 sg9 rfl hc6 ?_;refine cfa 7 ?_;refine Mf fun _ => ?_;exact pW hl2 ⟨.inl (rfl), rfl⟩
 subst hwho hname;refine vr 5 ?_;refine Lo 0 sg42 rfl hc0 ?_;refine pe 0 (zV zl50 pl50 rfl rfl) ?_;refine Al 0 zl50 fun b3 => ?_;refine Sg 11 ag50 .here ?_;refine Lo 6 sg42 rfl hc0 ?_;refine cfo 5 ?_;refine cfo 6 ?_;refine cfo 6 ?_;refine cfo 6 ?_;refine cfo 6 ?_;refine cfo 6 ?_;refine cfo 6 ?_;refine cfo 7 ?_;refine Lo 0 sg42 rfl hc0 ?_;refine ctr 2 ?_;refine Lo 0 sg42 rfl hc1 ?_
 refine ctr 3 ?_;refine Lo 0 sg9 rfl hc6 ?_;refine ctr 3 ?_;refine La 0 ag45 haN ?_;refine pe 0 (zV zl48 pl48 rfl rfl) ?_;refine Cr cl112 rfl (fun m' hm he => (plainN112 hn)) ?_;rintro _ rfl;cases hzn : zeroN n with
 | false =>
   rw [if_neg (fun h => absurd h.2.2 (by decide))];refine vr 1 ?_;refine Mf fun _ => ?_;exact pW hl2 ⟨.inl (rfl), rfl⟩
 | true =>
   rw [if_pos ⟨rfl, rfl, rfl⟩];refine vr 1 ?_;refine Mt 4 ?_;refine Lo 1 sg89 rfl hcp ?_;refine Cp cl113 rfl .k1 (fun m' hm he => within113 (r := ifP cond thn els) (q := [ptr b1, ptr b2]) hd cl114 (fun h8 m2 hm2 => if114 (hR1.mono (hm.trans hm2)) (hR.mono (hm.trans hm2)) (haC.mono (hm.trans hm2)) (iC.mono (hm.trans hm2)) (hbt.mono (hm.trans hm2)) (hbe.mono (hm.trans hm2)) hp1 h8)) ?_ ?_
   ·rintro _ _ ⟨h3, rfl⟩;exact pW hl2 ⟨h3.imp id (fun h => by omega), rfl⟩
   rintro _ _ ⟨t, h3, h4, rfl, rfl⟩;refine vr 6 ?_;rw [show p + 1 + (condW cond + effsW thn + effsW els) = p + (1 + (condW cond + effsW thn + effsW els)) by omega];exact za hl2 [_] ⟨rfl, trivial⟩ [_] .p0 ⟨t, h3, by omega, rfl, rfl⟩
theorem Zu (hT : TabI m) (hU : Tabs m) {op who nop nn nwho : Int} {nA : Option Addr} {nl nc : Nat} {name : List UInt8} {cop cwho : Int} {cname : List UInt8} {cA : Option Addr} {cla cca : Nat} {cB : Option Addr} {clb ccb : Nat} {TA : Option Addr} {la ca : Nat} {EB : Option Addr} {lb cb : Nat} {n : NumT} {cond : CondT} {thn els : List EffT}
  (hn : NumR m (n4 nop nn nwho nA nl nc) n) (hc : CondR m (c5 cop cwho cname cA cla cca cB clb ccb) cond) (hcs : CondSm cond) (hnm : name.length ≤ 140737488355328) (hla : thn.length = la) (hlb : els.length = lb) (hla2 : la ≤ 140737488355328) (hlb2 : lb ≤ 140737488355328)
  (hbt : BlkOk m b TA la ca thn) (hbe : BlkOk m b EB lb cb els) (hop : ¬ (0 ≤ op ∧ op ≤ 8)) : EffOk m b (e14 op who nop nn nwho nA nl nc name cop cwho cname cA cla cca cB clb ccb TA la ca EB lb cb) (.mk op who n name cond thn els) := by
 intro m0 hm0 p d hp hd;skip;refine zg [.tmp 4] Tryz.func94 rfl rfl rfl ?_;refine tr 2 ?_;refine Bx 0 rfl fun b1 => ?_;refine Bx 4 rfl fun b2 => ?_;refine zI .here (fun ns hi _ hd1 => ?_);refine zI .here (fun ns2 hi2 _ hd2 => ?_)
 have hR : Rd (uni (uni m0 ns) ns2) (some ⟨b2, 0, none⟩) (e14 op who nop nn nwho nA nl nc name cop cwho cname cA cla cca cB clb ccb TA la ca EB lb cb) := ((Rd.blk hi).mono (zP hd1)).mono (zN _ _);have haN : At (uni (uni m0 ns) ns2) ⟨b2, 2, none⟩ (n4 nop nn nwho nA nl nc) := ((At.blkO (o := 2) (k := 4) hi).mono (zP hd1)).mono (zN _ _)
 have haC : At (uni (uni m0 ns) ns2) ⟨b2, 7, none⟩ (c5 cop cwho cname cA cla cca cB clb ccb) := ((At.blkO (o := 7) (k := 5) hi).mono (zP hd1)).mono (zN _ _);have hR1 : Rd (uni (uni m0 ns) ns2) (some ⟨b1, 0, none⟩) [ptr b] := (Rd.blk hi2).mono (zP hd2);have hl2 : Le m0 (uni (uni m0 ns) ns2) := (zN _ _).trans (zN _ _);clear hi hd1 hi2 hd2
 generalize uni (uni m0 ns) ns2 = m9 at hR hR1 hl2 haN haC;have hl9 := hm0.trans hl2;have hT := hT.mono hl9;have hU := hU.mono hl9;have hn := hn.mono hl9;have hc := hc.mono hl9;have hbt := hbt.mono hl9;have hbe := hbe.mono hl9;have iN : NumOk m9 b _ n := num111 (b := b) hT hn;have iC : CondOk m9 b _ cond := cond115 (b := b) hT hU hc hcs
 have hcp : mc m9 ⟨b1, 0, none⟩ = some (ptr b) := hR1.at_ (i := 0) rfl;have hc0 : mc m9 ⟨b2, 0, none⟩ = some (.int .i8 op) := hR.at_ (i := 0) rfl;have hc1 : mc m9 ⟨b2, 1, none⟩ = some (.int .i8 who) := hR.at_ (i := 1) rfl;have hc6 : mc m9 ⟨b2, 6, none⟩ = some (.string (bs name)) := hR.at_ (i := 6) rfl;have hc12 : mc m9 ⟨b2, 12, none⟩ = some (.slice TA la ca) := hR.at_ (i := 12) rfl
 have hc13 : mc m9 ⟨b2, 13, none⟩ = some (.slice EB lb cb) := hR.at_ (i := 13) rfl;have hw1 := yC (.mk op who n name cond thn els);refine tr 1 ?_;refine Lo 0 sg89 rfl hcp ?_;refine Cp cl109 rfl .k0 (fun m' hm he => part109 hp) ?_ ?_
 ·rintro _ _ ⟨h1, rfl⟩;exact pW hl2 ⟨.inr (by omega), rfl⟩
 rintro _ _ ⟨hp1, rfl, rfl⟩;by_cases hneg : op < 0
 ·refine vr 5 ?_;refine Lo 0 sg42 rfl hc0 ?_;refine pe 0 (zV zl50 pl50 rfl rfl) ?_;refine Al 0 zl50 fun b3 => ?_;refine Sg 11 ag50 .here ?_;refine Lo 6 sg42 rfl hc0 ?_;refine cfo 5 ?_;refine cfo 6 ?_;refine cfo 6 ?_;refine cfo 6 ?_;refine cfo 6 ?_;refine cfo 6 ?_;refine cfo 6 ?_;refine cfo 7 ?_;refine Lo 0 sg42 rfl hc0 ?_;refine cfo 16 ?_;refine Mf fun _ => ?_
  exact pW hl2 ⟨.inl (yx hop), rfl⟩
 ·have hpos : 9 ≤ op := by omega
  refine vr 5 ?_;refine Lo 0 sg42 rfl hc0 ?_;refine pe 0 (zV zl50 pl50 rfl rfl) ?_;refine Al 0 zl50 fun b3 => ?_;refine Sg 11 ag50 .here ?_;refine Lo 6 sg42 rfl hc0 ?_;refine cfo 5 ?_;refine cfo 6 ?_;refine cfo 6 ?_;refine cfo 6 ?_;refine cfo 6 ?_;refine cfo 6 ?_;refine cfo 6 ?_;refine cfo 7 ?_;refine Lo 0 sg42 rfl hc0 ?_;refine cfo 16 ?_;refine Mf fun _ => ?_
  exact pW hl2 ⟨.inl (yx hop), rfl⟩
end
section
open Wd Tp Kd
variable {m : Mp} {b : Nat}
abbrev bu (b : Nat) (p s : Value) : Ent := cel b [p, s] 76
def PB (b : Nat) (p : Value) : Prop := p = .pointer none ∨ p = ptr b
abbrev buL (b : Nat) (p : Value) (A : Option Addr) (c : Nat) (l : List UInt8) : List Ent := [cel b [p, .slice A l.length c] 76, own 5 1 A l.length c (l.map byteV)]
theorem copy88 {p s : Value} (hp : PB b p) : CS Tryz.prog 88 [ptr b] m [bu b p s] (fun v L' => v = U0 ∧ L' = [bu b (ptr b) s]) := by
 intro h hs x d;have hb : mp h b = some (.cells [p, s].toArray 76 (0, 0)) := hs.head;have hw : (W x h d).heap[b]? = some (.cells [p, s].toArray 76 (0, 0)) := hb;rcases hp with rfl | rfl
 ·refine (Any.Builder_copyCheck_fresh (ρ := Tryz.lays156_ren) { Tryz.lays156 with } Tryz.extra156.toX72 b (W x h d) (by simp [World.cell?, hw]) (by simp only [World.shape?, hw]; rfl) (by simp [World.frozen?, hw])).mono ?_;rintro e w' ⟨rfl, rfl⟩;refine ⟨U0, hset h ⟨b, 0, none⟩ (ptr b), d, rfl, rfl, _, ⟨rfl, rfl⟩, ?_⟩
  exact hs.upd (fun k _ hk => w9 h _ _ (fun e => by
   have e : k = b := e;have hk : Nat.beq b k = false := hk;rw [e] at hk
   simp at hk)) (qY h (ptr b) hb) (fun k hk => .inl hk)
 ·refine (Any.Builder_copyCheck_used (ρ := Tryz.lays156_ren) { Tryz.lays156 with } Tryz.extra156.toX72 b (W x h d) (by simp [World.cell?, hw])).mono ?_;rintro e w' ⟨rfl, rfl⟩;exact ⟨U0, h, d, rfl, rfl, _, ⟨rfl, rfl⟩, hs⟩
theorem Write36 {p : Value} {A : Option Addr} {c : Nat} {l s : List UInt8} (hp : PB b p) (hA : Buf A l) (hl : l.length + s.length ≤ 140737488355328) :
  CS Tryz.prog 36 [ptr b, .string (bs s)] m (buL b p A c l) (fun v L' => ∃ A' c', Buf A' (l ++ s) ∧ v = .tuple [.int .i64 (s.length : Nat), .nilIface].toArray ∧ L' = buL b (ptr b) A' c' (l ++ s)) := by
 refine zn [.tmp 4, .tmp 5] Tryz.func36 rfl rfl rfl ?_;refine tr 9 ?_;refine C1 cl88 rfl .here (fun m' hm he => copy88 hp) ?_;rintro _ _ ⟨rfl, rfl⟩;refine vr 8 ?_;refine Lb 1 sg74 .here ?_;refine zC (Xr (l := l) sl74 rfl Tryz.underlying9 rfl rfl (fun _ _ => .h1) hA (by simp only [maxLen]; omega) (by omega) rfl (fun A' c' hB => ?_)) rfl;refine vr 2 ?_;refine Sr 5 co74 .here .h1 ?_
 refine pe 5 (zb rfl st9) ?_;rw [← List.length_append];exact zl [_, _] ⟨rfl, rfl, trivial⟩ [_, _] .pp ⟨A', c', hB, rfl, rfl⟩
theorem Len35 {p : Value} {A : Option Addr} {c : Nat} {l : List UInt8} : CS Tryz.prog 35 [ptr b] m (buL b p A c l) (fun v L' => v = .int .i64 (l.length : Nat) ∧ L' = buL b p A c l) := by
 refine zn [.tmp 2] Tryz.func35 rfl rfl rfl ?_;refine tr 10 ?_;refine Lb 5 sg74 .here ?_;exact zl [_] ⟨rfl, trivial⟩ [_, _] (Pick.refl _) ⟨rfl, rfl⟩
theorem String38 {p : Value} {A : Option Addr} {c : Nat} {l : List UInt8} (hA : Buf A l) (hl : l.length ≤ 140737488355328) : CS Tryz.prog 38 [ptr b] m (buL b p A c l) (fun v L' => v = .string (bs l) ∧ L' = []) := by
 skip;skip;refine zn [.tmp 2] Tryz.func38 rfl rfl rfl ?_;rcases hA with ⟨rfl, rfl⟩ | ⟨h0, g, rfl⟩
 ·refine tr 6 ?_;refine Db (sq [0, 1, 2, 5, 6, 7] (.fork (sq [103] (.fork (sq [104, 108, 9, 110, 11] .done) (sq [108, 9, 104, 110, 11] .done))) (sq [108, 9, 103, 104, 110, 11] .done))) ?_;refine vB 6 ?_;refine zt ?_ ?_;refine Ve 0 rfl (zf sg74 rfl .here rfl) ?_;refine zt ?_ ?_
  ·refine zA rfl ((yX (fun h _ => (wP rfl).read) rfl rfl ?_)) rfl;refine Ve 1 rfl (zf sg74 rfl .here rfl) ?_;refine zA rfl ((yX (fun h _ => (wC rfl rfl).read) rfl rfl ?_)) rfl;refine vB 1 ?_;refine Vn 2 ?_;exact rt1 ⟨rfl, trivial⟩ ⟨rfl, rfl⟩
  ·refine Ve 1 rfl (zf sg74 rfl .here rfl) ?_;refine zA rfl ((yX (fun h _ => (wP rfl).read) rfl rfl ?_)) rfl;skip;refine zA rfl ((yX (fun h _ => (wC rfl rfl).read) rfl rfl ?_)) rfl;refine vB 1 ?_;refine Vn 2 ?_;exact rt1 ⟨rfl, trivial⟩ ⟨rfl, rfl⟩
  ·refine Ve 1 rfl (zf sg74 rfl .here rfl) ?_;refine Ve 0 rfl (zf sg74 rfl .here rfl) ?_;refine zA rfl ((yX (fun h _ => (wP rfl).read) rfl rfl ?_)) rfl;skip;refine zA rfl ((yX (fun h _ => (wC rfl rfl).read) rfl rfl ?_)) rfl;refine vB 1 ?_;refine Vn 2 ?_;exact rt1 ⟨rfl, trivial⟩ ⟨rfl, rfl⟩
 ·refine TS_fact (p := l.length ≤ c) (fun h hs => Own.le hs.tail.head) (fun hc => ?_);have hc0 : c ≠ 0 := fun e => h0 (List.eq_nil_of_length_eq_zero (by omega));refine tr 6 ?_;refine Db (sq [0, 1, 2, 5, 6, 7] (.fork (sq [103] (.fork (sq [104, 108, 9, 110, 11] .done) (sq [108, 9, 104, 110, 11] .done))) (sq [108, 9, 103, 104, 110, 11] .done))) ?_;refine vB 6 ?_;refine zt ?_ ?_
  refine Ve 0 rfl (zf sg74 rfl .here rfl) ?_;refine zt ?_ ?_
  ·refine zA rfl ((yX (fun h _ => (ve rfl hc0).read) rfl rfl ?_)) rfl;refine Ve 1 rfl (zf sg74 rfl .here rfl) ?_;refine zA rfl ((wO Tryz.underlying124 rfl rfl rfl .h1 h0 (by omega) rfl ?_)) rfl;refine vB 1 ?_;refine Vn 2 ?_;exact rt1 ⟨rfl, trivial⟩ ⟨rfl, rfl⟩
  ·refine Ve 1 rfl (zf sg74 rfl .here rfl) ?_;refine zA rfl ((yX (fun h _ => (ve rfl hc0).read) rfl rfl ?_)) rfl;skip;refine zA rfl ((wO Tryz.underlying124 rfl rfl rfl .h1 h0 (by omega) rfl ?_)) rfl;refine vB 1 ?_;refine Vn 2 ?_;exact rt1 ⟨rfl, trivial⟩ ⟨rfl, rfl⟩
  ·refine Ve 1 rfl (zf sg74 rfl .here rfl) ?_;refine Ve 0 rfl (zf sg74 rfl .here rfl) ?_;refine zA rfl ((yX (fun h _ => (ve rfl hc0).read) rfl rfl ?_)) rfl;skip;refine zA rfl ((wO Tryz.underlying124 rfl rfl rfl .h1 h0 (by omega) rfl ?_)) rfl;refine vB 1 ?_;refine Vn 2 ?_;exact rt1 ⟨rfl, trivial⟩ ⟨rfl, rfl⟩
end
section
open Wd Tp Kd
variable {m : Mp} {b d p : Nat}
theorem eff94 (hT : TabI m) (hU : Tabs m) {op who nop nn nwho : Int} {nA : Option Addr} {nl nc : Nat} {name : List UInt8} {cop cwho : Int} {cname : List UInt8} {cA : Option Addr} {cla cca : Nat} {cB : Option Addr} {clb ccb : Nat} {TA : Option Addr} {la ca : Nat} {EB : Option Addr} {lb cb : Nat} {n : NumT} {cond : CondT} {thn els : List EffT}
  (hn : NumR m (n4 nop nn nwho nA nl nc) n) (hc : CondR m (c5 cop cwho cname cA cla cca cB clb ccb) cond) (hcs : CondSm cond) (hnm : name.length ≤ 140737488355328) (hla : thn.length = la) (hlb : els.length = lb) (hla2 : la ≤ 140737488355328) (hlb2 : lb ≤ 140737488355328)
  (hbt : BlkOk m b TA la ca thn) (hbe : BlkOk m b EB lb cb els) : EffOk m b (e14 op who nop nn nwho nA nl nc name cop cwho cname cA cla cca cB clb ccb TA la ca EB lb cb) (.mk op who n name cond thn els) := by
 by_cases h0 : op = 0
 ·exact Zs hT hU hn hc hcs hnm hla hlb hla2 hlb2 hbt hbe h0
 by_cases h1 : op = 1
 ·exact Zq hT hU hn hc hcs hnm hla hlb hla2 hlb2 hbt hbe h1
 by_cases h2 : op = 2
 ·exact Zw hT hU hn hc hcs hnm hla hlb hla2 hlb2 hbt hbe h2
 by_cases h3 : op = 3
 ·exact Zt hT hU hn hc hcs hnm hla hlb hla2 hlb2 hbt hbe h3
 by_cases h5 : op = 5
 ·exact Zr hT hU hn hc hcs hnm hla hlb hla2 hlb2 hbt hbe h5
 by_cases h4 : op = 4
 ·exact Zv hT hU hn hc hcs hnm hla hlb hla2 hlb2 hbt hbe h4
 by_cases h6 : op = 6
 ·exact Zp hT hU hn hc hcs hnm hla hlb hla2 hlb2 hbt hbe h6
 by_cases h7 : op = 7
 ·exact j3 hT hU hn hc hcs hnm hla hlb hla2 hlb2 hbt hbe h7
 by_cases h8 : op = 8
 ·exact WI hT hU hn hc hcs hnm hla hlb hla2 hlb2 hbt hbe h8
 ·exact Zu hT hU hn hc hcs hnm hla hlb hla2 hlb2 hbt hbe (by omega)
theorem ZT (a c : List EffT) (d : Nat) : blkP (a ++ c) d = (blkP a d).bind fun s => (blkP c d).map fun t => s ++ t := by
 induction a with
 | nil => rw [vZ]; simp
 | cons x r ih =>
   rw [List.cons_append, v8, v8, ih];cases effP x d with
   | none => rfl
   | some u =>
     cases blkP r d with
     | none => rfl
     | some v =>
       cases blkP c d with
       | none => rfl
       | some w => simp
theorem XO (a c : List EffT) : effsW (a ++ c) = effsW a + effsW c := by simp [effsW]
theorem jn {l : List EffT} {i d : Nat} (h : i < l.length) : blkP (l.take (i + 1)) d = (blkP (l.take i) d).bind fun s => (effP l[i] d).map fun t => s ++ (sSp ++ t) := by
 rw [List.take_add_one, List.getElem?_eq_getElem h, Option.toList_some, ZT, v8, vZ];cases blkP (l.take i) d with
 | none => rfl
 | some s => cases effP l[i] d <;> simp
theorem jD {l : List EffT} {i : Nat} (h : i < l.length) : effsW (l.take (i + 1)) = effsW (l.take i) + effW l[i] := wI effW h
theorem jo {l : List EffT} {i d : Nat} (h : blkP (l.take i) d = none) : blkP l d = none := by
 conv => lhs; rw [← List.take_append_drop i l, ZT, h]
 rfl
theorem vD (l : List EffT) (i : Nat) : effsW (l.take i) ≤ effsW l := by
 conv => rhs; rw [← List.take_append_drop i l, XO]
 omega
structure BlS where
 i : Nat
 p : Nat
 A : Option Addr
 c : Nat
 l : List UInt8
 q : Value
theorem YM {l : List EffT} {A : Option Addr} {cap : Nat} (hl : EffsR m A l.length l) (hlen : l.length ≤ 140737488355328) (ih : ∀ (i : Nat) (h : i < l.length) cs, EffR m cs l[i] → EffOk m b cs l[i]) : BlkOk m b A l.length cap l := by
 intro m0 hm0 p d hp hd;obtain ⟨-, -, vs, hrd, hvl, hel⟩ := hl;have hrd := hrd.mono hm0;refine zg [.tmp 4] Tryz.func44 rfl rfl rfl ?_;refine tr 7 ?_;refine Al 4 zl76 fun b1 => ?_;refine xC 5 1 ?_;refine tr 7 ?_
 refine zu (α := BlS) (fun y => [(0, ptr b), (5, ptr b1), (8, .slice A l.length cap), (9, .int .i64 (l.length : Nat)), (10, .int .i64 (y.i : Nat))]) (fun y => buL b1 y.q y.A y.c y.l ++ [pr b y.p d])
  (fun y => y.i ≤ l.length ∧ PB b1 y.q ∧ Buf y.A y.l ∧ blkP (l.take y.i) d = some y.l ∧ y.p = p + effsW (l.take y.i) ∧ y.p ≤ 200) (fun y => l.length - y.i) ⟨0, p, none, 0, [], .pointer none⟩ ⟨rfl, rfl, rfl, rfl, rfl, trivial⟩ (.cons .h1 .pp)
  ⟨Nat.zero_le _, .inl rfl, Buf.nil, by rw [List.take_zero, vZ], by simp [effsW], hp⟩ ?_
 rintro ⟨i, p1, A1, c1, l1, q1⟩ ⟨hi, hq, hB, hs, hpe, hp1⟩;dsimp only at hi hq hB hs hpe hp1;dsimp only;have hls := z1 hs;have hwp := vD l i;by_cases hlt : i < l.length
 ·have hA : A.isSome = true := hrd.isSome (by omega);have hat := hrd.elem (i * 14) 14;have hx := hel i hlt;have hok := ih i hlt _ hx;have hok := hok.mono hm0;have htk := jn (d := d) hlt;have hwk := jD hlt;have hwp2 := vD l (i + 1);have hst : effP l[i] d = none → blkP l d = none := fun h => jo (i := i + 1) (by rw [htk, hs, h]; rfl)
  have hnx : ∀ s, effP l[i] d = some s → blkP (l.take (i + 1)) d = some (l1 ++ ([32] ++ s)) := fun s h => by rw [htk, hs, h]; rfl
  have hsz : ∀ s, effP l[i] d = some s → s.length + 1 ≤ 100 * effW l[i] := fun s h => jj h;clear htk;obtain ⟨op, who, nop, nn, nwho, nA, nl, nc, name, cop, cwho, cname, cA, cla, cca, cB, clb, ccb, TA, la, ca, EB, lb, cb, e⟩ := EffR.form hx;rw [e] at hat hok;clear hx e;refine tr 2 ?_;refine cto 10 ?_;refine pe 0 (zM ez38 rfl rfl hA (by omega)) ?_;refine La 0 ag50 hat ?_
  refine Al 0 zl50 fun b2 => ?_;refine Sg 4 ag50 .here ?_;refine Lc 0 ag50 .here ?_;refine Cp cl94 rfl .k3 (fun m' hm he => hok m' hm p1 d hp1 hd) ?_ ?_
  ·rintro _ _ ⟨h1, rfl⟩;refine zX ?_;refine zK ?_;exact pn ⟨h1.imp hst (fun h => by omega), rfl⟩
  rintro _ _ ⟨s, h1, h2, rfl, rfl⟩;have hsz := hsz s h1;have hnx := hnx s h1;refine Ps 0 ?_;refine zC ((zF cl36 rfl (.cons .h2 .k2) (fun m' hm he => Write36 (s := [32] ++ s) hq hB (by simp only [List.length_append, List.length_cons, List.length_nil]; omega)) rfl ?_)) rfl;rintro _ _ ⟨A2, c2, hB2, rfl, rfl⟩;refine vr 4 ?_;refine Pa 2 ?_
  exact QR (⟨i + 1, p1 + effW l[i], A2, c2, l1 ++ ([32] ++ s), ptr b1⟩ : BlS) (.cons .here .pp) ⟨hlt, .inr rfl, hB2, hnx, by dsimp only; omega, h2⟩ (by dsimp only; omega)
 ·have hi2 : i = l.length := by omega
  subst hi2;rw [List.take_length] at hs hpe;subst hpe;refine tr 2 ?_;refine cfo 6 ?_;refine zE ?_;refine zD ?_;refine qt 3 ?_;refine zC ((zF cl38 rfl (.cons .here .k0) (fun m' hm he => String38 hB (by omega)) rfl ?_)) rfl;rintro _ _ ⟨rfl, rfl⟩;refine vr 4 ?_;exact zi [_] ⟨rfl, trivial⟩ [_] .p0 ⟨l1, hs, hp1, rfl, rfl⟩
def BW (l : List EffT) : Prop := EffsSm l → ∀ (m : Mp), TabI m → Tabs m → ∀ (b : Nat) (A : Option Addr) (cap : Nat), EffsR m A l.length l → l.length ≤ 140737488355328 → BlkOk m b A l.length cap l
theorem Xl {l : List EffT} (ih : ∀ (i : Nat) (h : i < l.length) (op who : Int) (n : NumT) (name : List UInt8) (c : CondT) (a e : List EffT), l[i] = .mk op who n name c a e → BW a ∧ BW e) : BW l := fun hsm m hT hU b A cap hl hlen =>
 YM hl hlen fun i h cs hx => by
  have hs := hsm _ (List.getElem_mem h);have hi := ih i h;generalize l[i] = x at hx hs hi;obtain ⟨op, who, nop, nn, nwho, nA, nlen, nc, name, cop, cwho, cname, cA, cla, cca, cB, clb, ccb, TA, la, ca, EB, lb, cb, n, cond, thn, els, rfl, rfl, -, hn, hc, hthn, hels⟩ := EffR.parts hx;cases hs with
  | mk h1 h2 h3 h4 h5 h6 =>
    have e1 := hthn.1;have e2 := hels.1;subst e1 e2;obtain ⟨i1, i2⟩ := hi _ _ _ _ _ _ _ rfl;exact eff94 hT hU hn hc h2 h1 rfl rfl h3 h4 (i1 h5 m hT hU b TA ca hthn h3) (i2 h6 m hT hU b EB cb hels h4)
theorem blk44 (l : List EffT) : BW l := Xl fun i h op who n name c a e he => ⟨blk44 a, blk44 e⟩
termination_by SizeOf.sizeOf l
decreasing_by
 all_goals
  have h1 := List.sizeOf_lt_of_mem (List.getElem_mem h);rw [he] at h1;simp only [EffT.mk.sizeOf_spec] at h1;omega
end
section
open Wd Tp Kd
variable {m : Mp} {b d p : Nat} {q : Bool}
theorem eff96 {op who nop nn nwho : Int} {nA : Option Addr} {nl nc : Nat} {name : List UInt8} {cop cwho : Int} {cname : List UInt8} {cA : Option Addr} {cla cca : Nat} {cB : Option Addr} {clb ccb : Nat} {TA : Option Addr} {la ca : Nat} {EB : Option Addr} {lb cb : Nat} {n : NumT} {cond : CondT} {thn els : List EffT}
  (hn : NumR m (n4 nop nn nwho nA nl nc) n) (hc : CondR m (c5 cop cwho cname cA cla cca cB clb ccb) cond) (hcs : CondSm cond) (hnm : name.length ≤ 140737488355328) (hla : thn.length = la) (hlb : els.length = lb) (hla2 : la ≤ 140737488355328) (hlb2 : lb ≤ 140737488355328)
  (hbt : BlkD m b TA la ca thn) (hbe : BlkD m b EB lb cb els) : EffD m b (e14 op who nop nn nwho nA nl nc name cop cwho cname cA cla cca cB clb ccb TA la ca EB lb cb) (.mk op who n name cond thn els) := by
 have iC : CondD m b _ cond := cond123 (b := b) hc hcs;by_cases h0 : op = 0
 ·exact XW hn hc iC hnm hla hlb hla2 hlb2 hbt hbe h0
 by_cases h1 : op = 1
 ·exact XU hn hc iC hnm hla hlb hla2 hlb2 hbt hbe h1
 by_cases h2 : op = 2
 ·exact Xa hn hc iC hnm hla hlb hla2 hlb2 hbt hbe h2
 by_cases h3 : op = 3
 ·exact XX hn hc iC hnm hla hlb hla2 hlb2 hbt hbe h3
 by_cases h5 : op = 5
 ·exact XV hn hc iC hnm hla hlb hla2 hlb2 hbt hbe h5
 by_cases h4 : op = 4
 ·exact XZ hn hc iC hnm hla hlb hla2 hlb2 hbt hbe h4
 by_cases h6 : op = 6
 ·exact XT hn hc iC hnm hla hlb hla2 hlb2 hbt hbe h6
 by_cases h7 : op = 7
 ·exact ZN hn hc iC hnm hla hlb hla2 hlb2 hbt hbe h7
 by_cases h8 : op = 8
 ·exact d_effIf hn hc iC hnm hla hlb hla2 hlb2 hbt hbe h8
 ·exact XY hn hc iC hnm hla hlb hla2 hlb2 hbt hbe (by omega)
theorem WJ {p w v c k H p' : Nat} {q : Bool} {r r' : Option (List UInt8)} {s : List UInt8} (h : Out p q r w c H s p' true) (hr : r = none → r' = none) (hw : w ≤ v) (hc : c ≤ k) : Out p q r' v k H s p' true :=
 ⟨h.lo, by have := h.hi; omega, by have := h.len; omega, fun e => by have := h.len0 e; omega, fun _ => rfl, fun e => (by cases e), fun e _ => (h.bad e rfl).imp hr (fun _ => by omega)⟩
theorem Wp {l : List EffT} {i d : Nat} (h : i < l.length) : blkP (l.take (i + 1)) d = putP (fun s t => s ++ ([32] ++ t)) (blkP (l.take i) d) (effP l[i] d) := by
 rw [jn h];unfold putP;cases blkP (l.take i) d with
 | none => rfl
 | some s => cases effP l[i] d <;> rfl
structure BdS where
 i : Nat
 p : Nat
 q : Bool
 s : List UInt8
theorem YL {l : List EffT} {A : Option Addr} {cap : Nat} (hl : EffsR m A l.length l) (hlen : l.length ≤ 140737488355328) (ih : ∀ (i : Nat) (h : i < l.length) cs, EffR m cs l[i] → EffD m b cs l[i]) : BlkD m b A l.length cap l := by
 intro m0 hm0 p d q hp hd hq;obtain ⟨-, -, vs, hrd, hvl, hel⟩ := hl;have hrd := hrd.mono hm0;refine zn [.tmp 4] Tryz.func48 rfl rfl rfl ?_;refine tr 17 ?_
 refine zu (α := BdS) (fun y => [(0, ptr b), (1, .slice A l.length cap), (5, .string (bs y.s)), (6, .int .i64 (y.i : Nat))]) (fun y => [pd b y.p d y.q])
  (fun y => y.i ≤ l.length ∧ Out p q (blkP (l.take y.i) d) (effsW (l.take y.i)) (100 * effsW (l.take y.i)) 140737488355328 y.s y.p y.q) (fun y => l.length - y.i) ⟨0, p, q, []⟩ ⟨rfl, rfl, rfl, rfl, trivial⟩ .p0
  ⟨Nat.zero_le _, (Out.keep (by rw [List.take_zero, vZ]) (fun e => (hq e).2) (Nat.zero_le _)).congr rfl rfl (by simp [effsW])⟩ ?_
 rintro ⟨i, p1, q1, s⟩ ⟨hi, ho⟩;dsimp only at hi ho;dsimp only;have hls := ho.len;have hwp := vD l i;have hph := ho.hi;by_cases hlt : i < l.length
 ·cases q1 with
  | true =>
    refine tr 6 ?_;refine cto 4 ?_;refine Lb 7 sg4 .here ?_;refine zE ?_;refine zD ?_;refine qt 8 ?_;exact zl [_] ⟨rfl, trivial⟩ [_] .p0 ⟨s, p1, true, rfl, rfl, WJ ho jo hwp (by omega)⟩
  | false =>
    have hqf : q = false := by
     cases hqq : q with
     | false => rfl
     | true => have := ho.stay hqq; cases this
    have hd8 := (hq hqf).1;have hA : A.isSome = true := hrd.isSome (by omega);have hat := hrd.elem (i * 14) 14;have hx := hel i hlt;have hok := (ih i hlt _ hx).mono hm0;have hput := Wp (d := d) hlt;have hwk := jD hlt;have hwp2 := vD l (i + 1);have hw1 := yC l[i];have hgood := (ho.good rfl)
    obtain ⟨op, who, nop, nn, nwho, nA, nl, nc, name, cop, cwho, cname, cA, cla, cca, cB, clb, ccb, TA, la, ca, EB, lb, cb, e⟩ := EffR.form hx;rw [e] at hat hok;clear hx e;refine tr 6 ?_;refine cto 4 ?_;refine Lb 11 sg4 .here ?_;refine Ps 3 ?_;refine pe 0 (zM ez38 rfl rfl hA (by omega)) ?_;refine La 0 ag50 hat ?_
    refine zC ((zF cl96 rfl .k0 (fun m' hm he => hok m' hm p1 d false (by omega) (by omega) (fun _ => hd8)) rfl ?_)) rfl;rintro _ _ ⟨t, p2, q2, rfl, rfl, h2⟩;have htl := h2.len;have hnx := ho.put (f := fun s t => s ++ ([32] ++ t)) h2 (K := 1) (by simp; omega);rw [← hput] at hnx;refine Ps 6 ?_;refine Pa 2 ?_;have e2 : s ++ [32] ++ t = s ++ ([32] ++ t) := List.append_assoc _ _ _;rw [e2]
    exact QR (⟨i + 1, p2, q2, s ++ ([32] ++ t)⟩ : BdS) .p0 ⟨hlt, by dsimp only; rw [hwk]; exact hnx.le (by omega) (Nat.le_refl _)⟩ (by dsimp only; omega)
 ·have hi2 : i = l.length := by omega
  subst hi2;rw [List.take_length] at ho;refine tr 6 ?_;refine cfo 12 ?_;refine zE ?_;refine zD ?_;refine qt 8 ?_;exact zl [_] ⟨rfl, trivial⟩ [_] .p0 ⟨s, p1, q1, rfl, rfl, ho⟩
def BD (l : List EffT) : Prop := EffsSm l → ∀ (m : Mp) (b : Nat) (A : Option Addr) (cap : Nat), EffsR m A l.length l → l.length ≤ 140737488355328 → BlkD m b A l.length cap l
theorem Xk {l : List EffT} (ih : ∀ (i : Nat) (h : i < l.length) (op who : Int) (n : NumT) (name : List UInt8) (c : CondT) (a e : List EffT), l[i] = .mk op who n name c a e → BD a ∧ BD e) : BD l := fun hsm m b A cap hl hlen =>
 YL hl hlen fun i h cs hx => by
  have hs := hsm _ (List.getElem_mem h);have hi := ih i h;generalize l[i] = x at hx hs hi;obtain ⟨op, who, nop, nn, nwho, nA, nlen, nc, name, cop, cwho, cname, cA, cla, cca, cB, clb, ccb, TA, la, ca, EB, lb, cb, n, cond, thn, els, rfl, rfl, -, hn, hc, hthn, hels⟩ := EffR.parts hx;cases hs with
  | mk h1 h2 h3 h4 h5 h6 =>
    have e1 := hthn.1;have e2 := hels.1;subst e1 e2;obtain ⟨i1, i2⟩ := hi _ _ _ _ _ _ _ rfl;exact eff96 hn hc h2 h1 rfl rfl h3 h4 (i1 h5 m b TA ca hthn h3) (i2 h6 m b EB cb hels h4)
theorem blk48 (l : List EffT) : BD l := Xk fun i h op who n name c a e he => ⟨blk48 a, blk48 e⟩
termination_by SizeOf.sizeOf l
decreasing_by
 all_goals
  have h1 := List.sizeOf_lt_of_mem (List.getElem_mem h);rw [he] at h1;simp only [EffT.mk.sizeOf_spec] at h1;omega
end
namespace Tp
open Go Go.Eng Wd Kd
def smallB (n : Int) : Bool := decide (0 ≤ n ∧ n ≤ 999)
def secP (w : List UInt8) (l : List EffT) : Option (List UInt8) := if l.length = 0 then some [] else (blkP l 0).map fun s => sSp ++ w ++ [32, 123] ++ s ++ [32, 125, 10]
def headT (c : CardT) : List UInt8 := if c.unit = true then sSp ++ sUnit ++ sSp ++ decP c.cost ++ sSp ++ decP c.power ++ sSlash ++ decP c.health ++ [32, 123, 10] else sSp ++ sCharm ++ sSp ++ decP c.cost ++ [32, 123, 10]
def auraT (c : CardT) : List UInt8 := if c.apow = 0 ∧ c.aheal = 0 then [] else sSp ++ sAura ++ sSp ++ decP c.apow ++ sSlash ++ decP c.aheal ++ [59, 10]
def shldT (c : CardT) : List UInt8 := if c.shield = 0 then [] else sSp ++ sShield ++ sSp ++ decP c.shield ++ [59, 10]
def numsB (c : CardT) : Bool := smallB c.cost && smallB c.power && smallB c.health && smallB c.shield && smallB c.apow && smallB c.aheal
def kindB (c : CardT) : Bool := c.unit || (decide (c.power = 0) && decide (c.health = 0))
def secsP (c : CardT) : Option (List UInt8) := (secP sPlayed c.played).bind fun a => (secP sDead c.dead).bind fun b => (secP sDawn c.dawn).map fun e => a ++ b ++ e
def cardP (c : CardT) : Option (List UInt8) :=
 if nameP c.name = true ∧ kindB c = true ∧ numsB c = true ∧ cardWt c ≤ 200 then (secsP c).map fun t => sCard ++ sSp ++ c.name ++ headT c ++ t ++ auraT c ++ shldT c ++ [125, 10] else none
def ruleT (w : List UInt8) (n : Int) : List UInt8 := if n = 0 then [] else sSp ++ w ++ sSp ++ decP n ++ [59, 10]
def namesT (w : List UInt8) (l : List (List UInt8)) : List UInt8 := if l.length = 0 then [] else sSp ++ w ++ sSp ++ Lib.join l [44, 32] ++ [59, 10]
def fmtP (f : FmtT) : Option (List UInt8) :=
 if nameP f.name = true ∧ smallB f.least = true ∧ smallB f.most = true ∧ smallB f.copies = true ∧ f.banned.all nameP = true ∧ f.single.all nameP = true then
  some (sFormat ++ sSp ++ f.name ++ [32, 123, 10] ++ ruleT sLeast f.least ++ ruleT sMost f.most ++ ruleT sCopies f.copies ++ namesT sBanned f.banned ++ namesT sSingle f.single ++ [125, 10]) else none
def catP : List (Option (List UInt8)) → Option (List UInt8)
 | [] => some []
 | a :: r => a.bind fun s => (catP r).map fun t => s ++ t
def bookP (b : BkT) : Option (List UInt8) := if b.cards.length ≤ 240 ∧ b.fmts.length ≤ 240 then catP (b.cards.map cardP ++ b.fmts.map fmtP) else none
def textP (b : BkT) : List UInt8 × Int := match bookP b with
 | none => ([], 2)
 | some s => if 65536 < s.length then ([], 3) else (s, 0)
theorem ZR (a c : List (Option (List UInt8))) : catP (a ++ c) = (catP a).bind fun s => (catP c).map fun t => s ++ t := by
 induction a with
 | nil => simp [catP]
 | cons x r ih =>
   rw [List.cons_append, catP, catP, ih];cases x with
   | none => rfl
   | some u =>
     cases catP r with
     | none => rfl
     | some v => cases catP c <;> simp
theorem Xg {l : List (Option (List UInt8))} {i : Nat} (h : i < l.length) : catP (l.take (i + 1)) = (catP (l.take i)).bind fun s => l[i].map fun t => s ++ t := by
 rw [List.take_add_one, List.getElem?_eq_getElem h, Option.toList_some, ZR];cases catP (l.take i) with
 | none => rfl
 | some s => cases l[i] <;> simp [catP]
theorem Xh {l : List (Option (List UInt8))} {i : Nat} (h : catP (l.take i) = none) : catP l = none := by
 conv => lhs; rw [← List.take_append_drop i l, ZR, h]
 rfl
structure CardSm (c : CardT) : Prop where
 name : c.name.length ≤ 140737488355328
 lp : c.played.length ≤ 140737488355328
 ld : c.dead.length ≤ 140737488355328
 lw : c.dawn.length ≤ 140737488355328
 p : EffsSm c.played
 d : EffsSm c.dead
 w : EffsSm c.dawn
structure FmtSm (f : FmtT) : Prop where
 name : f.name.length ≤ 140737488355328
 lb : f.banned.length ≤ 1000000000
 ls : f.single.length ≤ 1000000000
 b : ∀ s ∈ f.banned, s.length ≤ 140737488355328
 s : ∀ s ∈ f.single, s.length ≤ 140737488355328
theorem ze (n : Int) : (decP n).length ≤ 3 := kL _
theorem vC (c : CardT) : (headT c).length ≤ 30 := by
 have h1 := ze c.cost;have h2 := ze c.power;have h3 := ze c.health;unfold headT
 split <;> simp only [List.length_append, List.length_cons, List.length_nil] <;> omega
theorem uT (c : CardT) : (auraT c).length ≤ 20 := by
 have h1 := ze c.apow;have h2 := ze c.aheal;unfold auraT
 split <;> simp only [List.length_append, List.length_cons, List.length_nil] <;> omega
theorem uK (c : CardT) : (shldT c).length ≤ 20 := by
 have h1 := ze c.shield;unfold shldT
 split <;> simp only [List.length_append, List.length_cons, List.length_nil] <;> omega
theorem y8 {w : List UInt8} {l : List EffT} {s : List UInt8} (hw : w.length ≤ 10) (h : secP w l = some s) : s.length ≤ 100 * effsW l + 20 := by
 unfold secP at h
 split at h
 ·cases h; exact Nat.zero_le _
 ·cases hb : blkP l 0 with
  | none => rw [hb] at h; cases h
  | some t =>
    rw [hb] at h;cases h;have := z1 hb;simp only [List.length_append, List.length_cons, List.length_nil];omega
theorem YG {c : CardT} {s : List UInt8} (h : cardP c = some s) : nameP c.name = true ∧ kindB c = true ∧ numsB c = true ∧ cardWt c ≤ 200 ∧ ∃ a b e, secP sPlayed c.played = some a ∧ secP sDead c.dead = some b ∧ secP sDawn c.dawn = some e ∧ s = sCard ++ sSp ++ c.name ++ headT c ++ (a ++ b ++ e) ++ auraT c ++ shldT c ++ [125, 10] := by
 unfold cardP at h
 split at h
 ·rename_i h0
  refine ⟨h0.1, h0.2.1, h0.2.2.1, h0.2.2.2, ?_⟩;unfold secsP at h;cases ha : secP sPlayed c.played with
  | none => rw [ha] at h; cases h
  | some a =>
    rw [ha] at h;cases hb : secP sDead c.dead with
    | none => rw [hb] at h; cases h
    | some b =>
      rw [hb] at h;cases he : secP sDawn c.dawn with
      | none => rw [he] at h; cases h
      | some e =>
        rw [he] at h;cases h;exact ⟨a, b, e, rfl, rfl, rfl, rfl⟩
 ·cases h
theorem jJ {c : CardT} {s : List UInt8} (h : cardP c = some s) : s.length ≤ 21000 := by
 obtain ⟨hn, -, -, hw, a, b, e, h1, h2, h3, rfl⟩ := YG h;have g1 := yF hn;have g2 := y8 (by decide) h1;have g3 := y8 (by decide) h2;have g4 := y8 (by decide) h3;have g5 := vC c;have g6 := uT c;have g7 := uK c;unfold cardWt at hw;simp only [List.length_append, List.length_cons, List.length_nil];omega
theorem wL {k : Nat} {sep : List UInt8} : ∀ {l : List (List UInt8)}, (∀ s ∈ l, s.length ≤ k) → (Lib.join l sep).length ≤ l.length * (k + sep.length)
 | [], _ => Nat.zero_le _
 | [x], h => by rw [Lib.join_one]; have := h x (.head _); simp; omega
 | x :: y :: r, h => by
   have ih := wL (sep := sep) (l := y :: r) (fun s hs => h s (.tail _ hs))
   have e : Lib.join (x :: y :: r) sep = x ++ sep ++ Lib.join (y :: r) sep := by
    unfold Lib.join
    simp [List.intercalate]
   have hx := h x (.head _);rw [e];simp only [List.length_append, List.length_cons] at ih ⊢;rw [Nat.add_mul (r.length + 1) 1, Nat.one_mul];omega
theorem jh {f : FmtT} {s : List UInt8} (hs : FmtSm f) (h : fmtP f = some s) : s.length ≤ 90000000000 := by
 unfold fmtP at h
 split at h
 ·rename_i h0
  obtain ⟨hn, h1, h2, h3, hb, hsn⟩ := h0;cases h;have g0 := yF hn
  have g1 : ∀ (w : List UInt8) (n : Int), w.length ≤ 10 → (ruleT w n).length ≤ 20 := fun w n hw => by
   have := ze n;unfold ruleT
   split <;> simp only [List.length_append, List.length_cons, List.length_nil] <;> omega
  have g2 : ∀ (w : List UInt8) (l : List (List UInt8)), w.length ≤ 10 → l.all nameP = true → l.length ≤ 1000000000 → (namesT w l).length ≤ 43000000000 := fun w l hw hb hn => by
   have h1 := wL (k := 40) (sep := [44, 32]) (l := l) (fun s hs => yF (List.all_eq_true.1 hb s hs));have h2 : l.length * (40 + [44, (32 : UInt8)].length) = l.length * 42 := rfl;unfold namesT
   split <;> simp only [List.length_append, List.length_cons, List.length_nil] <;> omega
  have e1 := g1 sLeast f.least (by decide);have e2 := g1 sMost f.most (by decide);have e3 := g1 sCopies f.copies (by decide);have e4 := g2 sBanned f.banned (by decide) hb hs.lb;have e5 := g2 sSingle f.single (by decide) hsn hs.ls;simp only [List.length_append, List.length_cons, List.length_nil];omega
 ·cases h
structure BkSm (b : BkT) : Prop where
 lc : b.cards.length ≤ 140737488355328
 lf : b.fmts.length ≤ 140737488355328
 c : ∀ x ∈ b.cards, CardSm x
 f : ∀ x ∈ b.fmts, FmtSm x
def textsL (b : BkT) : List (Option (List UInt8)) := b.cards.map cardP ++ b.fmts.map fmtP
theorem wz (b : BkT) : (textsL b).length = b.cards.length + b.fmts.length := by simp [textsL]
theorem qJ {b : BkT} {i : Nat} (h : i < b.cards.length) : (textsL b)[i]'(by rw [wz]; omega) = cardP b.cards[i] := by
 unfold textsL;rw [List.getElem_append_left (by simpa using h), List.getElem_map]
theorem qf {b : BkT} {i : Nat} (h : i < b.fmts.length) : (textsL b)[b.cards.length + i]'(by rw [wz]; omega) = fmtP b.fmts[i] := by
 unfold textsL;rw [List.getElem_append_right (by simp), List.getElem_map]
 simp
theorem xg {b : BkT} {i : Nat} {T : List UInt8} (hi : i < (textsL b).length) (h : catP ((textsL b).take i) = some T) : ((textsL b)[i] = none → catP (textsL b) = none) ∧ ∀ s, (textsL b)[i] = some s → catP ((textsL b).take (i + 1)) = some (T ++ s) := by
 have h1 := Xg hi;rw [h] at h1;refine ⟨fun hn => Xh (i := i + 1) (by rw [h1, hn]; rfl), fun s hs => by rw [h1, hs]; rfl⟩
theorem xa {f : FmtT} (h : ¬ (nameP f.name = true ∧ smallB f.least = true ∧ smallB f.most = true ∧ smallB f.copies = true ∧ f.banned.all nameP = true ∧ f.single.all nameP = true)) : fmtP f = none := by unfold fmtP; rw [if_neg h]
end Tp
section
open Wd Tp Kd
variable {m : Mp} {b d p : Nat}
def okT : Option (List UInt8) → Value
 | some s => .tuple [.string (bs s), .int .i64 0].toArray
 | none => .tuple [.string (bs []), .int .i64 2].toArray
theorem numbers42 {A : Option Addr} {c : Nat} {l : List Int} (hA : Rd m A (l.map fun n => .int .i64 n)) (hl : l.length ≤ 100) : OkC 42 [.slice A l.length c] m (∀ x ∈ l, smallB x = true) := by
 refine zg [] Tryz.func42 rfl rfl rfl ?_;refine tr 8 ?_;refine zu (α := Nat) (fun i => [(4, .slice A l.length c), (5, .int .i64 (l.length : Nat)), (6, .int .i64 (i : Nat))]) (fun _ => []) (fun i => i ≤ l.length ∧ ∀ x ∈ l.take i, smallB x = true) (fun i => l.length - i) 0 ⟨rfl, rfl, rfl, trivial⟩ (Pick.nil _) ⟨Nat.zero_le _, fun x hx => by simp at hx⟩ ?_;rintro i ⟨hi, hb⟩
 by_cases hlt : i < l.length
 ·have hA1 : A.isSome = true := hA.isSome (by rw [List.length_map]; omega);have hcx := hA.at_ (show (l.map fun n => Value.int .i64 n)[i]? = some (.int .i64 l[i]) by simp [hlt]);have hmem : l[i] ∈ l := List.getElem_mem hlt
  have hnx : smallB l[i] = true → ∀ x ∈ l.take (i + 1), smallB x = true := fun h x hx => by
   rw [List.take_add_one, List.getElem?_eq_getElem hlt] at hx;rcases List.mem_append.1 hx with hx | hx
   ·exact hb x hx
   ·simp at hx; rw [hx]; exact h
  generalize l[i] = n at hcx hmem hnx;by_cases h0 : 0 ≤ n
  ·by_cases h9 : n ≤ 999
   ·refine tr 2 ?_;refine cto 10 ?_;refine pe 0 (zH ez121 rfl rfl hA1 (by omega)) ?_;refine Lo 5 sg3 rfl hcx ?_;refine cta 2 ?_;refine cta 1 ?_;refine Mt 4 ?_;refine Pa 2 ?_;exact QR (i + 1) (Pick.nil _) ⟨hlt, hnx (decide_eq_true ⟨h0, h9⟩)⟩ (by omega)
   ·refine tr 2 ?_;refine cto 10 ?_;refine pe 0 (zH ez121 rfl rfl hA1 (by omega)) ?_;refine Lo 5 sg3 rfl hcx ?_;refine cta 2 ?_;refine cfa 1 ?_;refine Mf fun _ => ?_;refine zX ?_;refine zK ?_;exact pn ⟨fun h => h9 (of_decide_eq_true (h n hmem)).2, rfl⟩
  ·refine tr 2 ?_;refine cto 10 ?_;refine pe 0 (zH ez121 rfl rfl hA1 (by omega)) ?_;refine Lo 5 sg3 rfl hcx ?_;refine cfa 4 ?_;refine Mf fun _ => ?_;refine zX ?_;refine zK ?_;exact pn ⟨fun h => h0 (of_decide_eq_true (h n hmem)).1, rfl⟩
 ·have hi2 : i = l.length := by omega
  subst hi2;rw [List.take_length] at hb;refine tr 2 ?_;refine cfo 6 ?_;refine zE ?_;refine zD ?_;exact yS [] trivial [] (Pick.nil _) ⟨hb, rfl, rfl⟩
theorem Y0 {m : Mp} {L : List Ent} {b2 b3 : Nat} {x : Fx} {h : Heap} {d : Nat} (hs : HS m L h) :
  CallsD Tryz.prog 87 [ptr b2, ptr b3].toArray .returning (W x h d) fun e u2 w' => e = .returned (.tuple #[]) ∧ u2 = .returning ∧ ∃ h' d' L', w' = W x h' d' ∧ (L' = L) ∧ HS m L' h' := by
 refine Y2 (post := fun _ L' => L' = L) Tryz.func87 rfl rfl rfl rfl .ret ?_ hs;refine vr 5 ?_;refine pe 7 (Zg (by kernel_rfl) rfl) ?_;exact xD [] trivial L (Pick.refl _) rfl
theorem D87_pan {m : Mp} {b2 b3 : Nat} {v1 v2 v : Value} {x : Fx} {h : Heap} {d : Nat} (hv : v = wrongV) (hs : HS m [cel b3 [v2] 27, cel b2 [v1] 9] h) :
  CallsD Tryz.prog 87 [ptr b2, ptr b3].toArray (.panicking (pan v)) (W x h d) fun e' u2 w' => e' = .returned (.tuple #[]) ∧ u2 = .panicking [{ v := v, recovered := true }] ∧ ∃ h' d' L', w' = W x h' d' ∧ (L' = [cel b3 [.int .i64 2] 27, cel b2 [.string (bs [])] 9]) ∧ HS m L' h' := by
 subst hv;refine Y2 (post := fun _ L' => L' = [cel b3 [.int .i64 2] 27, cel b2 [.string (bs [])] 9]) Tryz.func87 rfl rfl rfl rfl (.pan _ _) ?_ hs;unfold wrongV;refine vr 5 ?_;refine pe 5 (Yy (by kernel_rfl) rfl) ?_;refine pe 7 (qV ni120 us120 rfl) ?_;refine Al 0 zl120 fun b1 => ?_;refine Sg 3 ag120 .here ?_;refine Sr 0 co9 .h2 .here ?_;refine Sr 2 co27 .h1 .here ?_
 exact xD [] trivial _ (.cons .h1 .p1) rfl
end
end Go.Proofs.YtpgiokjfkcddeaaGreatDoor
