/- Parts of the proof: contracts of functions of the program, and plain lemmas. No condition. -/
import Derived.Test.YtijakengkacnlaaGreatDoorGaX
import Derived.Test.YtijakengkacnlaaGreatDoorEng2
import Derived.Test.YtijakengkacnlaaGreatDoorFacts
set_option linter.all false
set_option maxHeartbeats 64000000
set_option maxRecDepth 100000
namespace Go.Proofs.YtijakengkacnlaaGreatDoor
open Go.Eng
section
open Wd Kd
variable {cs : Lv} {m : Mp} {x : yv}
theorem TU (hx : uO m cs x) : ∃ l, QB (jf x) l := by
 obtain ⟨A, la, ca, B, lb, cb, D, ld, cd, -, -, ⟨-, -, vp, -, -, hP⟩, ⟨-, -, vd, -, -, hD⟩, ⟨-, -, vw, -, -, hW⟩, -⟩ := hx
 have key : ∀ p ∈ jf x, ∃ l, uH p l := by
  intro p hp;unfold jf at hp;rcases List.mem_append.1 hp with hp | hp
  ·rcases List.mem_append.1 hp with hp | hp
   ·obtain ⟨y, hy, rfl⟩ := List.mem_map.1 hp;obtain ⟨j, hj, rfl⟩ := List.getElem_of_mem hy;exact uH.eff (hP j hj)
   ·obtain ⟨y, hy, rfl⟩ := List.mem_map.1 hp;obtain ⟨j, hj, rfl⟩ := List.getElem_of_mem hy;exact uH.eff (hD j hj)
  ·obtain ⟨y, hy, rfl⟩ := List.mem_map.1 hp;obtain ⟨j, hj, rfl⟩ := List.getElem_of_mem hy;exact uH.eff (hW j hj)
 obtain ⟨ls, e, h⟩ := bU fun i hi => key _ (List.getElem_mem hi);exact ⟨_, ls, e, h, rfl⟩
theorem Oh (hx : uO m cs x) (hw : un x <= 3999) : CS Tryz.prog 167 [.agg cs.toArray] m [] (uM (.int .i64 (un x : Nat))) := by
 obtain ⟨l, hF⟩ := TU hx;have h := ZV hF;have h2 := HL hx hF ze;rw [h] at h2;exact h2
def j8 (x : yv) : List Int := [x.cost, x.power, x.health, x.shield, x.apow, x.aheal]
def Jp (u : Us) (x : yv) : Prop :=
 (∀ (i : Nat) (h : i < (j8 x).length), 0 <= (j8 x)[i] /\ (j8 x)[i] <= 999) /\ XF x.name = true /\ un x <= 200 /\ ¬ (x.unit = true /\ x.health < 1) /\
  ¬ (x.unit = false /\ (x.power + x.health + x.shield + x.apow + x.aheal > 0 \/ x.dead.length + x.dawn.length > 0)) /\ u3 u true 1 x.played /\ u3 u false 1 x.dead /\ u3 u false 1 x.dawn
theorem N0 (x : yv) {i : Nat} (h : i < 6) : qZ [.int .i64 x.cost, .int .i64 x.power, .int .i64 x.health, .int .i64 x.shield, .int .i64 x.apow, .int .i64 x.aheal] (((i : Nat) : Int).toNat * 1) = some (.int .i64 ((j8 x)[i]'h)) := by
 match i, h with
 | 0, _ => rfl
 | 1, _ => rfl
 | 2, _ => rfl
 | 3, _ => rfl
 | 4, _ => rfl
 | 5, _ => rfl
theorem may9 {a : Addr} {bm : Nat} {ul : List (Bt × Bool)} (hT : fR m) (hx : uO m cs x) (hat : At m a cs) (hmap : eo m bm (Nv ul)) (hnl : x.name.length <= 140737488355328) (hw : un x <= 3999) :
  CS Tryz.prog 95 [.pointer (some a), .map (some bm)] m [] (fun v L' => L' = [] /\ ∃ r, v = .bool r /\ (r = true ↔ Jp (jV ul) x)) := by
 have hx0 := hx;obtain ⟨A, la, ca, B, lb, cb, D, ld, cd, rfl, -, hP, hD, hW, w1, w2, w3, w4, w5, w6, w7⟩ := hx;have e1 := hP.1;have e2 := hD.1;have e3 := hW.1;subst e1 e2 e3;have hml2 := hD.2.1;have hml3 := hW.2.1;unfold maxLen at hml2 hml3
 have hlens : x.dead.length + x.dawn.length <= 3999 := by
  obtain ⟨l, hF⟩ := TU hx0;have h := ZV hF;obtain ⟨ls, e, hk, rfl⟩ := hF;have := (bg e hk).1;rw [j6] at this;omega
 refine zM [.tmp 4] Tryz.func95 rfl rfl rfl ?_;refine tr 7 ?_;refine yf (sT [0, 1, 2, 4, 5, 6, 8, 9, 10, 12, 13, 14, 16, 17, 18, 20, 21, 22, 25, 103, 107, 111, 115, 119, 123, 24] .done) mixed zn (fun _ _ _ _ hq => hq) ?_;refine vt 19 ?_
 iterate 6 (refine Vu 0 rfl (zw yH rfl (hat.at_ rfl)) ?_)
 refine Vt 0 rfl (xa GG Ca rfl rfl) ?_;refine Vm 2 ?_
 refine zN (α := Nat) (fun i => [(0, .pointer (some a)), (1, .map (some bm)), (32, .agg [.int .i64 x.cost, .int .i64 x.power, .int .i64 x.health, .int .i64 x.shield, .int .i64 x.apow, .int .i64 x.aheal].toArray), (33, .int .i64 (i : Nat))]) (fun _ => []) (fun i => i <= 6 /\ ∀ (j : Nat) (h : j < (j8 x).length), j < i -> 0 <= (j8 x)[j] /\ (j8 x)[j] <= 999) (fun i => 6 - i) 0 eV zu ⟨Nat.zero_le _, fun _ _ h => by cases h⟩ ?_
 rintro i ⟨hi, hdone⟩
 try dsimp only at hi hdone
 try dsimp only
 by_cases hlt : i < 6
 ·have hq := N0 x hlt;generalize hqi : (j8 x)[i]'hlt = q at hq;have hno : ¬ (0 <= q /\ q <= 999) -> ¬ Jp (jV ul) x := fun h1 h2 => h1 (by rw [<- hqi]; exact h2.1 i hlt);by_cases hq0 : q < 0
  ·refine tr 2 ?_;refine xI 10 ?_;refine pe 6 ((yF GG J3 rfl rfl ze ze hq)) ?_;refine yy 15 ?_;refine zC ?_;refine zz ?_;refine zU ?_;exact xi zX ⟨rfl, false, rfl, fun h => (by cases h), fun h => absurd h (hno ze)⟩
  by_cases hq9 : q > 999
  ·refine tr 2 ?_;refine xI 10 ?_;refine pe 6 ((yF GG J3 rfl rfl ze ze hq)) ?_;refine zA 2 ?_;refine yy 12 ?_;refine zC ?_;refine zz ?_;refine zU ?_;exact xi zX ⟨rfl, false, rfl, fun h => (by cases h), fun h => absurd h (hno ze)⟩
  refine tr 2 ?_;refine xI 10 ?_;refine pe 6 ((yF GG J3 rfl rfl ze ze hq)) ?_;refine zA 2 ?_;refine zA 8 ?_;refine Pa 2 ?_
  exact QR (i + 1) zu ⟨hlt, fun j h h2 => by
   by_cases hji : j < i
   ·exact hdone j h hji
   ·obtain rfl : j = i := by omega
    have e : (j8 x)[j] = q := hqi
    omega⟩ ze
 have hall : ∀ (j : Nat) (h : j < (j8 x).length), 0 <= (j8 x)[j] /\ (j8 x)[j] <= 999 := fun j h => hdone j h (by have : (j8 x).length = 6 := rfl; omega);clear hdone;have q1 : 0 <= x.power /\ x.power <= 999 := hall 1 (by show _ < 6; omega);have q2 : 0 <= x.health /\ x.health <= 999 := hall 2 (by show _ < 6; omega);have q3 : 0 <= x.shield /\ x.shield <= 999 := hall 3 (by show _ < 6; omega)
 have q4 : 0 <= x.apow /\ x.apow <= 999 := hall 4 (by show _ < 6; omega);have q5 : 0 <= x.aheal /\ x.aheal <= 999 := hall 5 (by show _ < 6; omega);refine tr 2 ?_;refine ym 6 ?_;refine zh ?_;refine zf ?_;refine qt 9 ?_;refine Lo 0 ey rfl (hat.at_ rfl) ?_;refine Cr BP rfl (fun m' hm he => (GP (hT.mono hm) ze)) ?_;rintro _ rfl;cases hnm : XF x.name with
 | false =>
   refine vr 16 ?_;exact xi zX ⟨rfl, false, rfl, fun h => (by cases h), fun h => by rw [h.2.1] at hnm; cases hnm⟩
 | true =>
 refine vr 9 ?_;refine La 0 eO hat ?_;refine Cr AG rfl (fun m' hm he => (Oh (hx0.mono hm) hw)) ?_;rintro _ rfl;by_cases hw2 : un x <= 200
 rotate_left
 ·refine xI 15 ?_;exact xi zX ⟨rfl, false, rfl, fun h => (by cases h), fun h => absurd h.2.2.1 hw2⟩
 have hfin : (¬ (x.unit = true /\ x.health < 1) /\ ¬ (x.unit = false /\ (x.power + x.health + x.shield + x.apow + x.aheal > 0 \/ x.dead.length + x.dawn.length > 0)) /\ u3 (jV ul) true 1 x.played /\ u3 (jV ul) false 1 x.dead /\ u3 (jV ul) false 1 x.dawn) ↔ Jp (jV ul) x :=
  ⟨fun h => ⟨hall, hnm, hw2, h⟩, fun h => h.2.2.2⟩
 rw [<- hfin];refine ym 8 ?_;refine Lo 0 O9 rfl (hat.at_ rfl) ?_;cases hun : x.unit with
 | true =>
   rw [hun] at hat;by_cases hh : x.health < 1
   ·refine vr 4 ?_;refine Lo 0 yH rfl (hat.at_ rfl) ?_;refine yy 13 ?_;exact xi zX ⟨rfl, false, rfl, fun h => (by cases h), fun h => absurd ⟨rfl, hh⟩ h.1⟩
   have HA : ¬ (true = true /\ x.health < 1) := fun h => hh h.2;have HB : ¬ (true = false /\ (x.power + x.health + x.shield + x.apow + x.aheal > 0 \/ x.dead.length + x.dawn.length > 0)) := fun h => by cases h.1
   refine vr 4 ?_;refine Lo 0 yH rfl (hat.at_ rfl) ?_;refine zA 6 ?_;refine yf (sT [0, 1, 2, 103, 4, 5, 6, 7, 8, 10, 11, 12, 15, 16, 17, 20, 21, 22, 25, 26, 27, 109, 113, 14, 118, 19, 123, 24, 128, 29, 30, 31, 32, 33, 34, 37, 38, 39, 135, 36, 140, 41, 42, 43, 44, 45, 46] .done) mixed zn (fun _ _ _ _ hq => hq) ?_;refine vt 3 ?_;refine Vu 43 rfl (zw O9 rfl (hat.at_ rfl)) ?_
   refine Vm 8 ?_;refine pe 0 (zW Te TC rfl rfl) ?_;refine Bx 10 rfl fun b1 => ?_;refine Lo 0 uQ rfl (hat.at_ rfl) ?_;refine zg ((zr bT rfl (fun m1 hm1 he => gM _ m1 A ca b1 1 ul true (hP.mono hm1) ⟨bm, zy (GS he) rfl, zy (GS he) rfl, hmap.mono hm1⟩ ze) rfl ?_)) rfl;rintro _ _ ⟨rfl, r, rfl, hr⟩;cases r with
   | false =>
     refine vr 11 ?_;exact xi zX ⟨rfl, false, rfl, fun h => (by cases h), fun h => absurd (hr.2 h.2.2.1) zK⟩
   | true =>
   have hr1 := hr.1 rfl;clear hr;refine vr 11 ?_;refine Sr 8 co4 .here .h1 ?_;refine Lo 0 uQ rfl (hat.at_ rfl) ?_;refine zg ((zr bT rfl (fun m1 hm1 he => gM _ m1 B cb b1 1 ul false (hD.mono hm1) ⟨bm, zy (GS he) rfl, zy (GS he) rfl, hmap.mono hm1⟩ ze) rfl ?_)) rfl;rintro _ _ ⟨rfl, r, rfl, hr⟩;cases r with
   | false =>
     refine vr 12 ?_;exact xi zX ⟨rfl, false, rfl, fun h => (by cases h), fun h => absurd (hr.2 h.2.2.2.1) zK⟩
   | true =>
   have hr2 := hr.1 rfl;clear hr;refine vr 5 ?_;refine Lo 0 uQ rfl (hat.at_ rfl) ?_;refine zg ((zr bT rfl (fun m1 hm1 he => gM _ m1 D cd b1 1 ul false (hW.mono hm1) ⟨bm, zy (GS he) rfl, zy (GS he) rfl, hmap.mono hm1⟩ ze) rfl ?_)) rfl;rintro _ _ ⟨rfl, r, rfl, hr⟩;refine vr 5 ?_
   exact xi zX ⟨rfl, r, rfl, fun h => ⟨HA, HB, hr1, hr2, hr.1 h⟩, fun h => hr.2 h.2.2.2.2⟩
 | false =>
   rw [hun] at hat;by_cases hs : x.power + x.health + x.shield + x.apow + x.aheal > 0
   ·refine vr 12 ?_;refine yf (sT [0, 1, 2, 103, 4, 5, 6, 7, 8, 10, 11, 12, 15, 16, 17, 20, 21, 22, 25, 26, 27, 109, 113, 14, 118, 19, 123, 24, 128, 29, 30, 31, 32, 33, 34, 37, 38, 39, 135, 36, 140, 41, 42, 43, 44, 45, 46] .done) mixed zn (fun _ _ _ _ hq => hq) ?_;refine vt 3 ?_;refine Vu 17 rfl (zw O9 rfl (hat.at_ rfl)) ?_;refine Vu 0 rfl (zw yH rfl (hat.at_ rfl)) ?_
    refine Vu 0 rfl (zw yH rfl (hat.at_ rfl)) ?_;refine Vt 0 rfl ((yp rfl rfl (qx ze ze))) ?_;refine Vu 0 rfl (zw yH rfl (hat.at_ rfl)) ?_;refine Vt 0 rfl ((yp rfl rfl (qx ze ze))) ?_;refine Vu 0 rfl (zw yH rfl (hat.at_ rfl)) ?_;refine Vt 0 rfl ((yp rfl rfl (qx ze ze))) ?_;refine Vu 0 rfl (zw yH rfl (hat.at_ rfl)) ?_
    refine Vt 0 rfl ((yp rfl rfl (qx ze ze))) ?_;refine Vt 16 rfl (dt (av rfl rfl) wo) ?_;refine Vm 10 ?_;exact xi zX ⟨rfl, false, rfl, fun h => (by cases h), fun h => absurd ⟨rfl, .inl hs⟩ h.2.1⟩
   by_cases hs2 : x.dead.length + x.dawn.length > 0
   ·refine vr 12 ?_;refine yf (sT [0, 1, 2, 103, 4, 5, 6, 7, 8, 10, 11, 12, 15, 16, 17, 20, 21, 22, 25, 26, 27, 109, 113, 14, 118, 19, 123, 24, 128, 29, 30, 31, 32, 33, 34, 37, 38, 39, 135, 36, 140, 41, 42, 43, 44, 45, 46] .done) mixed zn (fun _ _ _ _ hq => hq) ?_;refine vt 3 ?_;refine Vu 17 rfl (zw O9 rfl (hat.at_ rfl)) ?_;refine Vu 0 rfl (zw yH rfl (hat.at_ rfl)) ?_
    refine Vu 0 rfl (zw yH rfl (hat.at_ rfl)) ?_;refine Vt 0 rfl ((yp rfl rfl (qx ze ze))) ?_;refine Vu 0 rfl (zw yH rfl (hat.at_ rfl)) ?_;refine Vt 0 rfl ((yp rfl rfl (qx ze ze))) ?_;refine Vu 0 rfl (zw yH rfl (hat.at_ rfl)) ?_;refine Vt 0 rfl ((yp rfl rfl (qx ze ze))) ?_;refine Vu 0 rfl (zw yH rfl (hat.at_ rfl)) ?_
    refine Vt 0 rfl ((yp rfl rfl (qx ze ze))) ?_;refine Vt 7 rfl (df (av rfl rfl) wo) ?_;refine Vu 1 rfl (zw uQ rfl (hat.at_ rfl)) ?_;refine Vu 1 rfl (zw uQ rfl (hat.at_ rfl)) ?_;refine Vt 0 rfl (Ki rfl rfl ze) ?_;refine Vt 3 rfl (dt (av rfl rfl) ze) ?_;refine Vm 10 ?_
    exact xi zX ⟨rfl, false, rfl, fun h => (by cases h), fun h => absurd ⟨rfl, .inr hs2⟩ h.2.1⟩
   have HA : ¬ (false = true /\ x.health < 1) := fun h => by cases h.1
   have HB : ¬ (false = false /\ (x.power + x.health + x.shield + x.apow + x.aheal > 0 \/ x.dead.length + x.dawn.length > 0)) := fun h => h.2.elim hs hs2;refine vr 12 ?_
   refine yf (sT [0, 1, 2, 103, 4, 5, 6, 7, 8, 10, 11, 12, 15, 16, 17, 20, 21, 22, 25, 26, 27, 109, 113, 14, 118, 19, 123, 24, 128, 29, 30, 31, 32, 33, 34, 37, 38, 39, 135, 36, 140, 41, 42, 43, 44, 45, 46] .done) mixed zn (fun _ _ _ _ hq => hq) ?_;refine vt 3 ?_;refine Vu 17 rfl (zw O9 rfl (hat.at_ rfl)) ?_;refine Vu 0 rfl (zw yH rfl (hat.at_ rfl)) ?_
   refine Vu 0 rfl (zw yH rfl (hat.at_ rfl)) ?_;refine Vt 0 rfl ((yp rfl rfl (qx ze ze))) ?_;refine Vu 0 rfl (zw yH rfl (hat.at_ rfl)) ?_;refine Vt 0 rfl ((yp rfl rfl (qx ze ze))) ?_;refine Vu 0 rfl (zw yH rfl (hat.at_ rfl)) ?_;refine Vt 0 rfl ((yp rfl rfl (qx ze ze))) ?_;refine Vu 0 rfl (zw yH rfl (hat.at_ rfl)) ?_
   refine Vt 0 rfl ((yp rfl rfl (qx ze ze))) ?_;refine Vt 7 rfl (df (av rfl rfl) wo) ?_;refine Vu 1 rfl (zw uQ rfl (hat.at_ rfl)) ?_;refine Vu 1 rfl (zw uQ rfl (hat.at_ rfl)) ?_;refine Vt 0 rfl (Ki rfl rfl ze) ?_;refine Vt 3 rfl (df (av rfl rfl) ze) ?_;refine Vm 8 ?_;refine pe 0 (zW Te TC rfl rfl) ?_
   refine Bx 10 rfl fun b1 => ?_;refine Lo 0 uQ rfl (hat.at_ rfl) ?_;refine zg ((zr bT rfl (fun m1 hm1 he => gM _ m1 A ca b1 1 ul true (hP.mono hm1) ⟨bm, zy (GS he) rfl, zy (GS he) rfl, hmap.mono hm1⟩ ze) rfl ?_)) rfl;rintro _ _ ⟨rfl, r, rfl, hr⟩;cases r with
   | false =>
     refine vr 11 ?_;exact xi zX ⟨rfl, false, rfl, fun h => (by cases h), fun h => absurd (hr.2 h.2.2.1) zK⟩
   | true =>
   have hr1 := hr.1 rfl;clear hr;refine vr 11 ?_;refine Sr 8 co4 .here .h1 ?_;refine Lo 0 uQ rfl (hat.at_ rfl) ?_;refine zg ((zr bT rfl (fun m1 hm1 he => gM _ m1 B cb b1 1 ul false (hD.mono hm1) ⟨bm, zy (GS he) rfl, zy (GS he) rfl, hmap.mono hm1⟩ ze) rfl ?_)) rfl;rintro _ _ ⟨rfl, r, rfl, hr⟩;cases r with
   | false =>
     refine vr 12 ?_;exact xi zX ⟨rfl, false, rfl, fun h => (by cases h), fun h => absurd (hr.2 h.2.2.2.1) zK⟩
   | true =>
   have hr2 := hr.1 rfl;clear hr;refine vr 5 ?_;refine Lo 0 uQ rfl (hat.at_ rfl) ?_;refine zg ((zr bT rfl (fun m1 hm1 he => gM _ m1 D cd b1 1 ul false (hW.mono hm1) ⟨bm, zy (GS he) rfl, zy (GS he) rfl, hmap.mono hm1⟩ ze) rfl ?_)) rfl;rintro _ _ ⟨rfl, r, rfl, hr⟩;refine vr 5 ?_
   exact xi zX ⟨rfl, r, rfl, fun h => ⟨HA, HB, hr1, hr2, hr.1 h⟩, fun h => hr.2 h.2.2.2.2⟩
end
section
open Go Go.Eng Kd Wd
def Qm (acc : List (Bt × Bool)) (c : yv) : List (Bt × Bool) := if (jV acc c.name).isSome then acc else acc ++ [(c.name, c.unit)]
def ux (l : List yv) : List (Bt × Bool) := l.foldl Qm []
theorem Wa (l : List yv) (c : yv) : ux (l ++ [c]) = Qm (ux l) c := by simp [ux]
variable {i : Nat} {l : List yv}
theorem X9 (h : i < l.length) : ux (l.take (i + 1)) = Qm (ux (l.take i)) l[i] := by
 rw [List.take_add_one, List.getElem?_eq_getElem h];exact Wa _ _
def uC (l : List yv) : Us := fun s => (l.find? fun c => decide (s = c.name)).map (·.unit)
theorem Ls (acc : List (Bt × Bool)) (c : yv) (s : Bt) : jV (Qm acc c) s = match jV acc s with | some v => some v | none => if s = c.name then some c.unit else none := by
 unfold Qm
 split
 ·rename_i h
  cases hs : jV acc s with
  | some v => rfl
  | none =>
    by_cases he : s = c.name
    ·subst he; rw [hs] at h; cases h
    ·simp [he]
 ·exact Lr
theorem YF : ∀ (l : List yv) (acc : List (Bt × Bool)) (s : Bt), jV (l.foldl Qm acc) s = match jV acc s with | some v => some v | none => uC l s
 | [], acc, s => by cases h : jV acc s <;> simp [uC, h]
 | c :: r, acc, s => by
   rw [List.foldl_cons, YF r, Ls];cases h : jV acc s with
   | some v => rfl
   | none =>
     unfold uC;by_cases he : s = c.name
     ·simp [he]
     ·simp [he]
theorem GZ (l : List yv) : jV (ux l) = uC l := by
 funext s
 rw [ux, YF]
 rfl
def wR (l : List yv) : List Bt := l.map (·.name)
theorem Ut (h : i < l.length) : wR (l.take (i + 1)) = wR (l.take i) ++ [l[i].name] := by
 unfold wR;rw [List.take_add_one, List.getElem?_eq_getElem h, List.map_append]
 rfl
def Wr (l : List yv) (i : Nat) (h : i < l.length) : Prop := l[i].name ∉ wR (l.take i) /\ Jp (uC l) l[i]
def u4 (l : List yv) (e a : Int) : Prop :=
 (240 < l.length /\ e = 3 /\ a = 0) \/ (l.length <= 240 /\ ((e = 0 /\ a = 0 /\ ∀ (i : Nat) (h : i < l.length), Wr l i h) \/
  ∃ (i : Nat) (h : i < l.length), (∀ (j : Nat) (hj : j < i), Wr l j ze) /\ a = l[i].at_ /\ ((e = 101 /\ l[i].name ∈ wR (l.take i)) \/ (e = 130 /\ l[i].name ∉ wR (l.take i) /\ ¬ Jp (uC l) l[i]))))
theorem u4.ok {a : Int} (h : u4 l 0 a) : l.length <= 240 /\ ∀ (i : Nat) (h : i < l.length), Wr l i h := by
 rcases h with ⟨_, e, _⟩ | ⟨h1, ⟨_, _, h2⟩ | ⟨i, h, _, _, ⟨e, _⟩ | ⟨e, _⟩⟩⟩
 ·cases e
 ·exact ⟨h1, h2⟩
 ·cases e
 ·cases e
end
section
open Wd Go.RowKit
def uB (e a : Int) : Value := .agg [.int .i64 e, .int .i64 a].toArray
end
section
open Wd Kd
theorem ZA (l : List Bt) (s : Bt) : (gk (jr l) s).getD (.bool false) = .bool (decide (s ∈ l)) := by
 unfold gk;by_cases h : s ∈ l
 ·obtain ⟨j, hj⟩ := kE l 0 h
  simp [hj, h]
 ·simp [jh l 0 h, h]
theorem Zb {l : List Bt} {s : Bt} (h : s ∉ l) : cu (jr l) s (.bool true) = jr (l ++ [s]) := by
 unfold cu;rw [jh l 0 h]
 simp [jr]
theorem DS {m : Mp} {A : Oa} {cap : Nat} {cards : List yv} (hT : fR m) (hc : ue m A cards.length cards) (hb : cards.length <= 240 -> ∀ (i : Nat) (h : i < cards.length), cards[i].name.length <= 140737488355328 /\ un cards[i] <= 3999) :
  CS Tryz.prog 44 [.slice A cards.length cap] m [] (fun v L' => L' = [] /\ ∃ e a, v = uB e a /\ u4 cards e a) := by
 obtain ⟨-, hml, vs, hrd, hvl, hel⟩ := hc;unfold maxLen at hml;refine zM [.cell 2 73] Tryz.func44 rfl rfl rfl ?_;by_cases h240 : cards.length <= 240
 rotate_left
 ·refine tr 2 ?_;refine Al 7 ql fun b1 => ?_;refine xI 5 ?_;refine pe 0 (zW ql Zd rfl rfl) ?_;refine Sg 4 uu .here ?_;exact zB [_] ⟨⟨b1, _, _, _, rfl, .here, .inr ⟨rfl, rfl⟩⟩, trivial⟩ [] fV ⟨rfl, 3, 0, rfl, .inl ⟨by omega, rfl, rfl⟩⟩
 have hb := hb h240;refine tr 2 ?_;refine Al 7 ql fun b1 => ?_;refine ym 7 ?_;refine zg (qV rfl (fun b2 => ?_)) rfl;refine vr 12 ?_
 refine zN (α := Nat) (fun i => [(0, .slice A cards.length cap), (2, .pointer (some ⟨b1, 0, none⟩)), (3, .map (some b2)), (16, .slice A cards.length cap), (17, .int .i64 (cards.length : Nat)), (18, .int .i64 (i : Nat))]) (fun i => [jZ b2 (Nv (ux (cards.take i))), cel b1 [.int .i64 0, .int .i64 0] 73]) (fun i => i <= cards.length) (fun i => cards.length - i) 0 VJ zu (Nat.zero_le _) ?_
 rintro i hi
 try dsimp only
 by_cases hlt : i < cards.length
 ·have hA : A.isSome = true := hrd.isSome ze;have hx := hel i hlt;have hat := hrd.elem (i * 12) 12;have hst := X9 hlt;generalize cards[i] = x at hx hst;generalize (vs.drop (i * 12)).take 12 = cs at hx hat;obtain ⟨PA, la, ca, PB, lb, cb, PD, ld, cd, rfl, -⟩ := hx;generalize hus' : ux (cards.take (i + 1)) = us' at hst;generalize ux (cards.take i) = us at hst
  have hgu := ZB (s := x.name) (l := us);cases hu : jV us x.name with
  | none =>
    rw [hu] at hgu;have e : us' = us ++ [(x.name, x.unit)] := by rw [hst, Qm, if_neg (by rw [hu]; simp)]
    have hput := Mq (s := x.name) (l := us) (b := x.unit) hu;rw [<- e] at hput;refine tr 2 ?_;refine xI 10 ?_;refine pe 0 (zx dd rfl rfl hA ze) ?_;refine La 0 eO hat ?_;refine Al 0 GW fun b3 => ?_;refine Sg 6 eO .here ?_;refine Lb 0 ey .here ?_;refine lr 0 (X0 uj rfl rfl .h1 gH) ?_;rw [hgu];refine vr 17 ?_;refine Lb 1 ey .here ?_
    refine Lb 0 O9 .here ?_;refine zg (wa uj rfl rfl rfl .h1 ?_) rfl;refine vr 4 ?_;refine Pa 2 ?_;rw [hput];exact QR (i + 1) (by rw [hus']; exact .cons .h1 .p1) hlt ze
  | some u =>
    rw [hu] at hgu;have e : us' = us := by rw [hst, Qm, if_pos (by rw [hu]; simp)]
    subst e;refine tr 2 ?_;refine xI 10 ?_;refine pe 0 (zx dd rfl rfl hA ze) ?_;refine La 0 eO hat ?_;refine Al 0 GW fun b3 => ?_;refine Sg 6 eO .here ?_;refine Lb 0 ey .here ?_;refine lr 0 (X0 uj rfl rfl .h1 gH) ?_;rw [hgu];refine vr 18 ?_;refine Pa 2 ?_;exact QR (i + 1) (by rw [hus']; exact .cons .h1 .p1) hlt ze
 have hi2 : i = cards.length := by omega
 subst hi2;rw [List.take_length];have hus := GZ cards;generalize ux cards = us at hus;refine tr 2 ?_;refine ym 6 ?_;refine zh ?_;refine zf ?_;refine qt 3 ?_;refine zg (qV rfl (fun b3 => ?_)) rfl;refine vr 12 ?_
 refine zN (α := Nat) (fun i => [(0, .slice A cards.length cap), (2, .pointer (some ⟨b1, 0, none⟩)), (3, .map (some b2)), (8, .map (some b3)), (39, .int .i64 (cards.length : Nat)), (40, .int .i64 (i : Nat))]) (fun i => [jZ b3 (jr (wR (cards.take i))), jZ b2 (Nv us), cel b1 [.int .i64 0, .int .i64 0] 73]) (fun i => i <= cards.length /\ ∀ (j : Nat) (h : j < cards.length), j < i -> Wr cards j h) (fun i => cards.length - i) 0 VJ zu ⟨Nat.zero_le _, fun _ _ h => by cases h⟩ ?_
 clear hi hlt;rintro i ⟨hi, hdone⟩
 try dsimp only at hi hdone
 try dsimp only
 by_cases hlt : i < cards.length
 rotate_left
 ·refine tr 2 ?_;refine ym 6 ?_;refine zh ?_;refine zf ?_;refine qt 3 ?_;refine pe 0 (zW ql Zd rfl rfl) ?_;refine Sg 3 uu .h2 ?_;exact zB [_] ⟨⟨b1, _, _, _, rfl, .h2, .inr ⟨rfl, rfl⟩⟩, trivial⟩ [] fV ⟨rfl, 0, 0, rfl, .inr ⟨h240, .inl ⟨rfl, rfl, fun j h => hdone j h ze⟩⟩⟩
 have hA : A.isSome = true := hrd.isSome ze;have hx := hel i hlt;have hat := hrd.elem (i * 12) 12;have hst := Ut hlt;have hbi := hb i hlt
 have hex : ∀ (e : Int), ((e = 101 /\ cards[i].name ∈ wR (cards.take i)) \/ (e = 130 /\ cards[i].name ∉ wR (cards.take i) /\ ¬ Jp (uC cards) cards[i])) -> u4 cards e cards[i].at_ := fun e h =>
  .inr ⟨h240, .inr ⟨i, hlt, fun j hj => hdone j ze hj, rfl, h⟩⟩
 have hnext : cards[i].name ∉ wR (cards.take i) -> Jp (uC cards) cards[i] -> ∀ (j : Nat) (h : j < cards.length), j < i + 1 -> Wr cards j h := fun h1 h2 j h hj => by
  by_cases hji : j < i
  ·exact hdone j h hji
  ·obtain rfl : j = i := by omega
   exact ⟨h1, h2⟩
 generalize cards[i] = x at hx hst hbi hex hnext;generalize (vs.drop (i * 12)).take 12 = cs at hx hat;have hx0 := hx;have hat0 := hat;obtain ⟨PA, la, ca, PB, lb, cb, PD, ld, cd, rfl, -⟩ := hx;generalize hns' : wR (cards.take (i + 1)) = ns' at hst;generalize wR (cards.take i) = ns at hst hex hnext ⊢;have hgu := ZA ns x.name;by_cases hin : x.name ∈ ns
 ·rw [decide_eq_true hin] at hgu;refine tr 2 ?_;refine xI 18 ?_;refine pe 11 (zx dd rfl rfl hA ze) ?_;refine Lo 0 ey rfl (hat0.at_ rfl) ?_;refine lr 0 (gX uj rfl rfl .here gH) ?_;rw [hgu];refine vr 9 ?_;refine Lo 0 yH rfl (hat0.at_ rfl) ?_;refine pe 0 (zW ql Zd rfl rfl) ?_;refine Sg 7 uu .h2 ?_;refine zC ?_;refine zz ?_
  refine zU ?_;exact zB [_] ⟨⟨b1, _, _, _, rfl, .h2, .inr ⟨rfl, rfl⟩⟩, trivial⟩ [] fV ⟨rfl, 101, x.at_, rfl, hex _ (.inl ⟨rfl, hin⟩)⟩
 rw [decide_eq_false hin] at hgu;have hput := Zb hin;rw [<- hst] at hput;refine tr 2 ?_;refine xI 18 ?_;refine pe 11 (zx dd rfl rfl hA ze) ?_;refine Lo 0 ey rfl (hat0.at_ rfl) ?_;refine lr 0 (gX uj rfl rfl .here gH) ?_;rw [hgu];refine vr 8 ?_
 refine zg ((zr cl95 rfl (fun m1 hm1 he => may9 (hT.mono hm1) (hx0.mono hm1) (hat0.mono hm1) (eo.of (he _ (.tail _ (.head _)))) hbi.1 hbi.2) rfl ?_)) rfl;rintro _ _ ⟨rfl, r, rfl, hr⟩;rw [hus] at hr;cases r with
 | false =>
   refine vr 10 ?_;refine Lo 0 yH rfl (hat0.at_ rfl) ?_;refine pe 0 (zW ql Zd rfl rfl) ?_;refine Sg 7 uu .h2 ?_;refine zC ?_;refine zz ?_;refine zU ?_;exact zB [_] ⟨⟨b1, _, _, _, rfl, .h2, .inr ⟨rfl, rfl⟩⟩, trivial⟩ [] fV ⟨rfl, 130, x.at_, rfl, hex _ (.inr ⟨rfl, hin, fun h => absurd (hr.2 h) zK⟩)⟩
 | true =>
   refine vr 13 ?_;refine Lo 0 ey rfl (hat0.at_ rfl) ?_;refine zg (wa uj rfl rfl rfl .here ?_) rfl;refine vr 4 ?_;refine Pa 2 ?_;rw [hput];exact QR (i + 1) (by rw [hns']; exact zJ.refl _) ⟨hlt, hnext hin (hr.1 rfl)⟩ ze
end
end Go.Proofs.YtijakengkacnlaaGreatDoor
namespace Tp
open  Go.Eng
open Go Go.Eng Wd
abbrev CI : Bt := [43]
abbrev FF : Bt := [45]
abbrev CH : Bt := [42]
abbrev CJ : Bt := [40]
abbrev FG : Bt := [41]
abbrev sLt : Bt := [60]
abbrev sLe : Bt := [60, 61]
abbrev sEq : Bt := [61, 61]
structure dn where
 name : Bt
 least : Int
 most : Int
 copies : Int
 banned : List Bt
 single : List Bt
 at_ : Int
structure H8 where
 cards : List yv
 fmts : List dn
inductive R (α : Type) where
 | ok (x : α) (ts : List Fk)
 | bad (e : Int) (a : Int)
 | out
def R.bind {α β : Type} : R α -> (α -> List Fk -> R β) -> R β
 | .ok x ts, f => f x ts
 | .bad e a, _ => .bad e a
 | .out, _ => .out
def hd (ts : List Fk) : Fk := ts.headD ⟨0, [], 0, 0⟩
def TD : Int -> List Fk -> Bool
 | _, [] => true
 | d, w :: r =>
   if w.kind ≠ 3 then TD d r
   else
    let d' : Int := if w.text = CJ then d + 1 else if w.text = FG then d - 1 else d
    if 0 < d' then TD d' r
    else if (hd r).kind ≠ 3 then true
    else !decide ((hd r).text ∈ [sLt, sLe, sEq, CI, FF, CH])
end Tp
namespace Go.Proofs.YtijakengkacnlaaGreatDoor
open  Go.Eng
section
open Wd Tp Kd
variable {m : Mp}
abbrev ptr (b : Nat) : Value := .pointer (some ⟨b, 0, none⟩)
def DH (m : Mp) (K : Oa) (kc : Nat) (l : List Bt) : Prop := Rd m K (l.map Yp) /\ l.length <= kc
variable {m' : Mp}
theorem DH.mono {K : Oa} {kc : Nat} {l : List Bt} (h : DH m K kc l) (hl : Le m m') : DH m' K kc l := ⟨h.1.mono hl, h.2⟩
structure ON where
 A : Oa
 ca : Nat
 B : Oa
 cb : Nat
 D : Oa
 cd : Nat
abbrev ON.v (q : ON) (x : yv) : Lv := [.string (bs x.name), .bool x.unit, .int .i64 x.cost, .int .i64 x.power, .int .i64 x.health, .int .i64 x.shield, .int .i64 x.apow, .int .i64 x.aheal, .slice q.A x.played.length q.ca, .slice q.B x.dead.length q.cb, .slice q.D x.dawn.length q.cd, .int .i64 x.at_]
structure DQ where
 A : Oa
 ca : Nat
 B : Oa
 cb : Nat
abbrev DQ.v (q : DQ) (x : dn) : Lv := [.string (bs x.name), .int .i64 x.least, .int .i64 x.most, .int .i64 x.copies, .slice q.A x.banned.length q.ca, .slice q.B x.single.length q.cb, .int .i64 x.at_]
def Yg (m : Mp) (vs : Lv) (c : yv) : Prop := ∃ q : ON, vs = q.v c /\ jq m q.A c.played.length c.played /\ jq m q.B c.dead.length c.dead /\ jq m q.D c.dawn.length c.dawn
def HZ (m : Mp) (vs : Lv) (f : dn) : Prop := ∃ q : DQ, vs = q.v f /\ DH m q.A q.ca f.banned /\ DH m q.B q.cb f.single
variable {vs : Lv}
theorem Yg.mono {c : yv} (h : Yg m vs c) (hl : Le m m') : Yg m' vs c := by
 obtain ⟨q, h1, h2, h3, h4⟩ := h;exact ⟨q, h1, h2.mono hl, h3.mono hl, h4.mono hl⟩
theorem HZ.mono {f : dn} (h : HZ m vs f) (hl : Le m m') : HZ m' vs f := by
 obtain ⟨q, h1, h2, h3⟩ := h;exact ⟨q, h1, h2.mono hl, h3.mono hl⟩
def jR (m : Mp) (A : Oa) (l : List yv) : Prop := ∃ vs, Rd m A vs /\ vs.length = l.length * 12 /\ ∀ (i : Nat) (hi : i < l.length), Yg m ((vs.drop (i * 12)).take 12) l[i]
def aw (m : Mp) (A : Oa) (l : List dn) : Prop := ∃ vs, Rd m A vs /\ vs.length = l.length * 7 /\ ∀ (i : Nat) (hi : i < l.length), HZ m ((vs.drop (i * 7)).take 7) l[i]
variable {A : Oa}
theorem jR.mono {l : List yv} (h : jR m A l) (hl : Le m m') : jR m' A l := by
 obtain ⟨vs, h1, h2, h3⟩ := h;exact ⟨vs, h1.mono hl, h2, fun i hi => (h3 i hi).mono hl⟩
theorem aw.mono {l : List dn} (h : aw m A l) (hl : Le m m') : aw m' A l := by
 obtain ⟨vs, h1, h2, h3⟩ := h;exact ⟨vs, h1.mono hl, h2, fun i hi => (h3 i hi).mono hl⟩
def FmL (b : H8) : Prop := b.cards.length <= 140737488355328 /\ b.fmts.length <= 140737488355328 /\ ∀ f ∈ b.fmts, f.banned.length <= 140737488355328 /\ f.single.length <= 140737488355328
abbrev H7 (K : Oa) (n kc : Nat) (F : Oa) (f fc : Nat) : Lv := [.slice K n kc, .slice F f fc]
theorem HW {α : Type} {Q : yd} {S : α -> Env} {LL : α -> List ya} {F : α -> Prop} {μ : α -> Nat} {k : Nat} {env : Env} {L : List ya} {m2 : Mp} (hl : Le m m2) (y : α) (hs : dF (S y) env) (hp : zJ L (LL y)) (hF : F y) (hk : μ y < k) : QS (vX m S LL F μ k Q) .normal env m2 L :=
 fun h hh => ⟨y, hs, ⟨hF, (hp m2 h hh).weaken hl⟩, hk⟩
end
section
abbrev n4 (op n who : Int) (K : Oa) (k kc : Nat) : Lv := [.int .i8 op, .int .i64 n, .int .i8 who, .slice K k kc]
abbrev c5 (op who : Int) (name : Bt) (A : Oa) (la ca : Nat) (B : Oa) (lb cb : Nat) : Lv := [.int .i8 op, .int .i8 who, .string (bs name), .slice A la ca, .slice B lb cb]
def zal (q : Prop) : Value -> List ya -> Prop := fun v L' => ((v = .bool true /\ q) \/ (v = .bool false /\ ¬ q)) /\ L' = []
end
section
open Wd Tp Kd
variable {m : Mp}
variable {b : Nat} {s : Bt}
theorem EO {cs : Lv} {x : yv} (hx : Yg m cs x) (hb : At m ⟨b, 0, none⟩ [.string (bs s)]) : CS Tryz.prog 178 [.agg cs.toArray, ptr b] m [] (zal (x.name = s)) := by
 have hb0 : mc m ⟨b, 0, none⟩ = some (.string (bs s)) := hb.at_ (o := 0) rfl;obtain ⟨q, rfl, -⟩ := hx;refine zM [.tmp 3] Tryz.func178 rfl rfl rfl ?_;by_cases g : x.name = s
 ·refine tr 2 ?_;refine Bx 6 rfl fun b1 => ?_;refine Lb 0 ey .here ?_;refine Lo 0 ey rfl hb0 ?_;refine yy 4 ?_;exact xi ⟨rfl, trivial⟩ ⟨.inl ⟨rfl, g⟩, rfl⟩
 ·refine tr 2 ?_;refine Bx 6 rfl fun b1 => ?_;refine Lb 0 ey .here ?_;refine Lo 0 ey rfl hb0 ?_;refine zA 4 ?_;exact xi ⟨rfl, trivial⟩ ⟨.inr ⟨rfl, g⟩, rfl⟩
abbrev Np (b : Nat) : Value := .func (.func 178) [].toArray [ptr b].toArray
def OJ (l : List yv) (s : Bt) : Value -> List ya -> Prop := fun v L' => ((v = .int .i64 (-1) /\ ∀ (j : Nat) (h : j < l.length), l[j].name ≠ s) \/ ∃ (i : Nat) (h : i < l.length), v = .int .i64 (i : Nat) /\ l[i].name = s) /\ L' = []
variable {A : Oa} {c : Nat} {l : List yv}
theorem RA (hC : jR m A l) (hl : l.length <= 140737488355328) (hb : At m ⟨b, 0, none⟩ [.string (bs s)]) : CS Tryz.prog 285 [.slice A l.length c, Np b] m [] (OJ l s) := by
 obtain ⟨vs, hrd, hvl, hel⟩ := hC;refine zM [.tmp 4] Tryz.func285 rfl rfl rfl ?_;refine tr 14 ?_
 refine zN (α := Nat) (fun i => [(0, .slice A l.length c), (1, Np b), (6, .slice A l.length c), (7, .int .i64 (l.length : Nat)), (8, .int .i64 (i : Nat))]) (fun _ => []) (fun i => i <= l.length /\ ∀ (j : Nat) (h : j < l.length), j < i -> l[j].name ≠ s) (fun i => l.length - i) 0 ⟨rfl, rfl, rfl, rfl, rfl, trivial⟩ (zJ.nil _) ⟨Nat.zero_le _, fun _ _ h => by cases h⟩ ?_;rintro i ⟨hi, hall⟩
 by_cases hlt : i < l.length
 ·have hA : A.isSome = true := hrd.isSome (by omega);have hat := hrd.elem (i * 12) 12;have hx := hel i hlt;have hx0 := hx;obtain ⟨q, e, -⟩ := hx;rw [e] at hat hx0;have hal := hall;clear hall;refine tr 2 ?_;refine xI 19 ?_;refine pe 0 (zx dd rfl rfl hA (by omega)) ?_;refine La 0 eO hat ?_
  refine zg ((kR (p := []) (q := [ptr b]) AB rfl rfl (fun m' hm he => EO (hx0.mono hm) (hb.mono hm)) rfl ?_)) rfl;rintro _ _ ⟨⟨rfl, hq⟩ | ⟨rfl, hq⟩, rfl⟩
  ·refine vr 12 ?_;refine zC ?_;refine zz ?_;refine zU ?_;exact xi ⟨rfl, trivial⟩ ⟨.inr ⟨i, hlt, rfl, hq⟩, rfl⟩
  ·refine vr 7 ?_;refine Pa 2 ?_
   exact QR (i + 1) (zJ.nil _) ⟨hlt, fun j h hj => by
    by_cases hji : j < i
    ·exact hal j h hji
    ·obtain rfl : j = i := by omega
     exact hq⟩ (by omega)
 ·refine tr 2 ?_;refine ym 6 ?_;refine zh ?_;refine zf ?_;refine qt 7 ?_;exact xi ⟨rfl, trivial⟩ ⟨.inl ⟨rfl, fun j h => hall j h (by omega)⟩, rfl⟩
def Kj (m : Mp) (l : List yv) (s : Bt) : Value -> List ya -> Prop := fun v L' => ((v = VG [.agg [.string ByteArray.empty, .bool false, .int .i64 0, .int .i64 0, .int .i64 0, .int .i64 0, .int .i64 0, .int .i64 0, .slice none 0 0, .slice none 0 0, .slice none 0 0, .int .i64 0].toArray, .int .i64 0, .bool false] /\ ∀ (j : Nat) (h : j < l.length), l[j].name ≠ s) \/ ∃ (i : Nat) (h : i < l.length) (cs : Lv), v = VG [.agg cs.toArray, .int .i64 (i : Nat), .bool true] /\ l[i].name = s /\ Yg m cs l[i]) /\ L' = []
theorem RN {m0 : Mp} (hm0 : Le m0 m) (hC : jR m0 A l) (hl : l.length <= 140737488355328) (hb : At m ⟨b, 0, none⟩ [.string (bs s)]) : CS Tryz.prog 177 [.slice A l.length c, Np b] m [] (Kj m0 l s) := by
 have hC0 := hC;have hC := hC.mono hm0;refine zM [.cell 4 92, .tmp 5, .tmp 6] Tryz.func177 rfl rfl rfl ?_;refine tr 2 ?_;refine Al 8 GW fun b1 => ?_;refine zg ((zr Ab rfl (fun m' hm he => RA (hC.mono hm) hl (hb.mono hm)) rfl ?_)) rfl;rintro _ _ ⟨⟨rfl, hq⟩ | ⟨i, hlt, rfl, hq⟩, rfl⟩
 ·refine vr 7 ?_;refine xI 5 ?_;refine Lc 0 eO .here ?_;refine Sg 6 eO .here ?_;exact zB [_, _, _] ⟨⟨b1, _, _, _, rfl, .here, .inr ⟨rfl, rfl⟩⟩, rfl, rfl, trivial⟩ [] (zJ.nil _) ⟨.inl ⟨rfl, hq⟩, rfl⟩
 ·obtain ⟨vs, hrd, hvl, hel⟩ := hC0;have hA : A.isSome = true := hrd.isSome (by omega);have hat := (hrd.elem (i * 12) 12).mono hm0;have hx := hel i hlt;have hx1 := hx;obtain ⟨q, e, -⟩ := hx;rw [e] at hat hx1;refine vr 7 ?_;refine ym 9 ?_;refine pe 0 (zx dd rfl rfl hA (by omega)) ?_;refine La 1 eO hat ?_;refine Sg 5 eO .here ?_
  exact zB [_, _, _] ⟨⟨b1, _, _, _, rfl, .here, .inr ⟨rfl, rfl⟩⟩, rfl, rfl, trivial⟩ [] (zJ.nil _) ⟨.inr ⟨i, hlt, _, rfl, hq, hx1⟩, rfl⟩
def zaq (l : List yv) (s : Bt) : Value -> List ya -> Prop := fun v L' => ((v = VG [.int .i64 0, .bool false] /\ ∀ (j : Nat) (h : j < l.length), l[j].name ≠ s) \/ ∃ (i : Nat) (h : i < l.length), v = VG [.int .i64 (i : Nat), .bool true] /\ l[i].name = s) /\ L' = []
theorem DR {K F : Oa} {kc fc : Nat} {b : H8} (hC : jR m K b.cards) (hl : b.cards.length <= 140737488355328) : CS Tryz.prog 98 [.agg (H7 K b.cards.length kc F b.fmts.length fc).toArray, .string (bs s)] m [] (zaq b.cards s) := by
 refine zM [.tmp 4, .tmp 5] Tryz.func98 rfl rfl rfl ?_;refine tr 2 ?_;refine Bx 0 rfl fun b1 => ?_;refine Bx 7 rfl fun b2 => ?_;refine Lb 1 QU .h1 ?_;refine zg ((zr AC rfl (fun m' hm he => RN hm hC hl (At.blk (he _ (.head _)))) rfl ?_)) rfl;rintro _ _ ⟨⟨rfl, hq⟩ | ⟨i, hlt, cs, rfl, hq, hx⟩, rfl⟩
 ·refine vr 4 ?_;refine Al 0 GW fun b3 => ?_;refine Sg 13 eO .here ?_;exact zB [_, _] ⟨rfl, rfl, trivial⟩ [] (zJ.nil _) ⟨.inl ⟨rfl, hq⟩, rfl⟩
 ·obtain ⟨q, rfl, -⟩ := hx;refine vr 4 ?_;refine Al 0 GW fun b3 => ?_;refine Sg 13 eO .here ?_;exact zB [_, _] ⟨rfl, rfl, trivial⟩ [] (zJ.nil _) ⟨.inr ⟨i, hlt, rfl, hq⟩, rfl⟩
end
section
open Wd Tp Kd
variable {m : Mp}
def J9 (acc : List Bt) (s : Bt) : List Bt := if s ∈ acc then acc else acc ++ [s]
def kx (l : List Bt) : List Bt := l.foldl J9 []
theorem Uo (l : List Bt) (s : Bt) : kx (l ++ [s]) = J9 (kx l) s := by simp [kx]
variable {s : Bt}
theorem MS {acc : List Bt} {t : Bt} : t ∈ J9 acc s ↔ t ∈ acc \/ t = s := by
 unfold J9
 split
 ·rename_i h
  exact ⟨.inl, fun h2 => h2.elim id fun e => e ▸ h⟩
 ·simp
theorem XH : ∀ (l acc : List Bt) (t : Bt), t ∈ l.foldl J9 acc ↔ t ∈ acc \/ t ∈ l
 | [], acc, t => by simp
 | s :: r, acc, t => by rw [List.foldl_cons, XH r, MS, List.mem_cons, or_assoc]
theorem Jn (l : List Bt) (t : Bt) : t ∈ kx l ↔ t ∈ l := by simp [kx, XH]
theorem Ml {es : List (Bt × Value)} {k : Bt} {v : Value} (h : gk es k = some v) : cu es k v = es := by
 unfold gk at h;unfold cu;cases hf : uA k 0 es with
 | none => rw [hf] at h; cases h
 | some p =>
   obtain ⟨j, w⟩ := p;rw [hf] at h;obtain rfl : w = v := by simpa using h
   have h2 := (ZC hf).2;rw [Nat.sub_zero] at h2;obtain ⟨hj, h3⟩ := List.getElem?_eq_some_iff.1 h2;dsimp only;rw [<- h3, List.set_getElem_self]
theorem Mn (acc : List Bt) (s : Bt) : cu (jr acc) s (.bool true) = jr (J9 acc s) := by
 unfold J9
 split
 ·rename_i h
  refine Ml ?_;obtain ⟨j, hj⟩ := kE acc 0 h
  simp [gk, hj]
 ·rename_i h
  exact Zb h
def wD (cs : List yv) (l : List Bt) : Prop := (∀ s ∈ l, s ∈ wR cs) /\ l.Nodup
def WI (i : Nat) (seen : List Bt) (f : dn) : Prop := i < 240 /\ XF f.name = true /\ f.name ∉ seen /\ 0 <= f.least /\ f.least <= f.most /\ f.most <= 60 /\ 0 <= f.copies /\ f.copies <= 999
def kZ (cs : List yv) (i : Nat) (seen : List Bt) (f : dn) : Prop := WI i seen f /\ wD cs f.banned /\ wD cs f.single
def qa (l : List dn) (i : Nat) : List Bt := (l.take i).map (·.name)
theorem QW {l : List dn} {i : Nat} (h : i < l.length) : qa l (i + 1) = qa l i ++ [l[i].name] := by
 unfold qa;rw [List.take_add_one, List.getElem?_eq_getElem h, List.map_append]
 rfl
def kh (b : H8) (e a : Int) : Prop := (e = 0 /\ a = 0 /\ ∀ (i : Nat) (h : i < b.fmts.length), kZ b.cards i (qa b.fmts i) b.fmts[i]) \/
 ∃ (i : Nat) (h : i < b.fmts.length), (∀ (j : Nat) (hj : j < i), kZ b.cards j (qa b.fmts j) b.fmts[j]) /\ ¬ kZ b.cards i (qa b.fmts i) b.fmts[i] /\ e = 151 /\ a = b.fmts[i].at_
theorem Zn {cs : List yv} : s ∈ wR cs ↔ ∃ (i : Nat) (h : i < cs.length), cs[i].name = s := by
 unfold wR;rw [List.mem_map]
 constructor
 ·rintro ⟨c, hc, rfl⟩;obtain ⟨i, hi, rfl⟩ := List.getElem_of_mem hc;exact ⟨i, hi, rfl⟩
 ·rintro ⟨i, hi, rfl⟩;exact ⟨_, List.getElem_mem hi, rfl⟩
theorem Jk {l : List Bt} : (l ++ [s]).Nodup ↔ l.Nodup /\ s ∉ l := by
 rw [List.nodup_append]
 simp
 intro _
 constructor
 ·intro h hs;exact h s hs rfl
 ·intro h a ha e;exact h (e ▸ ha)
theorem Hs {K F : Oa} {kc fc : Nat} {b : H8} (hT : fR m) (hC : jR m K b.cards) (hF : aw m F b.fmts) (hs : FmL b) (hn : ∀ f ∈ b.fmts, f.name.length <= 140737488355328) :
  CS Tryz.prog 48 [.agg (H7 K b.cards.length kc F b.fmts.length fc).toArray] m [] (fun v L' => L' = [] /\ ∃ e a, v = uB e a /\ kh b e a) := by
 obtain ⟨hlc, hlf, hfb⟩ := hs;refine zM [.cell 2 73] Tryz.func48 rfl rfl rfl ?_;refine tr 2 ?_;refine Bx 0 rfl fun b1 => ?_;refine Al 3 ql fun b2 => ?_;refine bu .h1 (fun ns hi _ hd1 => ?_);have hR : Rd (VF m ns) (some ⟨b1, 0, none⟩) (H7 K b.cards.length kc F b.fmts.length fc) := (Rd.blk hi).mono (Lp hd1);have hl2 : Le m (VF m ns) := Lq _ _;clear hi hd1
 generalize VF m ns = m9 at hR hl2;have hT := hT.mono hl2;have hC := hC.mono hl2;have hF := hF.mono hl2;have hb1 : mc m9 ⟨b1, 1, none⟩ = some (.slice F b.fmts.length fc) := hR.at_ (i := 1) rfl;have hbk : At m9 ⟨b1, 0, none⟩ (H7 K b.cards.length kc F b.fmts.length fc) := fun i u hi => hR.at_ hi;clear hR;obtain ⟨us, hrf, hul, hef⟩ := hF;refine tr 1 ?_
 refine zg (qV rfl (fun b3 => ?_)) rfl;refine vr 7 ?_;refine Lo 5 Pc rfl hb1 ?_
 refine zN (α := Nat) (fun i => [(1, ptr b1), (2, ptr b2), (3, .map (some b3)), (16, .slice F b.fmts.length fc), (17, .int .i64 (b.fmts.length : Nat)), (18, .int .i64 (i : Nat))]) (fun i => [jZ b3 (jr (qa b.fmts i)), cel b2 [.int .i64 0, .int .i64 0] 73]) (fun i => i <= b.fmts.length /\ ∀ (j : Nat) (h : j < b.fmts.length), j < i -> kZ b.cards j (qa b.fmts j) b.fmts[j]) (fun i => b.fmts.length - i) 0 ⟨rfl, rfl, rfl, rfl, rfl, rfl, trivial⟩ (zJ.refl _) ⟨Nat.zero_le _, fun _ _ h => by cases h⟩ ?_
 rintro i ⟨hi, hall⟩
 try dsimp only at hi hall
 try dsimp only
 by_cases hlt : i < b.fmts.length
 rotate_left
 ·refine tr 2 ?_;refine ym 6 ?_;refine zh ?_;refine zf ?_;refine qt 3 ?_;refine pe 0 (zW ql Zd rfl rfl) ?_;refine Sg 3 uu .h1 ?_;exact wJ hl2 [_] ⟨⟨b2, _, _, _, rfl, .h1, .inr ⟨rfl, rfl⟩⟩, trivial⟩ [] (zJ.nil _) ⟨rfl, 0, 0, rfl, .inl ⟨rfl, rfl, fun j h => hall j h (by omega)⟩⟩
 have hA : F.isSome = true := hrf.isSome (by omega);have hat := hrf.elem (i * 7) 7;obtain ⟨q, e, hB, hS⟩ := hef i hlt;rw [e] at hat;clear e;have hnl := hn _ (List.getElem_mem hlt);obtain ⟨hlb, hls⟩ := hfb _ (List.getElem_mem hlt);have hend : ¬ kZ b.cards i (qa b.fmts i) b.fmts[i] -> kh b 151 b.fmts[i].at_ := fun h => .inr ⟨i, hlt, fun j hj => hall j (by omega) hj, h, rfl, rfl⟩
 have hnext : kZ b.cards i (qa b.fmts i) b.fmts[i] -> ∀ (j : Nat) (h : j < b.fmts.length), j < i + 1 -> kZ b.cards j (qa b.fmts j) b.fmts[j] := fun h2 j h hj => by
  by_cases hji : j < i
  ·exact hall j h hji
  ·obtain rfl : j = i := by omega
   exact h2
 have hst := QW hlt;generalize b.fmts[i] = f at hat hB hS hnl hlb hls hend hnext hst;generalize hsn' : qa b.fmts (i + 1) = sn' at hst;generalize qa b.fmts i = sn at hst hend hnext ⊢;clear hall;refine tr 2 ?_;refine xI 11 ?_;refine pe 0 (zx EQ rfl rfl hA (by omega)) ?_;refine La 0 zac hat ?_;refine Al 1 zl48 fun b4 => ?_;refine Sg 3 zac .here ?_
 refine bu .here (fun ns hi _ hd1 => ?_);have hR : Rd (VF m9 ns) (some ⟨b4, 0, none⟩) (q.v f) := (Rd.blk hi).mono (Lp hd1);have hl3 : Le m9 (VF m9 ns) := Lq _ _;clear hi hd1;generalize VF m9 ns = m8 at hR hl3;have hT := hT.mono hl3;have hC := hC.mono hl3;have hB := hB.mono hl3;have hS := hS.mono hl3;have hbk := hbk.mono hl3
 have hq0 : mc m8 ⟨b4, 0, none⟩ = some (.string (bs f.name)) := hR.at_ (i := 0) rfl;have hq1 : mc m8 ⟨b4, 1, none⟩ = some (.int .i64 f.least) := hR.at_ (i := 1) rfl;have hq2 : mc m8 ⟨b4, 2, none⟩ = some (.int .i64 f.most) := hR.at_ (i := 2) rfl;have hq3 : mc m8 ⟨b4, 3, none⟩ = some (.int .i64 f.copies) := hR.at_ (i := 3) rfl
 have hq4 : mc m8 ⟨b4, 4, none⟩ = some (.slice q.A f.banned.length q.ca) := hR.at_ (i := 4) rfl;have hq5 : mc m8 ⟨b4, 5, none⟩ = some (.slice q.B f.single.length q.cb) := hR.at_ (i := 5) rfl;have hq6 : mc m8 ⟨b4, 6, none⟩ = some (.int .i64 f.at_) := hR.at_ (i := 6) rfl;clear hR
 refine bt (α := Bool) (fun p => [(1, ptr b1), (2, ptr b2), (3, .map (some b3)), (5, ptr b4), (6, .bool p), (16, .slice F b.fmts.length fc), (17, .int .i64 (b.fmts.length : Nat)), (18, .int .i64 (i : Nat))]) (fun _ => [jZ b3 (jr sn), cel b2 [.int .i64 0, .int .i64 0] 73]) (fun p => p = true ↔ WI i sn f) ?_ ?_
 ·by_cases g0 : i < 240
  rotate_left
  ·refine tr 2 ?_;refine ym 41 ?_;exact QR false (zJ.refl _) (iff_of_false Bool.false_ne_true fun h => g0 h.1) (by decide)
  refine tr 2 ?_;refine xI 2 ?_;refine Lo 0 ey rfl hq0 ?_;refine Cr BP rfl (fun m' hm he => (GP (hT.mono hm) hnl)) ?_;rintro _ rfl;cases g1 : XF f.name with
  | false =>
    refine vr 37 ?_;exact QR false (zJ.refl _) (iff_of_false Bool.false_ne_true fun h => by rw [h.2.1] at g1; cases g1) (by decide)
  | true =>
  have hgu := ZA sn f.name;refine vr 4 ?_;refine Lo 0 ey rfl hq0 ?_;refine lr 0 (gX uj rfl rfl .here gH) ?_;rw [hgu];by_cases g2 : f.name ∈ sn
  ·rw [decide_eq_true g2];refine vr 31 ?_;exact QR false (zJ.refl _) (iff_of_false Bool.false_ne_true fun h => h.2.2.1 g2) (by decide)
  rw [decide_eq_false g2];by_cases g3 : 0 <= f.least
  rotate_left
  ·refine vr 4 ?_;refine Lo 0 yH rfl hq1 ?_;refine zA 25 ?_;exact QR false (zJ.refl _) (iff_of_false Bool.false_ne_true fun h => g3 h.2.2.2.1) (by decide)
  by_cases g4 : f.least <= f.most
  rotate_left
  ·refine vr 4 ?_;refine Lo 0 yH rfl hq1 ?_;refine yy 3 ?_;refine Lo 1 yH rfl hq1 ?_;refine Lo 0 yH rfl hq2 ?_;refine zA 18 ?_;exact QR false (zJ.refl _) (iff_of_false Bool.false_ne_true fun h => g4 h.2.2.2.2.1) (by decide)
  by_cases g5 : f.most <= 60
  rotate_left
  ·refine vr 4 ?_;refine Lo 0 yH rfl hq1 ?_;refine yy 3 ?_;refine Lo 1 yH rfl hq1 ?_;refine Lo 0 yH rfl hq2 ?_;refine yy 3 ?_;refine Lo 0 yH rfl hq2 ?_;refine zA 13 ?_;exact QR false (zJ.refl _) (iff_of_false Bool.false_ne_true fun h => g5 h.2.2.2.2.2.1) (by decide)
  by_cases g6 : 0 <= f.copies
  rotate_left
  ·refine vr 4 ?_;refine Lo 0 yH rfl hq1 ?_;refine yy 3 ?_;refine Lo 1 yH rfl hq1 ?_;refine Lo 0 yH rfl hq2 ?_;refine yy 3 ?_;refine Lo 0 yH rfl hq2 ?_;refine yy 3 ?_;refine Lo 0 yH rfl hq3 ?_;refine zA 8 ?_;exact QR false (zJ.refl _) (iff_of_false Bool.false_ne_true fun h => g6 h.2.2.2.2.2.2.1) (by decide)
  by_cases g7 : f.copies <= 999
  rotate_left
  ·refine vr 4 ?_;refine Lo 0 yH rfl hq1 ?_;refine yy 3 ?_;refine Lo 1 yH rfl hq1 ?_;refine Lo 0 yH rfl hq2 ?_;refine yy 3 ?_;refine Lo 0 yH rfl hq2 ?_;refine yy 3 ?_;refine Lo 0 yH rfl hq3 ?_;refine yy 3 ?_;refine Lo 0 yH rfl hq3 ?_;refine zA 3 ?_;exact QR false (zJ.refl _) (iff_of_false Bool.false_ne_true fun h => g7 h.2.2.2.2.2.2.2) (by decide)
  refine vr 4 ?_;refine Lo 0 yH rfl hq1 ?_;refine yy 3 ?_;refine Lo 1 yH rfl hq1 ?_;refine Lo 0 yH rfl hq2 ?_;refine yy 3 ?_;refine Lo 0 yH rfl hq2 ?_;refine yy 3 ?_;refine Lo 0 yH rfl hq3 ?_;refine yy 3 ?_;refine Lo 0 yH rfl hq3 ?_;refine yy 3 ?_;exact QR true (zJ.refl _) (iff_of_true rfl ⟨g0, g1, g2, g3, g4, g5, g6, g7⟩) (by decide)
 intro p hp
 try dsimp only
 generalize hbase : WI i sn f = base at hp;refine tr 4 ?_;refine Lo 1 O8 rfl hq4 ?_;refine Lo 0 O8 rfl hq5 ?_;refine pe 4 (xa Fe Cg rfl rfl) ?_
 refine zN (α := Nat × Bool) (fun y => [(1, ptr b1), (2, ptr b2), (3, .map (some b3)), (5, ptr b4), (6, .bool y.2), (16, .slice F b.fmts.length fc), (17, .int .i64 (b.fmts.length : Nat)), (18, .int .i64 (i : Nat)), (68, .agg [.slice q.A f.banned.length q.ca, .slice q.B f.single.length q.cb].toArray), (69, .int .i64 (y.1 : Nat))]) (fun _ => [jZ b3 (jr sn), cel b2 [.int .i64 0, .int .i64 0] 73]) (fun y => y.1 <= 2 /\ (y.2 = true ↔ base /\ (0 < y.1 -> wD b.cards f.banned) /\ (1 < y.1 -> wD b.cards f.single))) (fun y => 2 - y.1) (0, p) ⟨rfl, rfl, rfl, rfl, rfl, rfl, rfl, rfl, rfl, rfl, trivial⟩ (zJ.refl _) ⟨Nat.zero_le _, hp.trans ⟨fun h => ⟨h, fun h => (by cases h), fun h => (by cases h)⟩, fun h => h.1⟩⟩ ?_
 clear hp p;rintro ⟨j, p⟩ ⟨hj, hp⟩;dsimp only at hj hp;dsimp only;by_cases hj2 : j < 2
 rotate_left
 ·obtain rfl : j = 2 := by omega
  have hp2 : p = true ↔ kZ b.cards i sn f := hp.trans ⟨fun h => ⟨by rw [hbase]; exact h.1, h.2.1 (by decide), h.2.2 (by decide)⟩, fun h => ⟨by rw [<- hbase]; exact h.1, fun _ => h.2.1, fun _ => h.2.2⟩⟩;cases p with
  | false =>
    have hend := hend fun h => absurd (hp2.2 h) (by decide);refine tr 2 ?_;refine ym 6 ?_;refine zh ?_;refine zf ?_;refine qt 12 ?_;refine Lo 0 yH rfl hq6 ?_;refine pe 0 (zW ql Zd rfl rfl) ?_;refine Sg 6 uu .h1 ?_;exact wJ (hl2.trans hl3) [_] ⟨⟨b2, _, _, _, rfl, .h1, .inr ⟨rfl, rfl⟩⟩, trivial⟩ [] (zJ.nil _) ⟨rfl, 151, f.at_, rfl, hend⟩
  | true =>
    have hok := hp2.1 rfl;have hput := Zb hok.1.2.2.1;rw [<- hst] at hput;refine tr 2 ?_;refine ym 6 ?_;refine zh ?_;refine zf ?_;refine qt 14 ?_;refine Lo 0 ey rfl hq0 ?_;refine zg (wa uj rfl rfl rfl .here ?_) rfl;refine vr 4 ?_;refine Pa 2 ?_;rw [hput]
    exact HW hl3 (i + 1) ⟨rfl, rfl, rfl, rfl, rfl, rfl, trivial⟩ (by rw [hsn']; exact zJ.refl _) ⟨hlt, hnext hok⟩ (by omega)
 obtain ⟨A, c, l, hvn, hrl, hll, hpn⟩ : ∃ (A : Oa) (c : Nat) (l : List Bt), qZ [.slice q.A f.banned.length q.ca, .slice q.B f.single.length q.cb] (((j : Nat) : Int).toNat * 1) = some (.slice A l.length c) /\ DH m8 A c l /\ l.length <= 140737488355328 /\ ((base /\ (0 < j -> wD b.cards f.banned) /\ (1 < j -> wD b.cards f.single)) /\ wD b.cards l ↔ base /\ (0 < j + 1 -> wD b.cards f.banned) /\ (1 < j + 1 -> wD b.cards f.single)) := by
  rcases Nat.lt_or_ge j 1 with h | h
  ·obtain rfl : j = 0 := by omega
   exact ⟨q.A, q.ca, f.banned, rfl, hB, hlb, fun h => ⟨h.1.1, fun _ => h.2, fun h => by omega⟩, fun h => ⟨⟨h.1, fun h => by omega, fun h => by omega⟩, h.2.1 (by decide)⟩⟩
  ·obtain rfl : j = 1 := by omega
   exact ⟨q.B, q.cb, f.single, rfl, hS, hls, fun h => ⟨h.1.1, fun _ => h.1.2.1 (by decide), fun _ => h.2⟩, fun h => ⟨⟨h.1, fun _ => h.2.1 (by decide), fun h => by omega⟩, h.2.2 (by decide)⟩⟩
 generalize hP : (base /\ (0 < j -> wD b.cards f.banned) /\ (1 < j -> wD b.cards f.single)) = P at hp hpn;have hrl := hrl.1;refine tr 2 ?_;refine xI 10 ?_;refine pe 5 ((yF Fe Ds rfl rfl (by omega) (by omega) hvn)) ?_;refine zg (qV rfl (fun b5 => ?_)) rfl;refine vr 11 ?_
 refine zN (α := Nat × Bool) (fun y => [(1, ptr b1), (2, ptr b2), (3, .map (some b3)), (5, ptr b4), (6, .bool y.2), (9, .map (some b5)), (16, .slice F b.fmts.length fc), (17, .int .i64 (b.fmts.length : Nat)), (18, .int .i64 (i : Nat)), (68, .agg [.slice q.A f.banned.length q.ca, .slice q.B f.single.length q.cb].toArray), (69, .int .i64 (j : Nat)), (73, .slice A l.length c), (74, .int .i64 (l.length : Nat)), (75, .int .i64 (y.1 : Nat))]) (fun y => [jZ b5 (jr (kx (l.take y.1))), jZ b3 (jr sn), cel b2 [.int .i64 0, .int .i64 0] 73]) (fun y => y.1 <= l.length /\ (y.2 = true ↔ P /\ wD b.cards (l.take y.1))) (fun y => l.length - y.1) (0, p) ⟨rfl, rfl, rfl, rfl, rfl, rfl, rfl, rfl, rfl, rfl, rfl, rfl, rfl, rfl, trivial⟩ (zJ.refl _) ⟨Nat.zero_le _, hp.trans ⟨fun h => ⟨h, by rw [List.take_zero]; exact ⟨fun _ h => (by cases h), List.nodup_nil⟩⟩, fun h => h.1⟩⟩ ?_
 clear hp p;rintro ⟨k, p⟩ ⟨hk, hp⟩;dsimp only at hk hp;dsimp only;by_cases hkl : k < l.length
 rotate_left
 ·obtain rfl : k = l.length := by omega
  rw [List.take_length] at hp;refine tr 2 ?_;refine ym 6 ?_;refine zh ?_;refine zf ?_;refine xr ?_;refine qt 2 ?_;refine Pa 2 ?_;exact QR (j + 1, p) (.cons .h1 .p1) ⟨by omega, hp.trans hpn⟩ (by dsimp only; omega)
 have hX : A.isSome = true := hrl.isSome (by rw [List.length_map]; omega);have hcx := hrl.at_ (show (l.map Yp)[k]? = some (.string (bs l[k])) by simp [hkl, Yp]);have htk : l.take (k + 1) = l.take k ++ [l[k]] := List.take_succ_eq_append_getElem hkl;have hon := Uo (l.take k) l[k];rw [<- htk] at hon
 have hstep : (P /\ wD b.cards (l.take k)) /\ l[k] ∈ wR b.cards /\ l[k] ∉ l.take k ↔ P /\ wD b.cards (l.take (k + 1)) := by
  rw [htk];unfold wD;rw [Jk]
  constructor
  ·rintro ⟨⟨h1, h2, h3⟩, h4, h5⟩;refine ⟨h1, fun s hs => ?_, h3, h5⟩;rcases List.mem_append.1 hs with hs | hs
   ·exact h2 s hs
   ·rw [List.mem_singleton.1 hs]; exact h4
  ·rintro ⟨h1, h2, h3, h5⟩;exact ⟨⟨h1, fun s hs => h2 s (List.mem_append_left _ hs), h3⟩, h2 _ (List.mem_append_right _ (List.mem_singleton.2 rfl)), h5⟩
 have hmo := Jn (l.take k) l[k];generalize l[k] = s at hcx hon hstep hmo;have hgu := ZA (kx (l.take k)) s;have hput := Mn (kx (l.take k)) s;rw [<- hon] at hput;generalize kx (l.take k) = on at hgu hput hmo ⊢;refine tr 2 ?_;refine xI 10 ?_;refine pe 0 (yE BE rfl rfl hX (by omega)) ?_;refine Lo 5 ey rfl hcx ?_;refine La 1 gt hbk ?_
 refine zg ((zr cl98 rfl (fun m' hm he => DR (s := s) (hC.mono hm) hlc) rfl ?_)) rfl;rintro _ _ ⟨⟨rfl, hno⟩ | ⟨ix, hix, rfl, hyes⟩, rfl⟩
 ·have hun : s ∉ wR b.cards := fun h => by
   obtain ⟨i2, h2, h3⟩ := Zn.1 h;exact hno i2 h2 h3
  cases p with
  | false =>
    refine vr 25 ?_;refine zg (wa uj rfl rfl rfl .here ?_) rfl;refine vr 4 ?_;refine Pa 2 ?_;rw [hput];exact QR (k + 1, false) (zJ.refl _) ⟨hkl, iff_of_false Bool.false_ne_true fun h => hun (hstep.2 h).2.1⟩ (by dsimp only; omega)
  | true =>
    refine vr 25 ?_;refine zg (wa uj rfl rfl rfl .here ?_) rfl;refine vr 4 ?_;refine Pa 2 ?_;rw [hput];exact QR (k + 1, false) (zJ.refl _) ⟨hkl, iff_of_false Bool.false_ne_true fun h => hun (hstep.2 h).2.1⟩ (by dsimp only; omega)
 ·have hkn : s ∈ wR b.cards := Zn.2 ⟨ix, hix, hyes⟩;cases p with
  | false =>
    refine vr 25 ?_;refine zg (wa uj rfl rfl rfl .here ?_) rfl;refine vr 4 ?_;refine Pa 2 ?_;rw [hput];exact QR (k + 1, false) (zJ.refl _) ⟨hkl, iff_of_false Bool.false_ne_true fun h => absurd (hp.2 (hstep.2 h).1) (by decide)⟩ (by dsimp only; omega)
  | true =>
    refine vr 16 ?_;refine lr 0 (gX uj rfl rfl .here gH) ?_;rw [hgu];by_cases hin : s ∈ on
    ·rw [decide_eq_true hin];refine vr 8 ?_;refine zg (wa uj rfl rfl rfl .here ?_) rfl;refine vr 4 ?_;refine Pa 2 ?_;rw [hput];exact QR (k + 1, false) (zJ.refl _) ⟨hkl, iff_of_false Bool.false_ne_true fun h => (hstep.2 h).2.2 (hmo.1 hin)⟩ (by dsimp only; omega)
    ·rw [decide_eq_false hin];refine vr 8 ?_;refine zg (wa uj rfl rfl rfl .here ?_) rfl;refine vr 4 ?_;refine Pa 2 ?_;rw [hput];exact QR (k + 1, true) (zJ.refl _) ⟨hkl, iff_of_true rfl (hstep.1 ⟨hp.1 rfl, hkn, fun h => hin (hmo.2 h)⟩)⟩ (by dsimp only; omega)
end
namespace La
def wY (a : Int) : Int := if a < 0 ∨ 3 < a then 3 else a
def Bw (a b : Int) : Int := if a = b ∨ b = 0 then a else if a = 0 then b else 3
def uK (a b : Int) : Int := Bw (wY a) (wY b)
theorem kz (a : Int) : 0 ≤ wY a ∧ wY a ≤ 3 := by unfold wY; split <;> omega
theorem cQ (a : Int) : wY a = 0 ∨ wY a = 1 ∨ wY a = 2 ∨ wY a = 3 := by have := kz a; omega
def JL (a b : Int) : Bool := decide (uK a b = wY b)
end La
section
open La
def gO (a : Int) : Value := .int .i8 a
theorem fK (h : zZ) (a : Int) : C Tryz.prog 278 [gO a].toArray h fun v h' => v = gO (wY a) /\ h' = h := by
 refine bw [2] Tryz.func278 rfl rfl rfl ?_;unfold gO;by_cases h0 : a < 0
 ·refine zm ?_;refine zd ?_;refine zc (zi rfl) rfl rfl rfl ?_;refine zo ?_;refine za ?_;refine zm ?_;refine zm ?_;refine zd ?_;refine zc (zF rfl) rfl rfl rfl ?_;refine zc (dt (vc rfl rfl) xP) rfl rfl rfl ?_;refine zc (zF rfl) rfl rfl rfl ?_;refine kO rfl rfl rfl ?_
  refine kO rfl rfl rfl ?_;refine zc (yT rfl rfl) rfl rfl rfl ?_;refine zo ?_;refine za ?_;refine y9 rfl ?_;refine zm ?_;refine zd ?_;refine zc (zi rfl) rfl rfl rfl ?_;refine zo ?_;refine za ?_;refine yS ?_;refine yN ?_;refine z6 rfl ?_;exact ⟨by rw [wY, if_pos (.inl h0)], rfl⟩
 ·by_cases h3 : 3 < a
  ·refine zm ?_;refine zd ?_;refine zc (zi rfl) rfl rfl rfl ?_;refine zo ?_;refine za ?_;refine zm ?_;refine zm ?_;refine zd ?_;refine zc (zF rfl) rfl rfl rfl ?_;refine zc (df (vc rfl rfl) jv) rfl rfl rfl ?_;refine zc (zF rfl) rfl rfl rfl ?_
   refine zc (zF rfl) rfl rfl rfl ?_;refine zc (dt (av rfl rfl) xP) rfl rfl rfl ?_;refine zc (vx rfl rfl) rfl rfl rfl ?_;refine zo ?_;refine za ?_;refine y9 rfl ?_;refine zm ?_;refine zd ?_;refine zc (zi rfl) rfl rfl rfl ?_;refine zo ?_;refine za ?_;refine yS ?_
   refine yN ?_;refine z6 rfl ?_;exact ⟨by rw [wY, if_pos (.inr h3)], rfl⟩
  ·refine zm ?_;refine zd ?_;refine zc (zi rfl) rfl rfl rfl ?_;refine zo ?_;refine za ?_;refine zm ?_;refine zm ?_;refine zd ?_;refine zc (zF rfl) rfl rfl rfl ?_;refine zc (df (vc rfl rfl) jv) rfl rfl rfl ?_;refine zc (zF rfl) rfl rfl rfl ?_
   refine zc (zF rfl) rfl rfl rfl ?_;refine zc (df (av rfl rfl) jv) rfl rfl rfl ?_;refine zc (vx rfl rfl) rfl rfl rfl ?_;refine zo ?_;refine za ?_;refine xw rfl ?_;refine ud ?_;refine za ?_;refine zm ?_;refine zd ?_;refine zc (zF rfl) rfl rfl rfl ?_
   refine zc (zi rfl) rfl rfl rfl ?_;refine zo ?_;refine za ?_;refine yS ?_;refine z6 rfl ?_;exact ⟨by rw [wY, if_neg ze], rfl⟩
def Nf : Lv := [gO 0, gO 1, gO 2, gO 3, gO 1, gO 1, gO 3, gO 3, gO 2, gO 3, gO 2, gO 3, gO 3, gO 3, gO 3, gO 3]
theorem Nc (h : zZ) : C Tryz.prog 350 [].toArray h fun v h' => v = .agg Nf.toArray /\ Le (mp h) (mp h') := by
 refine OO [.cell 0 549] Tryz.func350 rfl rfl rfl ?_;refine zm ?_;refine zd ?_;refine zH (vV Ta rfl (fun b1 h1 hn1 hb1 hl1 => ?_)) rfl;refine zo ?_;refine za ?_;refine zm ?_;refine zd ?_
 iterate 4 (refine zc (xa Fb D6 rfl rfl) rfl rfl rfl ?_)
 refine zc (xa Fa Ta rfl rfl) rfl rfl rfl ?_;refine zH (yK Fg rfl rfl rfl hb1 rfl rfl (fun h2 hb2 hl2 hn2 => ?_)) rfl;refine zo ?_;refine za ?_;refine yS ?_;refine gB rfl hb2 Fg ?_;refine ⟨rfl, fun k o hk => ?_⟩;rw [hl2 k (MJ hk hn1)];exact hl1 k o hk
theorem Nd (a b : Int) : qZ ((Nf.drop ((wY a).toNat * 4)).take 4) ((wY b).toNat * 1) = some (gO (uK a b)) := by
 unfold uK;rcases cQ a with ha | ha | ha | ha <;> rcases cQ b with hb | hb | hb | hb <;> rw [ha, hb] <;> rfl
theorem uG (h : zZ) (a b : Int) : C Tryz.prog 276 [gO a, gO b].toArray h fun v h' => v = gO (uK a b) /\ Le (mp h) (mp h') := by
 refine bw [4] Tryz.func276 rfl rfl rfl ?_;have ha := kz a;have hb := kz b;have hj := Nd a b;refine zm ?_;refine zd ?_;refine zc (zi rfl) rfl rfl rfl ?_;refine zo ?_;refine za ?_;refine zm ?_
 refine Kb [(1, .pure), (4, .pure), (0, .kept), (2, .kept), (3, .pure), (5, .kept), (6, .pure), (7, .pure)] mixed zn (fun _ _ _ _ hq => hq) ?_;refine vU rfl (zF rfl) rfl rfl rfl ?_;refine vU rfl (zF rfl) rfl rfl rfl ?_;refine jF rfl (yG B5 rfl ((Nc h)) rfl ?_) rfl;rintro _ h1 ⟨rfl, hl⟩;refine ⟨hl, ?_⟩
 refine jF rfl (yG Gt rfl ((fK h1 a)) rfl ?_) rfl;rintro _ h1 ⟨rfl, rfl⟩;refine ⟨Le.refl _, ?_⟩;refine vU rfl (Qz Fa Du rfl rfl ze ze) rfl rfl rfl ?_;refine jF rfl (yG Gt rfl ((fK h1 b)) rfl ?_) rfl;rintro _ h1 ⟨rfl, rfl⟩;refine ⟨Le.refl _, ?_⟩
 refine vU rfl ((yF Fb Dq rfl rfl hb.1 ze hj)) rfl rfl rfl ?_;refine vU rfl (zi rfl) rfl rfl rfl ?_;refine Ka ?_;refine za ?_;refine yS ?_;refine z6 rfl ?_;exact ⟨rfl, hl⟩
theorem OK (h : zZ) (a b : Int) : C Tryz.prog 279 [gO a, gO b].toArray h fun v h' => v = .bool (JL a b) /\ Le (mp h) (mp h') := by
 refine bw [4] Tryz.func279 rfl rfl rfl ?_;refine zm ?_;refine zd ?_;refine zc (zi rfl) rfl rfl rfl ?_;refine zo ?_;refine za ?_;refine zm ?_;refine zd ?_;refine zc (zF rfl) rfl rfl rfl ?_;refine zc (zF rfl) rfl rfl rfl ?_;refine zH (yG af rfl ((uG h a b)) rfl ?_) rfl;rintro _ h1 ⟨rfl, hl⟩
 refine zc (zF rfl) rfl rfl rfl ?_;refine zH (yG Gt rfl ((fK h1 b)) rfl ?_) rfl;rintro _ h1 ⟨rfl, rfl⟩;refine zc ((yY rfl rfl)) rfl rfl rfl ?_;refine zc (zi rfl) rfl rfl rfl ?_;refine zo ?_;refine za ?_;refine yS ?_;refine z6 rfl ?_;exact ⟨rfl, hl⟩
end
namespace La
mutual
def db : vC -> Int
 | .mk op _ _ kids => if op = 6 then 3 else if 8 <= op /\ op <= 12 then qc 0 kids else 0
def qc : Int -> List vC -> Int
 | l, [] => l
 | l, k :: r => qc (uK l (db k)) r
end
mutual
def jE : xO -> Int
 | .mk op who _ nums kids => if op = 6 then (if who = 0 then 1 else if who = 1 then 2 else 3) else uU (qc 0 nums) kids
def uU : Int -> List xO -> Int
 | l, [] => l
 | l, k :: r => uU (uK l (jE k)) r
end
mutual
def vY : Int -> xU -> Bool
 | u, .mk op _ n _ cond thn els =>
   if op = 5 then JL (uK u (db n)) 1
   else if op = 8 then y8 (uK u (jE cond)) thn && y8 (uK u (jE cond)) els
   else if 0 <= op /\ op <= 3 then decide (uK u (db n) = 0)
   else decide (wY u = 0)
def y8 : Int -> List xU -> Bool
 | _, [] => true
 | u, x :: r => vY u x && y8 u r
end
theorem Wt (l : Int) (a b : List vC) : qc l (a ++ b) = qc (qc l a) b := by
 induction a generalizing l with
 | nil => simp [qc]
 | cons x r ih => simp [qc, ih]
theorem Yv (l : Int) (a b : List xO) : uU l (a ++ b) = uU (uU l a) b := by
 induction a generalizing l with
 | nil => simp [uU]
 | cons x r ih => simp [uU, ih]
theorem fW (u : Int) (a b : List xU) : y8 u (a ++ b) = (y8 u a && y8 u b) := by
 induction a with
 | nil => simp [y8]
 | cons x r ih => simp [y8, ih, Bool.and_assoc]
variable {i : Nat} {l : Int}
theorem Zi {k : List vC} (h : i < k.length) : qc l (k.take (i + 1)) = uK (qc l (k.take i)) (db k[i]) := by
 rw [List.take_succ_eq_append_getElem h, Wt]; simp [qc]
theorem U9 {k : List xO} (h : i < k.length) : uU l (k.take (i + 1)) = uK (uU l (k.take i)) (jE k[i]) := by
 rw [List.take_succ_eq_append_getElem h, Yv]; simp [uU]
theorem VW {u : Int} {k : List xU} (h : i < k.length) : y8 u (k.take (i + 1)) = (y8 u (k.take i) && vY u k[i]) := by
 rw [List.take_succ_eq_append_getElem h, fW]; simp [y8]
end La
namespace La
theorem four {a : Int} (h : 0 <= a /\ a <= 3) : a = 0 \/ a = 1 \/ a = 2 \/ a = 3 := by omega
end La
section
open La
variable {cs : Lv} {m : Mp}
theorem Vk {x : vC} (hx : js m cs x) : ∀ h : zZ, Le m (mp h) -> C Tryz.prog 277 [.agg cs.toArray].toArray h fun v h' => v = gO (db x) /\ Le (mp h) (mp h') := by
 induction hx with
 | @mk op n who kids A len c vs ho hl hm hr hv hk ih =>
   intro h hle;subst hl;simp only [maxLen] at hm;have kle := vD.mk hle;refine bw [2] Tryz.func277 rfl rfl rfl ?_;by_cases h6 : op = 6
   ·refine zm ?_;refine zd ?_;refine zH (wx rfl rfl (fun b1 h1 hn1 hb1 hl1 => ?_)) rfl
    replace hle := Le.trans hle hl1
    refine zc (zi rfl) rfl rfl rfl ?_;refine zo ?_;refine za ?_;refine zm ?_;refine zd ?_;refine zc (zi rfl) rfl rfl rfl ?_;refine zo ?_;refine za ?_;refine zm ?_;refine wG ?_;refine zm ?_;refine zd ?_;refine zc (zj kD rfl) rfl rfl rfl ?_;refine zq (zL zD rfl (zy hb1 rfl)) rfl rfl rfl ?_
    refine zc (dt (yY rfl rfl) xP) rfl rfl rfl ?_;refine zc (zi rfl) rfl rfl rfl ?_;refine zo ?_;refine za ?_;refine y9 rfl ?_;refine zm ?_;refine zd ?_;refine zc (zi rfl) rfl rfl rfl ?_;refine zo ?_;refine za ?_;refine yS ?_;refine xp ?_;refine yN ?_
    refine z6 rfl ?_;exact ⟨by rw [db, if_pos h6]; rfl, hl1⟩
   ·by_cases h8 : 8 <= op /\ op <= 12
    ·obtain ⟨h8a, h8b⟩ := h8;refine zm ?_;refine zd ?_;refine zH (wx rfl rfl (fun b1 h1 hn1 hb1 hl1 => ?_)) rfl
     replace hle := Le.trans hle hl1
     refine zc (zi rfl) rfl rfl rfl ?_;refine zo ?_;refine za ?_;refine zm ?_;refine zd ?_;refine zc (zi rfl) rfl rfl rfl ?_;refine zo ?_;refine za ?_;refine zm ?_;refine wG ?_;refine zm ?_;refine zd ?_;refine zc (zj kD rfl) rfl rfl rfl ?_;refine zq (zL zD rfl (zy hb1 rfl)) rfl rfl rfl ?_
     refine zc (df (yY rfl rfl) jv) rfl rfl rfl ?_;refine zc (zi rfl) rfl rfl rfl ?_;refine zo ?_;refine za ?_;refine xw rfl ?_;refine zm ?_;refine zd ?_;refine zc (zj kD rfl) rfl rfl rfl ?_;refine zq (zL zD rfl (zy hb1 rfl)) rfl rfl rfl ?_
     refine zc (dt (uq rfl rfl) xP) rfl rfl rfl ?_;refine zc (zF rfl) rfl rfl rfl ?_;refine zc (zj kD rfl) rfl rfl rfl ?_;refine zq (zL zD rfl (zy hb1 rfl)) rfl rfl rfl ?_;refine zc (dt (qC rfl rfl) xP) rfl rfl rfl ?_
     refine zc (yT rfl rfl) rfl rfl rfl ?_;refine zc (zi rfl) rfl rfl rfl ?_;refine zo ?_;refine za ?_;refine y9 rfl ?_;refine zm ?_;refine zd ?_;refine zc (zj RK rfl) rfl rfl rfl ?_;refine zq (zL wK rfl (zy hb1 rfl)) rfl rfl rfl ?_;refine zc (X2 TN rfl) rfl rfl rfl ?_;refine zc (zF rfl) rfl rfl rfl ?_
     refine zo ?_;refine za ?_;refine wG ?_;have hlab : db (.mk op n who kids) = qc 0 kids := by rw [db, if_neg h6, if_pos ⟨h8a, h8b⟩]
     rw [hlab];refine bq (fun i : Nat => [(3, gO (qc 0 (kids.take i))), (20, .slice A kids.length c), (21, .int .i64 kids.length), (22, .int .i64 i)]) (fun i h' => i <= kids.length /\ Le (mp h) (mp h')) (fun i => kids.length - i) 0 eV ⟨Nat.zero_le _, hl1⟩ ?_;clear hb1 hl1 hn1;rintro i h2 ⟨hi, hle2⟩;by_cases hlt : i < kids.length
     ·obtain ⟨a1, a2, a3, a4, a5, a6, hc⟩ := (hk i hlt).form;have hA : A.isSome = true := hr.isSome ze;have hat := (hr.elem (i * 4) 4).mono (kle.out.trans hle2);have ih1 := ih i hlt;rw [hc] at hat ih1;have hs := Zi (l := 0) hlt;have kle2 := vD.mk hle2;refine zm ?_;refine zd ?_;refine zc (dt (vc rfl rfl) xP) rfl rfl rfl ?_
      refine zo ?_;refine za ?_;refine zm ?_;refine y9 rfl ?_;refine ud ?_;refine za ?_;refine zm ?_;refine wG ?_;refine zm ?_;refine zd ?_;refine zc (we bR rfl rfl hA ze ze) rfl rfl rfl ?_;refine zq (zI gV rfl rfl hat) rfl rfl rfl ?_;refine zH (vV Tf rfl (fun b2 h3 hn1 hb1 hl1 => ?_)) rfl
      replace hle2 := Le.trans hle2 hl1
      replace hat := hat.mono hl1
      refine zH (yK gV rfl rfl rfl hb1 rfl rfl (fun h4 hb2 hl2 hn2 => ?_)) rfl;refine zo ?_;refine za ?_;refine zd ?_;refine zc (zF rfl) rfl rfl rfl ?_;refine zq (zI gV rfl rfl (At.blk hb2)) rfl rfl rfl ?_;have hl24 := kle2.out.trans (hl1.stored hn1 hl2);refine zH (yG Gu rfl ((ih1 _ (kle.out.trans hl24))) rfl ?_) rfl
      rintro _ h5 ⟨rfl, hl5⟩;refine zH (yG af rfl ((uG h5 _ _)) rfl ?_) rfl;rintro _ h6 ⟨rfl, hl6⟩;refine zc (zi rfl) rfl rfl rfl ?_;refine zo ?_;refine yP ?_;refine za ?_;refine zd ?_;refine zc (yp rfl rfl (qx ze ze)) rfl rfl rfl ?_;refine zc (zF rfl) rfl rfl rfl ?_;refine zo ?_
      exact ⟨i + 1, ⟨by rw [hs]; rfl, rfl, rfl, rfl, trivial⟩, ⟨by omega, hl24.trans (hl5.trans hl6)⟩, by show kids.length - (i + 1) < kids.length - i; omega⟩
     ·refine zm ?_;refine zd ?_;refine zc (df (vc rfl rfl) jv) rfl rfl rfl ?_;refine zo ?_;refine za ?_;refine zm ?_;refine xw rfl ?_;refine br ?_;refine uP ?_;refine ui ?_;refine uo ?_;refine yP ?_;refine za ?_;refine zm ?_
      refine zd ?_;refine zc (zF rfl) rfl rfl rfl ?_;refine zc (zi rfl) rfl rfl rfl ?_;refine zo ?_;refine za ?_;refine yS ?_;refine z6 rfl ?_;refine ⟨?_, hle2⟩;rw [List.take_of_length_le ze]
    ·refine zm ?_;refine zd ?_;refine zH (wx rfl rfl (fun b1 h1 hn1 hb1 hl1 => ?_)) rfl
     replace hle := Le.trans hle hl1
     refine zc (zi rfl) rfl rfl rfl ?_;refine zo ?_;refine za ?_;refine zm ?_;refine zd ?_;refine zc (zi rfl) rfl rfl rfl ?_;refine zo ?_;refine za ?_;refine zm ?_;refine wG ?_;refine zm ?_;refine zd ?_;refine zc (zj kD rfl) rfl rfl rfl ?_;refine zq (zL zD rfl (zy hb1 rfl)) rfl rfl rfl ?_
     refine zc (df (yY rfl rfl) jv) rfl rfl rfl ?_;refine zc (zi rfl) rfl rfl rfl ?_;refine zo ?_;refine za ?_;refine xw rfl ?_;refine zm ?_;refine zd ?_;refine zc (zj kD rfl) rfl rfl rfl ?_;refine zq (zL zD rfl (zy hb1 rfl)) rfl rfl rfl ?_
     refine SF (uq rfl rfl) rfl rfl rfl (fun hc1 => ?_) (fun hc1 => ?_);refine zc (zF rfl) rfl rfl rfl ?_;refine zc (zj kD rfl) rfl rfl rfl ?_;refine zq (zL zD rfl (zy hb1 rfl)) rfl rfl rfl ?_;refine zc (df (qC rfl rfl) jv) rfl rfl rfl ?_
     refine zc (yT rfl rfl) rfl rfl rfl ?_;refine zc (zi rfl) rfl rfl rfl ?_;refine zo ?_;refine za ?_;refine xw rfl ?_;refine ud ?_;refine yP ?_;refine za ?_;refine zm ?_;refine zd ?_;refine zc (zF rfl) rfl rfl rfl ?_;refine zc (zi rfl) rfl rfl rfl ?_;refine zo ?_;refine za ?_;refine yS ?_
     refine z6 rfl ?_;exact ⟨by rw [db, if_neg h6, if_neg h8]; rfl, by assumption⟩;refine zc (zF rfl) rfl rfl rfl ?_
     iterate 3 (refine kO rfl rfl rfl ?_)
     refine zc (vx rfl rfl) rfl rfl rfl ?_;refine zc (zi rfl) rfl rfl rfl ?_;refine zo ?_;refine za ?_;refine xw rfl ?_;refine ud ?_;refine yP ?_;refine za ?_;refine zm ?_;refine zd ?_;refine zc (zF rfl) rfl rfl rfl ?_;refine zc (zi rfl) rfl rfl rfl ?_;refine zo ?_;refine za ?_;refine yS ?_
     refine z6 rfl ?_;exact ⟨by rw [db, if_neg h6, if_neg h8]; rfl, by assumption⟩
theorem OI {x : xO} (hx : ur m cs x) : ∀ h : zZ, Le m (mp h) -> C Tryz.prog 280 [.agg cs.toArray].toArray h fun v h' => v = gO (jE x) /\ Le (mp h) (mp h') := by
 induction hx with
 | @mk op who name nums kids A B la ca lb cb vs us ho hw hn hla hma hra hva hka hlb hmb hrb hvb hkb ih =>
   intro h hle;subst hla hlb;simp only [maxLen] at hma hmb;have kle := vD.mk hle;refine bw [2] Tryz.func280 rfl rfl rfl ?_;by_cases h6 : op = 6
   ·refine zm ?_;refine zd ?_;refine zH (wx rfl rfl (fun b1 h1 hn1 hb1 hl1 => ?_)) rfl
    replace hle := Le.trans hle hl1
    refine zc (zi rfl) rfl rfl rfl ?_;refine zo ?_;refine za ?_;refine zm ?_;refine zm ?_;refine zd ?_;refine zc (zj Ge rfl) rfl rfl rfl ?_;refine zq (zL zD rfl (zy hb1 rfl)) rfl rfl rfl ?_;refine zc (dt (yY rfl rfl) xP) rfl rfl rfl ?_;refine zo ?_;refine za ?_
    refine y9 rfl ?_;refine zm ?_;refine zm ?_;refine zd ?_;refine zc (zj RJ rfl) rfl rfl rfl ?_;refine zq (zL zD rfl (zy hb1 rfl)) rfl rfl rfl ?_;refine zo ?_;refine za ?_;refine wG ?_;refine zm ?_;refine zd ?_;refine SF (yY rfl rfl) rfl rfl rfl (fun hc1 => ?_) (fun hc1 => ?_)
    refine zc (zi rfl) rfl rfl rfl ?_;refine zo ?_;refine za ?_;refine y9 rfl ?_;refine zm ?_;refine zd ?_;refine zc (zi rfl) rfl rfl rfl ?_;refine zo ?_;refine za ?_;refine yS ?_;refine xp ?_;refine yN ?_;refine yN ?_;refine z6 rfl ?_
    exact ⟨by rw [jE, if_pos h6]; (repeat' split) <;> first | rfl | omega, by assumption⟩;refine zc (zi rfl) rfl rfl rfl ?_;refine zo ?_;refine za ?_;refine xw rfl ?_;refine zm ?_;refine zd ?_;refine SF (yY rfl rfl) rfl rfl rfl (fun hc2 => ?_) (fun hc2 => ?_);refine zc (zi rfl) rfl rfl rfl ?_;refine zo ?_;refine za ?_
    refine y9 rfl ?_;refine zm ?_;refine zd ?_;refine zc (zi rfl) rfl rfl rfl ?_;refine zo ?_;refine za ?_;refine yS ?_;refine xp ?_;refine yN ?_;refine yN ?_;refine z6 rfl ?_;exact ⟨by rw [jE, if_pos h6]; (repeat' split) <;> first | rfl | omega, by assumption⟩;refine zc (zi rfl) rfl rfl rfl ?_;refine zo ?_
    refine za ?_;refine xw rfl ?_;refine ud ?_;refine yP ?_;refine za ?_;refine zm ?_;refine zd ?_;refine zc (zi rfl) rfl rfl rfl ?_;refine zo ?_;refine za ?_;refine yS ?_;refine yN ?_;refine z6 rfl ?_;exact ⟨by rw [jE, if_pos h6]; (repeat' split) <;> first | rfl | omega, by assumption⟩
   ·refine zm ?_;refine zd ?_;refine zH (wx rfl rfl (fun b1 h1 hn1 hb1 hl1 => ?_)) rfl
    replace hle := Le.trans hle hl1
    refine zc (zi rfl) rfl rfl rfl ?_;refine zo ?_;refine za ?_;refine zm ?_;refine zm ?_;refine zd ?_;refine zc (zj Ge rfl) rfl rfl rfl ?_;refine zq (zL zD rfl (zy hb1 rfl)) rfl rfl rfl ?_;refine zc (df (yY rfl rfl) jv) rfl rfl rfl ?_;refine zo ?_
    refine za ?_;refine xw rfl ?_;refine ud ?_;refine za ?_;refine zm ?_;refine zd ?_;refine zc (zi rfl) rfl rfl rfl ?_;refine zo ?_;refine za ?_;refine zm ?_;refine zm ?_;refine zd ?_;refine zc (zj RI rfl) rfl rfl rfl ?_;refine zq (zL wK rfl (zy hb1 rfl)) rfl rfl rfl ?_
    refine zc (X2 TN rfl) rfl rfl rfl ?_;refine zc (zF rfl) rfl rfl rfl ?_;refine zo ?_;refine za ?_;refine wG ?_;have hlab : jE (.mk op who name nums kids) = uU (qc 0 nums) kids := by rw [jE, if_neg h6]
    rw [hlab];refine bq (fun i : Nat => [(1, .pointer (some ⟨b1, 0, none⟩)), (3, gO (qc 0 (nums.take i))), (18, .slice A nums.length ca), (19, .int .i64 nums.length), (20, .int .i64 i)]) (fun i h' => i <= nums.length /\ Le (mp h1) (mp h')) (fun i => nums.length - i) 0 Kr ⟨Nat.zero_le _, Le.refl _⟩ ?_;have kb1 := vD.mk hb1;have kl1 := vD.mk hl1
    clear hb1 hl1 hn1;rintro i h2 ⟨hi, hle2⟩;by_cases hlt : i < nums.length
    ·obtain ⟨a1, a2, a3, a4, a5, a6, hc⟩ := (hka i hlt).form;have hA : A.isSome = true := hra.isSome ze;have hat := (hra.elem (i * 4) 4).mono (hle.trans hle2);have ih1 := Vk (hka i hlt);rw [hc] at hat ih1;have hs := Zi (l := 0) hlt;have kle2 := vD.mk hle2;refine zm ?_;refine zd ?_
     refine zc (dt (vc rfl rfl) xP) rfl rfl rfl ?_;refine zo ?_;refine za ?_;refine zm ?_;refine y9 rfl ?_;refine ud ?_;refine za ?_;refine zm ?_;refine wG ?_;refine zm ?_;refine zd ?_;refine zc (we bR rfl rfl hA ze ze) rfl rfl rfl ?_
     refine zq (zI gV rfl rfl hat) rfl rfl rfl ?_;refine zH (vV Tf rfl (fun b2 h3 hn1 hb1 hl1 => ?_)) rfl
     replace hle2 := Le.trans hle2 hl1
     replace hat := hat.mono hl1
     refine zH (yK gV rfl rfl rfl hb1 rfl rfl (fun h4 hb2 hl2 hn2 => ?_)) rfl;refine zo ?_;refine za ?_;refine zd ?_;refine zc (zF rfl) rfl rfl rfl ?_;refine zq (zI gV rfl rfl (At.blk hb2)) rfl rfl rfl ?_;have hl24 := kle2.out.trans (hl1.stored hn1 hl2);refine zH (yG Gu rfl ((ih1 _ (hle.trans hl24))) rfl ?_) rfl
     rintro _ h5 ⟨rfl, hl5⟩;refine zH (yG af rfl ((uG h5 _ _)) rfl ?_) rfl;rintro _ h6 ⟨rfl, hl6⟩;refine zc (zi rfl) rfl rfl rfl ?_;refine zo ?_;refine yP ?_;refine za ?_;refine zd ?_;refine zc (yp rfl rfl (qx ze ze)) rfl rfl rfl ?_;refine zc (zF rfl) rfl rfl rfl ?_;refine zo ?_
     exact ⟨i + 1, ⟨rfl, by rw [hs]; rfl, rfl, rfl, rfl, trivial⟩, ⟨by omega, hl24.trans (hl5.trans hl6)⟩, by show nums.length - (i + 1) < nums.length - i; omega⟩
    have hb2 := hle2 _ _ kb1.out;have hnt : nums.take i = nums := List.take_of_length_le ze;rw [hnt];refine zm ?_;refine zd ?_;refine zc (df (vc rfl rfl) jv) rfl rfl rfl ?_;refine zo ?_;refine za ?_;refine zm ?_;refine xw rfl ?_;refine br ?_;refine uP ?_
    refine ui ?_;refine uo ?_;refine za ?_;refine zm ?_;refine zm ?_;refine zd ?_;refine zc (zj RH rfl) rfl rfl rfl ?_;refine zq (zL kX rfl (zy hb2 rfl)) rfl rfl rfl ?_;refine zc (X2 BB rfl) rfl rfl rfl ?_;refine zc (zF rfl) rfl rfl rfl ?_;refine zo ?_;refine za ?_;refine wG ?_
    refine bq (fun i : Nat => [(3, gO (uU (qc 0 nums) (kids.take i))), (30, .slice B kids.length cb), (31, .int .i64 kids.length), (32, .int .i64 i)]) (fun i h' => i <= kids.length /\ Le (mp h1) (mp h')) (fun i => kids.length - i) 0 ⟨by rw [List.take_zero, uU]; rfl, rfl, rfl, rfl, trivial⟩ ⟨Nat.zero_le _, hle2⟩ ?_;clear hb2 hle2 hnt hi hlt i h2;rintro i h2 ⟨hi, hle2⟩
    by_cases hlt : i < kids.length
    ·obtain ⟨a1, a2, a3, a4, a5, a6, a7, a8, a9, hc⟩ := (hkb i hlt).form;have hB : B.isSome = true := hrb.isSome ze;have hat := (hrb.elem (i * 5) 5).mono (hle.trans hle2);have ih1 := ih i hlt;rw [hc] at hat ih1;have hs := U9 (l := qc 0 nums) hlt;have kle2 := vD.mk hle2;refine zm ?_;refine zd ?_
     refine zc (dt (vc rfl rfl) xP) rfl rfl rfl ?_;refine zo ?_;refine za ?_;refine zm ?_;refine y9 rfl ?_;refine ud ?_;refine za ?_;refine zm ?_;refine wG ?_;refine zm ?_;refine zd ?_;refine zc (we Gi rfl rfl hB ze ze) rfl rfl rfl ?_
     refine zq (zI XX rfl rfl hat) rfl rfl rfl ?_;refine zH (vV Cc rfl (fun b2 h3 hn1 hb1 hl1 => ?_)) rfl
     replace hle2 := Le.trans hle2 hl1
     replace hat := hat.mono hl1
     refine zH (yK XX rfl rfl rfl hb1 rfl rfl (fun h4 hb2 hl2 hn2 => ?_)) rfl;refine zo ?_;refine za ?_;refine zd ?_;refine zc (zF rfl) rfl rfl rfl ?_;refine zq (zI XX rfl rfl (At.blk hb2)) rfl rfl rfl ?_;have hl24 := kle2.out.trans (hl1.stored hn1 hl2);refine zH (yG NR rfl ((ih1 _ (hle.trans hl24))) rfl ?_) rfl
     rintro _ h5 ⟨rfl, hl5⟩;refine zH (yG af rfl ((uG h5 _ _)) rfl ?_) rfl;rintro _ h6 ⟨rfl, hl6⟩;refine zc (zi rfl) rfl rfl rfl ?_;refine zo ?_;refine yP ?_;refine za ?_;refine zd ?_;refine zc (yp rfl rfl (qx ze ze)) rfl rfl rfl ?_;refine zc (zF rfl) rfl rfl rfl ?_;refine zo ?_
     exact ⟨i + 1, ⟨by rw [hs]; rfl, rfl, rfl, rfl, trivial⟩, ⟨by omega, hl24.trans (hl5.trans hl6)⟩, by show kids.length - (i + 1) < kids.length - i; omega⟩
    ·refine zm ?_;refine zd ?_;refine zc (df (vc rfl rfl) jv) rfl rfl rfl ?_;refine zo ?_;refine za ?_;refine zm ?_;refine xw rfl ?_;refine br ?_;refine uP ?_;refine ui ?_;refine uo ?_;refine za ?_;refine zm ?_;refine zd ?_
     refine zc (zF rfl) rfl rfl rfl ?_;refine zc (zi rfl) rfl rfl rfl ?_;refine zo ?_;refine za ?_;refine yS ?_;refine z6 rfl ?_;refine ⟨?_, kl1.out.trans hle2⟩;rw [List.take_of_length_le ze]
end
section
open La
def Uj (b : Nat) : Value := .pointer (some ⟨b, 0, none⟩)
def Qd (u : Int) : Value := .agg [gO u].toArray
theorem j4 (h : zZ) (u : Int) (cs : Lv) : C Tryz.prog 170 [Qd u, .agg cs.toArray].toArray h fun v h' => v = .bool (decide (wY u = 0)) /\ Le (mp h) (mp h') := by
 refine bw [4] Tryz.func170 rfl rfl rfl ?_;unfold Qd;refine zm ?_;refine zd ?_;refine zH (wx rfl rfl (fun b1 h1 hn1 hb1 hl1 => ?_)) rfl;refine zH (wx rfl rfl (fun b2 h2 hn2 hb2 hl2 => ?_)) rfl
 replace hb1 := hl2 _ _ hb1
 replace hl1 := Le.trans hl1 hl2
 refine zc (zi rfl) rfl rfl rfl ?_;refine zo ?_;refine za ?_;refine zm ?_;refine zd ?_;refine zc (zj dy rfl) rfl rfl rfl ?_;refine zq (zL Kx rfl (zy hb1 rfl)) rfl rfl rfl ?_;have hl := hl1;refine zH (yG Gt rfl ((fK h2 u)) rfl ?_) rfl;rintro _ h2 ⟨rfl, rfl⟩;refine zc ((yY rfl rfl)) rfl rfl rfl ?_
 refine zc (zi rfl) rfl rfl rfl ?_;refine zo ?_;refine za ?_;refine yS ?_;refine z6 rfl ?_;exact ⟨rfl, hl⟩
variable {cond : xO} {cs : Lv} {els : List xU} {m : Mp} {n : vC} {name : Bt} {op : Int} {thn : List xU} {who : Int}
theorem fq (hx : vE m cs (.mk op who n name cond thn els)) (h : zZ) (u : Int) (hle : Le m (mp h)) :
  C Tryz.prog 169 [Qd u, .agg cs.toArray].toArray h fun v h' => v = .bool (decide (uK u (db n) = 0)) /\ Le (mp h) (mp h') := by
 obtain ⟨op', who', nop, nn, nwho, nA, nlen, nc, name', cop, cwho, cname, cA, cla, cca, cB, clb, ccb, A1, la, ca, B1, lb, cb, n', cond', thn', els', rfl, hmk, _, hn, hcd, _, _⟩ := hx.parts
 injection hmk with e1 e2 e3 e4 e5 e6 e7
 subst e1 e2 e3 e4 e5 e6 e7;refine bw [4] Tryz.func169 rfl rfl rfl ?_;unfold Qd;have kle := vD.mk hle;clear hle hx;refine zm ?_;refine zd ?_;refine zH (wx rfl rfl (fun b1 h1 hn1 hb1 hl1 => ?_)) rfl;refine zH (wx rfl rfl (fun b2 h2 hn2 hb2 hl2 => ?_)) rfl
 replace hb1 := hl2 _ _ hb1
 replace hl1 := Le.trans hl1 hl2
 refine zc (zi rfl) rfl rfl rfl ?_;refine zo ?_;refine za ?_;refine zm ?_;have hl := hl1;have hat : At (mp h2) ⟨b2, 2, none⟩ [.int .i8 nop, .int .i64 nn, .int .i8 nwho, .slice nA nlen nc] := At.blkO (k := 4) hb2;refine Kb [(0, .pure), (2, .pure), (1, .read), (3, .read), (4, .kept), (5, .kept), (6, .pure), (7, .pure)] mixed zn (fun _ _ _ _ hq => hq) ?_
 refine vU rfl (zj dy rfl) rfl rfl rfl ?_;refine vU rfl (zj Gd rfl) rfl rfl rfl ?_;refine dE rfl (zL Kx rfl (zy hb1 rfl)) rfl rfl rfl ?_;refine dE rfl (zI gV rfl rfl hat) rfl rfl rfl ?_;refine jF rfl (yG Gu rfl ((Vk hn h2 (kle.out.trans hl))) rfl ?_) rfl;rintro _ h3 ⟨rfl, hl3⟩;refine ⟨hl3, ?_⟩
 refine jF rfl (yG af rfl ((uG h3 _ _)) rfl ?_) rfl;rintro _ h4 ⟨rfl, hl4⟩;refine ⟨hl4, ?_⟩;refine vU rfl ((yY rfl rfl)) rfl rfl rfl ?_;refine vU rfl (zi rfl) rfl rfl rfl ?_;refine Ka ?_;refine za ?_;refine yS ?_;refine z6 rfl ?_;exact ⟨rfl, hl.trans (hl3.trans hl4)⟩
theorem P2 (hx : vE m cs (.mk op who n name cond thn els)) (h : zZ) (u : Int) (hle : Le m (mp h)) :
  C Tryz.prog 171 [Qd u, .agg cs.toArray].toArray h fun v h' => v = .bool (JL (uK u (db n)) 1) /\ Le (mp h) (mp h') := by
 obtain ⟨op', who', nop, nn, nwho, nA, nlen, nc, name', cop, cwho, cname, cA, cla, cca, cB, clb, ccb, A1, la, ca, B1, lb, cb, n', cond', thn', els', rfl, hmk, _, hn, hcd, _, _⟩ := hx.parts
 injection hmk with e1 e2 e3 e4 e5 e6 e7
 subst e1 e2 e3 e4 e5 e6 e7;refine bw [4] Tryz.func171 rfl rfl rfl ?_;unfold Qd;have kle := vD.mk hle;clear hle hx;refine zm ?_;refine zd ?_;refine zH (wx rfl rfl (fun b1 h1 hn1 hb1 hl1 => ?_)) rfl;refine zH (wx rfl rfl (fun b2 h2 hn2 hb2 hl2 => ?_)) rfl
 replace hb1 := hl2 _ _ hb1
 replace hl1 := Le.trans hl1 hl2
 refine zc (zi rfl) rfl rfl rfl ?_;refine zo ?_;refine za ?_;refine zm ?_;have hl := hl1;have hat : At (mp h2) ⟨b2, 2, none⟩ [.int .i8 nop, .int .i64 nn, .int .i8 nwho, .slice nA nlen nc] := At.blkO (k := 4) hb2;refine Kb [(0, .pure), (2, .pure), (1, .read), (3, .read), (4, .kept), (5, .kept), (6, .kept), (7, .pure)] mixed zn (fun _ _ _ _ hq => hq) ?_
 refine vU rfl (zj dy rfl) rfl rfl rfl ?_;refine vU rfl (zj Gd rfl) rfl rfl rfl ?_;refine dE rfl (zL Kx rfl (zy hb1 rfl)) rfl rfl rfl ?_;refine dE rfl (zI gV rfl rfl hat) rfl rfl rfl ?_;refine jF rfl (yG Gu rfl ((Vk hn h2 (kle.out.trans hl))) rfl ?_) rfl;rintro _ h3 ⟨rfl, hl3⟩;refine ⟨hl3, ?_⟩
 refine jF rfl (yG af rfl ((uG h3 _ _)) rfl ?_) rfl;rintro _ h4 ⟨rfl, hl4⟩;refine ⟨hl4, ?_⟩;refine jF rfl (yG Ak rfl ((OK h4 _ 1)) rfl ?_) rfl;rintro _ h5 ⟨rfl, hl5⟩;refine ⟨hl5, ?_⟩;refine vU rfl (zi rfl) rfl rfl rfl ?_;refine Ka ?_;refine za ?_;refine yS ?_;refine z6 rfl ?_;exact ⟨rfl, hl.trans (hl3.trans (hl4.trans hl5))⟩
def GV (m : Mp) (v : Value) (l : List xU) : Prop := ∀ (u : Int) (h : zZ), Le m (mp h) -> C Tryz.prog 96 [Qd u, v].toArray h fun r h' => r = .bool (y8 u l) /\ Le (mp h) (mp h')
def fL (m : Mp) (cs : Lv) : xU -> Prop
 | .mk _ _ _ _ _ thn els => (∀ v, cs[12]? = some v -> GV m v thn) /\ (∀ v, cs[13]? = some v -> GV m v els)
theorem HI (hx : vE m cs (.mk op who n name cond thn els)) (hk : fL m cs (.mk op who n name cond thn els)) (h : zZ) (u : Int) (hle : Le m (mp h)) :
  C Tryz.prog 172 [Qd u, .agg cs.toArray].toArray h fun v h' => v = .bool (y8 (uK u (jE cond)) thn && y8 (uK u (jE cond)) els) /\ Le (mp h) (mp h') := by
 obtain ⟨op', who', nop, nn, nwho, nA, nlen, nc, name', cop, cwho, cname, cA, cla, cca, cB, clb, ccb, A1, la, ca, B1, lb, cb, n', cond', thn', els', rfl, hmk, _, hn, hcd, _, _⟩ := hx.parts
 injection hmk with e1 e2 e3 e4 e5 e6 e7
 subst e1 e2 e3 e4 e5 e6 e7;obtain ⟨hkA, hkB⟩ := hk;have hkA := hkA _ rfl;have hkB := hkB _ rfl;refine bw [4] Tryz.func172 rfl rfl rfl ?_;unfold Qd;have kle := vD.mk hle;clear hle hx;refine zm ?_;refine zd ?_;refine zH (wx rfl rfl (fun b1 h1 hn1 hb1 hl1 => ?_)) rfl;refine zH (wx rfl rfl (fun b2 h2 hn2 hb2 hl2 => ?_)) rfl
 replace hb1 := hl2 _ _ hb1
 replace hl1 := Le.trans hl1 hl2
 refine zc (zi rfl) rfl rfl rfl ?_;refine zo ?_;refine za ?_;refine zm ?_;have hl := hl1;have hat : At (mp h2) ⟨b2, 7, none⟩ [.int .i8 cop, .int .i8 cwho, .string (bs cname), .slice cA cla cca, .slice cB clb ccb] := At.blkO (k := 5) hb2;have kb2 := vD.mk hb2;have kl := vD.mk hl
 refine Fl (fun b3 : Nat => [(3, Uj b2), (5, Uj b3)]) (fun b3 h' => mp h' b3 = some (.cells [gO (uK u (jE cond))].toArray 203 (0, 0)) /\ Le (mp h2) (mp h')) ?_ ?_
 ·have hcc := OI hcd;clear hl hl1 hl2 hn1 hn2
  refine GL (.step 0 .pure (.step 2 .pure (.step 1 .read (.step 3 .read (.fork (.step 4 .kept (.fork (.step 5 .kept (.step 6 .pure (.step 7 .kept (.step 8 .wild (.done))))) (.step 7 .kept (.step 5 .kept (.step 6 .pure (.step 8 .wild (.done))))))) (.step 7 .kept (.step 4 .kept (.step 5 .kept (.step 6 .pure (.step 8 .wild (.done))))))))))) mixed zn (fun _ _ _ _ hq => hq) ?_
  refine fG rfl (zj dy rfl) rfl rfl rfl ?_;refine fG rfl (zj RG rfl) rfl rfl rfl ?_;refine W8 rfl (zL Kx rfl (zy hb1 rfl)) rfl rfl rfl ?_;refine W8 rfl (zI XX rfl rfl hat) rfl rfl rfl ?_;refine Va ?_ ?_
  ·refine qL rfl (yG NR rfl ((hcc h2 (kle.out.trans kl.out))) rfl ?_) rfl;rintro _ h3 ⟨rfl, hl3⟩;refine ⟨hl3, ?_⟩;clear hb1 hb2 hat;refine Va ?_ ?_
   ·refine qL rfl (yG af rfl ((uG h3 _ _)) rfl ?_) rfl;rintro _ h4 ⟨rfl, hl4⟩;refine ⟨hl4, ?_⟩;have hl34 := vD.mk (hl3.trans hl4);clear hl3 hl4;refine fG rfl (zW bz KN rfl rfl) rfl rfl rfl ?_;refine qL rfl (vV bz rfl (fun b3 h5 hn1 hb1 hl1 => ⟨hl1, ?_⟩)) rfl
    refine dC rfl rfl (yK xY rfl rfl rfl hb1 rfl rfl (fun h6 hb2 hl2 hn2 => ?_)) rfl;refine W9 ?_;exact ⟨b3, YH, ⟨hb2, hl34.out.trans (hl1.stored hn1 hl2)⟩, Nat.zero_lt_one⟩
   ·have kl3 := vD.mk hl3;clear hl3;refine qL rfl (vV bz rfl (fun b3 h4 hn1 hb1 hl1 => ⟨hl1, ?_⟩)) rfl;refine qL rfl (yG af rfl ((uG _ _ _)) rfl ?_) rfl;rintro _ h5 ⟨rfl, hl5⟩;refine ⟨hl5, ?_⟩;have hb1' := hl5 _ _ hb1;clear hb1;refine fG rfl (zW bz KN rfl rfl) rfl rfl rfl ?_
    refine dC rfl rfl (yK xY rfl rfl rfl hb1' rfl rfl (fun h6 hb1 hl2 hn2 => ?_)) rfl;refine W9 ?_;exact ⟨b3, YH, ⟨hb1, kl3.out.trans ((hl1.trans hl5).stored hn1 hl2)⟩, Nat.zero_lt_one⟩
  ·clear hb1 hb2 hat;refine qL rfl (vV bz rfl (fun b3 h3 hn1 hb1 hl1 => ⟨hl1, ?_⟩)) rfl;refine qL rfl (yG NR rfl ((hcc _ (kle.out.trans (kl.out.trans hl1)))) rfl ?_) rfl;rintro _ h4 ⟨rfl, hl4⟩;refine ⟨hl4, ?_⟩;refine qL rfl (yG af rfl ((uG _ _ _)) rfl ?_) rfl;rintro _ h5 ⟨rfl, hl5⟩;refine ⟨hl5, ?_⟩;have hb1' := hl5 _ _ (hl4 _ _ hb1);clear hb1
   refine fG rfl (zW bz KN rfl rfl) rfl rfl rfl ?_;refine dC rfl rfl (yK xY rfl rfl rfl hb1' rfl rfl (fun h6 hb1 hl2 hn2 => ?_)) rfl;refine W9 ?_;exact ⟨b3, YH, ⟨hb1, (hl1.trans (hl4.trans hl5)).stored hn1 hl2⟩, Nat.zero_lt_one⟩
 ·rintro b3 h3 ⟨hb3, hl3⟩;clear hl hl1 hl2 hn1 hn2 hb1 hb2 hat;have hb2 := hl3 _ _ kb2.out;have hl03 := kl.out.trans hl3;have kl03 := vD.mk hl03;generalize uK u (jE cond) = j at *;have c1 := hkA j h3 (kle.out.trans hl03);refine zm ?_;refine zd ?_;refine zq (zI xY rfl rfl (At.blk hb3)) rfl rfl rfl ?_;refine zc (zj RF rfl) rfl rfl rfl ?_
  refine zq (zL uQ rfl (zy hb2 rfl)) rfl rfl rfl ?_;refine zH (yG NO rfl (c1) rfl ?_) rfl;rintro _ h4 ⟨rfl, hl4⟩;have hb2' := hl4 _ _ hb2;have hb3' := hl4 _ _ hb3;clear hb2 hb3 hl3 hl03;have c2 := hkB j h4 (kle.out.trans (kl03.out.trans hl4));cases hr : y8 j thn with
  | false =>
    refine zc (zF rfl) rfl rfl rfl ?_
    iterate 4 (refine kO rfl rfl rfl ?_)
    refine zc (vx rfl rfl) rfl rfl rfl ?_;refine zc (zi rfl) rfl rfl rfl ?_;refine zo ?_;refine za ?_;refine yS ?_;refine z6 rfl ?_;exact ⟨rfl, kl03.out.trans hl4⟩
  | true =>
    refine zc (zF rfl) rfl rfl rfl ?_;refine zq (zI xY rfl rfl (At.blk hb3')) rfl rfl rfl ?_;refine zc (zj RE rfl) rfl rfl rfl ?_;refine zq (zL uQ rfl (zy hb2' rfl)) rfl rfl rfl ?_;refine zH (yG NO rfl (c2) rfl ?_) rfl;rintro _ h5 ⟨rfl, hl5⟩;refine zc (yT rfl rfl) rfl rfl rfl ?_;refine zc (zi rfl) rfl rfl rfl ?_
    refine zo ?_;refine za ?_;refine yS ?_;refine z6 rfl ?_;exact ⟨by simp, kl03.out.trans (hl4.trans hl5)⟩
def RL (f : Nat) (u : Int) : Value := .func (.func f) [Qd u].toArray [].toArray
def GE (u : Int) : Lv := [RL 169 u, RL 169 u, RL 169 u, RL 169 u, RL 170 u, RL 171 u, RL 170 u, RL 170 u, RL 172 u]
theorem RY {x : xU} (hx : vE m cs x) (hk : fL m cs x) (u : Int) (h : zZ) (b1 b2 : Nat) (hle : Le m (mp h)) (hb1 : mp h b1 = some (.cells [gO u].toArray 203 (0, 0))) (hb2 : mp h b2 = some (.cells (GE u).toArray 339 (0, 0))) :
  C Tryz.prog 174 [.agg cs.toArray, Uj b1, Uj b2].toArray h fun v h' => v = .bool (!vY u x) /\ Le (mp h) (mp h') := by
 obtain ⟨op, who, nop, nn, nwho, nA, nlen, nc, name, cop, cwho, cname, cA, cla, cca, cB, clb, ccb, A1, la, ca, B1, lb, cb, n, cond, thn, els, rfl, rfl, ho, hn, hcd, _, _⟩ := hx.parts;refine bw [4] Tryz.func174 rfl rfl rfl ?_;have kle := vD.mk hle;clear hle;unfold GE at hb2
 have hcase : op = 0 \/ op = 1 \/ op = 2 \/ op = 3 \/ op = 4 \/ op = 5 \/ op = 6 \/ op = 7 \/ op = 8 \/ op < 0 \/ 9 <= op := by omega
 have ho1 := ho.1;have ho2 := ho.2;rcases hcase with h0 | h0 | h0 | h0 | h0 | h0 | h0 | h0 | h0 | h0 | h0
 ·subst h0;refine zm ?_;refine zd ?_;refine zH (wx rfl rfl (fun b3 h1 hn1 hb3 hl1 => ?_)) rfl
  replace hb1 := hl1 _ _ hb1
  replace hb2 := hl1 _ _ hb2
  refine zc (zi rfl) rfl rfl rfl ?_;refine zo ?_;refine za ?_;refine zm ?_;refine zd ?_;refine zq (zI xY rfl rfl (At.blk hb1)) rfl rfl rfl ?_;refine zc (ye rfl rfl) rfl rfl rfl ?_;refine zc (zi rfl) rfl rfl rfl ?_;refine zo ?_;refine za ?_;refine zm ?_;refine zm ?_;refine zd ?_
  refine zc (zj yw rfl) rfl rfl rfl ?_;refine zq (zL zD rfl (zy hb3 rfl)) rfl rfl rfl ?_;refine zc (dt (uq rfl rfl) xP) rfl rfl rfl ?_;refine zc (zF rfl) rfl rfl rfl ?_;refine zc (zj yw rfl) rfl rfl rfl ?_;refine zq (zL zD rfl (zy hb3 rfl)) rfl rfl rfl ?_
  refine zc (yr dQ Nj rfl (qx ze ze)) rfl rfl rfl ?_;refine zc (dt (vc rfl rfl) xP) rfl rfl rfl ?_;refine zc (yT rfl rfl) rfl rfl rfl ?_;refine zo ?_;refine za ?_;refine y9 rfl ?_;refine zd ?_;refine zc (zj yw rfl) rfl rfl rfl ?_
  refine zq (zL zD rfl (zy hb3 rfl)) rfl rfl rfl ?_;refine zc (zQ eh rfl rfl ze ze) rfl rfl rfl ?_;refine zq (zL eZ rfl (zy hb2 rfl)) rfl rfl rfl ?_;refine zc (zi rfl) rfl rfl rfl ?_;refine zo ?_;refine za ?_;refine zm ?_;refine zd ?_;refine zc (zF rfl) rfl rfl rfl ?_
  refine zq (zI gf rfl rfl (At.blk hb3)) rfl rfl rfl ?_;refine zH (vF zn rfl rfl ((fq hx _ u (kle.out.trans hl1))) rfl ?_) rfl;rintro _ h4 ⟨rfl, hl4⟩;refine zc (vJ rfl) rfl rfl rfl ?_;refine zc (zi rfl) rfl rfl rfl ?_;refine zo ?_;refine za ?_;refine yS ?_;refine z6 rfl ?_;exact ⟨by simp [vY], hl1.trans hl4⟩
 ·subst h0;refine zm ?_;refine zd ?_;refine zH (wx rfl rfl (fun b3 h1 hn1 hb3 hl1 => ?_)) rfl
  replace hb1 := hl1 _ _ hb1
  replace hb2 := hl1 _ _ hb2
  refine zc (zi rfl) rfl rfl rfl ?_;refine zo ?_;refine za ?_;refine zm ?_;refine zd ?_;refine zq (zI xY rfl rfl (At.blk hb1)) rfl rfl rfl ?_;refine zc (ye rfl rfl) rfl rfl rfl ?_;refine zc (zi rfl) rfl rfl rfl ?_;refine zo ?_;refine za ?_;refine zm ?_;refine zm ?_;refine zd ?_
  refine zc (zj yw rfl) rfl rfl rfl ?_;refine zq (zL zD rfl (zy hb3 rfl)) rfl rfl rfl ?_;refine zc (dt (uq rfl rfl) xP) rfl rfl rfl ?_;refine zc (zF rfl) rfl rfl rfl ?_;refine zc (zj yw rfl) rfl rfl rfl ?_;refine zq (zL zD rfl (zy hb3 rfl)) rfl rfl rfl ?_
  refine zc (yr dQ Nj rfl (qx ze ze)) rfl rfl rfl ?_;refine zc (dt (vc rfl rfl) xP) rfl rfl rfl ?_;refine zc (yT rfl rfl) rfl rfl rfl ?_;refine zo ?_;refine za ?_;refine y9 rfl ?_;refine zd ?_;refine zc (zj yw rfl) rfl rfl rfl ?_
  refine zq (zL zD rfl (zy hb3 rfl)) rfl rfl rfl ?_;refine zc (zQ eh rfl rfl ze ze) rfl rfl rfl ?_;refine zq (zL eZ rfl (zy hb2 rfl)) rfl rfl rfl ?_;refine zc (zi rfl) rfl rfl rfl ?_;refine zo ?_;refine za ?_;refine zm ?_;refine zd ?_;refine zc (zF rfl) rfl rfl rfl ?_
  refine zq (zI gf rfl rfl (At.blk hb3)) rfl rfl rfl ?_;refine zH (vF zn rfl rfl ((fq hx _ u (kle.out.trans hl1))) rfl ?_) rfl;rintro _ h4 ⟨rfl, hl4⟩;refine zc (vJ rfl) rfl rfl rfl ?_;refine zc (zi rfl) rfl rfl rfl ?_;refine zo ?_;refine za ?_;refine yS ?_;refine z6 rfl ?_;exact ⟨by simp [vY], hl1.trans hl4⟩
 ·subst h0;refine zm ?_;refine zd ?_;refine zH (wx rfl rfl (fun b3 h1 hn1 hb3 hl1 => ?_)) rfl
  replace hb1 := hl1 _ _ hb1
  replace hb2 := hl1 _ _ hb2
  refine zc (zi rfl) rfl rfl rfl ?_;refine zo ?_;refine za ?_;refine zm ?_;refine zd ?_;refine zq (zI xY rfl rfl (At.blk hb1)) rfl rfl rfl ?_;refine zc (ye rfl rfl) rfl rfl rfl ?_;refine zc (zi rfl) rfl rfl rfl ?_;refine zo ?_;refine za ?_;refine zm ?_;refine zm ?_;refine zd ?_
  refine zc (zj yw rfl) rfl rfl rfl ?_;refine zq (zL zD rfl (zy hb3 rfl)) rfl rfl rfl ?_;refine zc (dt (uq rfl rfl) xP) rfl rfl rfl ?_;refine zc (zF rfl) rfl rfl rfl ?_;refine zc (zj yw rfl) rfl rfl rfl ?_;refine zq (zL zD rfl (zy hb3 rfl)) rfl rfl rfl ?_
  refine zc (yr dQ Nj rfl (qx ze ze)) rfl rfl rfl ?_;refine zc (dt (vc rfl rfl) xP) rfl rfl rfl ?_;refine zc (yT rfl rfl) rfl rfl rfl ?_;refine zo ?_;refine za ?_;refine y9 rfl ?_;refine zd ?_;refine zc (zj yw rfl) rfl rfl rfl ?_
  refine zq (zL zD rfl (zy hb3 rfl)) rfl rfl rfl ?_;refine zc (zQ eh rfl rfl ze ze) rfl rfl rfl ?_;refine zq (zL eZ rfl (zy hb2 rfl)) rfl rfl rfl ?_;refine zc (zi rfl) rfl rfl rfl ?_;refine zo ?_;refine za ?_;refine zm ?_;refine zd ?_;refine zc (zF rfl) rfl rfl rfl ?_
  refine zq (zI gf rfl rfl (At.blk hb3)) rfl rfl rfl ?_;refine zH (vF zn rfl rfl ((fq hx _ u (kle.out.trans hl1))) rfl ?_) rfl;rintro _ h4 ⟨rfl, hl4⟩;refine zc (vJ rfl) rfl rfl rfl ?_;refine zc (zi rfl) rfl rfl rfl ?_;refine zo ?_;refine za ?_;refine yS ?_;refine z6 rfl ?_;exact ⟨by simp [vY], hl1.trans hl4⟩
 ·subst h0;refine zm ?_;refine zd ?_;refine zH (wx rfl rfl (fun b3 h1 hn1 hb3 hl1 => ?_)) rfl
  replace hb1 := hl1 _ _ hb1
  replace hb2 := hl1 _ _ hb2
  refine zc (zi rfl) rfl rfl rfl ?_;refine zo ?_;refine za ?_;refine zm ?_;refine zd ?_;refine zq (zI xY rfl rfl (At.blk hb1)) rfl rfl rfl ?_;refine zc (ye rfl rfl) rfl rfl rfl ?_;refine zc (zi rfl) rfl rfl rfl ?_;refine zo ?_;refine za ?_;refine zm ?_;refine zm ?_;refine zd ?_
  refine zc (zj yw rfl) rfl rfl rfl ?_;refine zq (zL zD rfl (zy hb3 rfl)) rfl rfl rfl ?_;refine zc (dt (uq rfl rfl) xP) rfl rfl rfl ?_;refine zc (zF rfl) rfl rfl rfl ?_;refine zc (zj yw rfl) rfl rfl rfl ?_;refine zq (zL zD rfl (zy hb3 rfl)) rfl rfl rfl ?_
  refine zc (yr dQ Nj rfl (qx ze ze)) rfl rfl rfl ?_;refine zc (dt (vc rfl rfl) xP) rfl rfl rfl ?_;refine zc (yT rfl rfl) rfl rfl rfl ?_;refine zo ?_;refine za ?_;refine y9 rfl ?_;refine zd ?_;refine zc (zj yw rfl) rfl rfl rfl ?_
  refine zq (zL zD rfl (zy hb3 rfl)) rfl rfl rfl ?_;refine zc (zQ eh rfl rfl ze ze) rfl rfl rfl ?_;refine zq (zL eZ rfl (zy hb2 rfl)) rfl rfl rfl ?_;refine zc (zi rfl) rfl rfl rfl ?_;refine zo ?_;refine za ?_;refine zm ?_;refine zd ?_;refine zc (zF rfl) rfl rfl rfl ?_
  refine zq (zI gf rfl rfl (At.blk hb3)) rfl rfl rfl ?_;refine zH (vF zn rfl rfl ((fq hx _ u (kle.out.trans hl1))) rfl ?_) rfl;rintro _ h4 ⟨rfl, hl4⟩;refine zc (vJ rfl) rfl rfl rfl ?_;refine zc (zi rfl) rfl rfl rfl ?_;refine zo ?_;refine za ?_;refine yS ?_;refine z6 rfl ?_;exact ⟨by simp [vY], hl1.trans hl4⟩
 ·subst h0;refine zm ?_;refine zd ?_;refine zH (wx rfl rfl (fun b3 h1 hn1 hb3 hl1 => ?_)) rfl
  replace hb1 := hl1 _ _ hb1
  replace hb2 := hl1 _ _ hb2
  refine zc (zi rfl) rfl rfl rfl ?_;refine zo ?_;refine za ?_;refine zm ?_;refine zd ?_;refine zq (zI xY rfl rfl (At.blk hb1)) rfl rfl rfl ?_;refine zc (ye rfl rfl) rfl rfl rfl ?_;refine zc (zi rfl) rfl rfl rfl ?_;refine zo ?_;refine za ?_;refine zm ?_;refine zm ?_;refine zd ?_
  refine zc (zj yw rfl) rfl rfl rfl ?_;refine zq (zL zD rfl (zy hb3 rfl)) rfl rfl rfl ?_;refine zc (dt (uq rfl rfl) xP) rfl rfl rfl ?_;refine zc (zF rfl) rfl rfl rfl ?_;refine zc (zj yw rfl) rfl rfl rfl ?_;refine zq (zL zD rfl (zy hb3 rfl)) rfl rfl rfl ?_
  refine zc (yr dQ Nj rfl (qx ze ze)) rfl rfl rfl ?_;refine zc (dt (vc rfl rfl) xP) rfl rfl rfl ?_;refine zc (yT rfl rfl) rfl rfl rfl ?_;refine zo ?_;refine za ?_;refine y9 rfl ?_;refine zd ?_;refine zc (zj yw rfl) rfl rfl rfl ?_
  refine zq (zL zD rfl (zy hb3 rfl)) rfl rfl rfl ?_;refine zc (zQ eh rfl rfl ze ze) rfl rfl rfl ?_;refine zq (zL eZ rfl (zy hb2 rfl)) rfl rfl rfl ?_;refine zc (zi rfl) rfl rfl rfl ?_;refine zo ?_;refine za ?_;refine zm ?_;refine zd ?_;refine zc (zF rfl) rfl rfl rfl ?_
  refine zq (zI gf rfl rfl (At.blk hb3)) rfl rfl rfl ?_;refine zH (vF zn rfl rfl ((j4 _ u _)) rfl ?_) rfl;rintro _ h4 ⟨rfl, hl4⟩;refine zc (vJ rfl) rfl rfl rfl ?_;refine zc (zi rfl) rfl rfl rfl ?_;refine zo ?_;refine za ?_;refine yS ?_;refine z6 rfl ?_;exact ⟨by simp [vY], hl1.trans hl4⟩
 ·subst h0;refine zm ?_;refine zd ?_;refine zH (wx rfl rfl (fun b3 h1 hn1 hb3 hl1 => ?_)) rfl
  replace hb1 := hl1 _ _ hb1
  replace hb2 := hl1 _ _ hb2
  refine zc (zi rfl) rfl rfl rfl ?_;refine zo ?_;refine za ?_;refine zm ?_;refine zd ?_;refine zq (zI xY rfl rfl (At.blk hb1)) rfl rfl rfl ?_;refine zc (ye rfl rfl) rfl rfl rfl ?_;refine zc (zi rfl) rfl rfl rfl ?_;refine zo ?_;refine za ?_;refine zm ?_;refine zm ?_;refine zd ?_
  refine zc (zj yw rfl) rfl rfl rfl ?_;refine zq (zL zD rfl (zy hb3 rfl)) rfl rfl rfl ?_;refine zc (dt (uq rfl rfl) xP) rfl rfl rfl ?_;refine zc (zF rfl) rfl rfl rfl ?_;refine zc (zj yw rfl) rfl rfl rfl ?_;refine zq (zL zD rfl (zy hb3 rfl)) rfl rfl rfl ?_
  refine zc (yr dQ Nj rfl (qx ze ze)) rfl rfl rfl ?_;refine zc (dt (vc rfl rfl) xP) rfl rfl rfl ?_;refine zc (yT rfl rfl) rfl rfl rfl ?_;refine zo ?_;refine za ?_;refine y9 rfl ?_;refine zd ?_;refine zc (zj yw rfl) rfl rfl rfl ?_
  refine zq (zL zD rfl (zy hb3 rfl)) rfl rfl rfl ?_;refine zc (zQ eh rfl rfl ze ze) rfl rfl rfl ?_;refine zq (zL eZ rfl (zy hb2 rfl)) rfl rfl rfl ?_;refine zc (zi rfl) rfl rfl rfl ?_;refine zo ?_;refine za ?_;refine zm ?_;refine zd ?_;refine zc (zF rfl) rfl rfl rfl ?_
  refine zq (zI gf rfl rfl (At.blk hb3)) rfl rfl rfl ?_;refine zH (vF zn rfl rfl ((P2 hx _ u (kle.out.trans hl1))) rfl ?_) rfl;rintro _ h4 ⟨rfl, hl4⟩;refine zc (vJ rfl) rfl rfl rfl ?_;refine zc (zi rfl) rfl rfl rfl ?_;refine zo ?_;refine za ?_;refine yS ?_;refine z6 rfl ?_;exact ⟨by simp [vY], hl1.trans hl4⟩
 ·subst h0;refine zm ?_;refine zd ?_;refine zH (wx rfl rfl (fun b3 h1 hn1 hb3 hl1 => ?_)) rfl
  replace hb1 := hl1 _ _ hb1
  replace hb2 := hl1 _ _ hb2
  refine zc (zi rfl) rfl rfl rfl ?_;refine zo ?_;refine za ?_;refine zm ?_;refine zd ?_;refine zq (zI xY rfl rfl (At.blk hb1)) rfl rfl rfl ?_;refine zc (ye rfl rfl) rfl rfl rfl ?_;refine zc (zi rfl) rfl rfl rfl ?_;refine zo ?_;refine za ?_;refine zm ?_;refine zm ?_;refine zd ?_
  refine zc (zj yw rfl) rfl rfl rfl ?_;refine zq (zL zD rfl (zy hb3 rfl)) rfl rfl rfl ?_;refine zc (dt (uq rfl rfl) xP) rfl rfl rfl ?_;refine zc (zF rfl) rfl rfl rfl ?_;refine zc (zj yw rfl) rfl rfl rfl ?_;refine zq (zL zD rfl (zy hb3 rfl)) rfl rfl rfl ?_
  refine zc (yr dQ Nj rfl (qx ze ze)) rfl rfl rfl ?_;refine zc (dt (vc rfl rfl) xP) rfl rfl rfl ?_;refine zc (yT rfl rfl) rfl rfl rfl ?_;refine zo ?_;refine za ?_;refine y9 rfl ?_;refine zd ?_;refine zc (zj yw rfl) rfl rfl rfl ?_
  refine zq (zL zD rfl (zy hb3 rfl)) rfl rfl rfl ?_;refine zc (zQ eh rfl rfl ze ze) rfl rfl rfl ?_;refine zq (zL eZ rfl (zy hb2 rfl)) rfl rfl rfl ?_;refine zc (zi rfl) rfl rfl rfl ?_;refine zo ?_;refine za ?_;refine zm ?_;refine zd ?_;refine zc (zF rfl) rfl rfl rfl ?_
  refine zq (zI gf rfl rfl (At.blk hb3)) rfl rfl rfl ?_;refine zH (vF zn rfl rfl ((j4 _ u _)) rfl ?_) rfl;rintro _ h4 ⟨rfl, hl4⟩;refine zc (vJ rfl) rfl rfl rfl ?_;refine zc (zi rfl) rfl rfl rfl ?_;refine zo ?_;refine za ?_;refine yS ?_;refine z6 rfl ?_;exact ⟨by simp [vY], hl1.trans hl4⟩
 ·subst h0;refine zm ?_;refine zd ?_;refine zH (wx rfl rfl (fun b3 h1 hn1 hb3 hl1 => ?_)) rfl
  replace hb1 := hl1 _ _ hb1
  replace hb2 := hl1 _ _ hb2
  refine zc (zi rfl) rfl rfl rfl ?_;refine zo ?_;refine za ?_;refine zm ?_;refine zd ?_;refine zq (zI xY rfl rfl (At.blk hb1)) rfl rfl rfl ?_;refine zc (ye rfl rfl) rfl rfl rfl ?_;refine zc (zi rfl) rfl rfl rfl ?_;refine zo ?_;refine za ?_;refine zm ?_;refine zm ?_;refine zd ?_
  refine zc (zj yw rfl) rfl rfl rfl ?_;refine zq (zL zD rfl (zy hb3 rfl)) rfl rfl rfl ?_;refine zc (dt (uq rfl rfl) xP) rfl rfl rfl ?_;refine zc (zF rfl) rfl rfl rfl ?_;refine zc (zj yw rfl) rfl rfl rfl ?_;refine zq (zL zD rfl (zy hb3 rfl)) rfl rfl rfl ?_
  refine zc (yr dQ Nj rfl (qx ze ze)) rfl rfl rfl ?_;refine zc (dt (vc rfl rfl) xP) rfl rfl rfl ?_;refine zc (yT rfl rfl) rfl rfl rfl ?_;refine zo ?_;refine za ?_;refine y9 rfl ?_;refine zd ?_;refine zc (zj yw rfl) rfl rfl rfl ?_
  refine zq (zL zD rfl (zy hb3 rfl)) rfl rfl rfl ?_;refine zc (zQ eh rfl rfl ze ze) rfl rfl rfl ?_;refine zq (zL eZ rfl (zy hb2 rfl)) rfl rfl rfl ?_;refine zc (zi rfl) rfl rfl rfl ?_;refine zo ?_;refine za ?_;refine zm ?_;refine zd ?_;refine zc (zF rfl) rfl rfl rfl ?_
  refine zq (zI gf rfl rfl (At.blk hb3)) rfl rfl rfl ?_;refine zH (vF zn rfl rfl ((j4 _ u _)) rfl ?_) rfl;rintro _ h4 ⟨rfl, hl4⟩;refine zc (vJ rfl) rfl rfl rfl ?_;refine zc (zi rfl) rfl rfl rfl ?_;refine zo ?_;refine za ?_;refine yS ?_;refine z6 rfl ?_;exact ⟨by simp [vY], hl1.trans hl4⟩
 ·subst h0;refine zm ?_;refine zd ?_;refine zH (wx rfl rfl (fun b3 h1 hn1 hb3 hl1 => ?_)) rfl
  replace hb1 := hl1 _ _ hb1
  replace hb2 := hl1 _ _ hb2
  refine zc (zi rfl) rfl rfl rfl ?_;refine zo ?_;refine za ?_;refine zm ?_;refine zd ?_;refine zq (zI xY rfl rfl (At.blk hb1)) rfl rfl rfl ?_;refine zc (ye rfl rfl) rfl rfl rfl ?_;refine zc (zi rfl) rfl rfl rfl ?_;refine zo ?_;refine za ?_;refine zm ?_;refine zm ?_;refine zd ?_
  refine zc (zj yw rfl) rfl rfl rfl ?_;refine zq (zL zD rfl (zy hb3 rfl)) rfl rfl rfl ?_;refine zc (dt (uq rfl rfl) xP) rfl rfl rfl ?_;refine zc (zF rfl) rfl rfl rfl ?_;refine zc (zj yw rfl) rfl rfl rfl ?_;refine zq (zL zD rfl (zy hb3 rfl)) rfl rfl rfl ?_
  refine zc (yr dQ Nj rfl (qx ze ze)) rfl rfl rfl ?_;refine zc (dt (vc rfl rfl) xP) rfl rfl rfl ?_;refine zc (yT rfl rfl) rfl rfl rfl ?_;refine zo ?_;refine za ?_;refine y9 rfl ?_;refine zd ?_;refine zc (zj yw rfl) rfl rfl rfl ?_
  refine zq (zL zD rfl (zy hb3 rfl)) rfl rfl rfl ?_;refine zc (zQ eh rfl rfl ze ze) rfl rfl rfl ?_;refine zq (zL eZ rfl (zy hb2 rfl)) rfl rfl rfl ?_;refine zc (zi rfl) rfl rfl rfl ?_;refine zo ?_;refine za ?_;refine zm ?_;refine zd ?_;refine zc (zF rfl) rfl rfl rfl ?_
  refine zq (zI gf rfl rfl (At.blk hb3)) rfl rfl rfl ?_;refine zH (vF zn rfl rfl ((HI hx hk _ u (kle.out.trans hl1))) rfl ?_) rfl;rintro _ h4 ⟨rfl, hl4⟩;refine zc (vJ rfl) rfl rfl rfl ?_;refine zc (zi rfl) rfl rfl rfl ?_;refine zo ?_;refine za ?_;refine yS ?_;refine z6 rfl ?_;exact ⟨by simp [vY], hl1.trans hl4⟩
 ·refine zm ?_;refine zd ?_;refine zH (wx rfl rfl (fun b3 h1 hn1 hb3 hl1 => ?_)) rfl
  replace hb1 := hl1 _ _ hb1
  replace hb2 := hl1 _ _ hb2
  refine zc (zi rfl) rfl rfl rfl ?_;refine zo ?_;refine za ?_;refine zm ?_;refine zd ?_;refine zq (zI xY rfl rfl (At.blk hb1)) rfl rfl rfl ?_;refine zc (ye rfl rfl) rfl rfl rfl ?_;refine zc (zi rfl) rfl rfl rfl ?_;refine zo ?_;refine za ?_;refine zm ?_;refine zm ?_;refine zd ?_
  refine zc (zj yw rfl) rfl rfl rfl ?_;refine zq (zL zD rfl (zy hb3 rfl)) rfl rfl rfl ?_;refine zc (df (uq rfl rfl) jv) rfl rfl rfl ?_;refine zc (zF rfl) rfl rfl rfl ?_
  iterate 4 (refine kO rfl rfl rfl ?_)
  refine zc (vx rfl rfl) rfl rfl rfl ?_;refine zo ?_;refine za ?_;refine xw rfl ?_;refine ud ?_;refine za ?_;refine zm ?_;refine zd ?_;refine zc (zF rfl) rfl rfl rfl ?_;refine zq (zI gf rfl rfl (At.blk hb3)) rfl rfl rfl ?_;refine zH (vF zn rfl rfl ((j4 _ u _)) rfl ?_) rfl;rintro _ h4 ⟨rfl, hl4⟩
  refine zc (vJ rfl) rfl rfl rfl ?_;refine zc (zi rfl) rfl rfl rfl ?_;refine zo ?_;refine za ?_;refine yS ?_;refine z6 rfl ?_;exact ⟨by rw [vY, if_neg ze, if_neg ze, if_neg ze], hl1.trans hl4⟩
 ·refine zm ?_;refine zd ?_;refine zH (wx rfl rfl (fun b3 h1 hn1 hb3 hl1 => ?_)) rfl
  replace hb1 := hl1 _ _ hb1
  replace hb2 := hl1 _ _ hb2
  refine zc (zi rfl) rfl rfl rfl ?_;refine zo ?_;refine za ?_;refine zm ?_;refine zd ?_;refine zq (zI xY rfl rfl (At.blk hb1)) rfl rfl rfl ?_;refine zc (ye rfl rfl) rfl rfl rfl ?_;refine zc (zi rfl) rfl rfl rfl ?_;refine zo ?_;refine za ?_;refine zm ?_;refine zm ?_;refine zd ?_
  refine zc (zj yw rfl) rfl rfl rfl ?_;refine zq (zL zD rfl (zy hb3 rfl)) rfl rfl rfl ?_;refine zc (dt (uq rfl rfl) xP) rfl rfl rfl ?_;refine zc (zF rfl) rfl rfl rfl ?_;refine zc (zj yw rfl) rfl rfl rfl ?_;refine zq (zL zD rfl (zy hb3 rfl)) rfl rfl rfl ?_
  refine zc (yr dQ Nj rfl (qx ze ze)) rfl rfl rfl ?_;refine zc (df (vc rfl rfl) jv) rfl rfl rfl ?_;refine zc (yT rfl rfl) rfl rfl rfl ?_;refine zo ?_;refine za ?_;refine xw rfl ?_;refine ud ?_;refine za ?_;refine zm ?_;refine zd ?_
  refine zc (zF rfl) rfl rfl rfl ?_;refine zq (zI gf rfl rfl (At.blk hb3)) rfl rfl rfl ?_;refine zH (vF zn rfl rfl ((j4 _ u _)) rfl ?_) rfl;rintro _ h4 ⟨rfl, hl4⟩;refine zc (vJ rfl) rfl rfl rfl ?_;refine zc (zi rfl) rfl rfl rfl ?_;refine zo ?_;refine za ?_;refine yS ?_;refine z6 rfl ?_
  exact ⟨by rw [vY, if_neg ze, if_neg ze, if_neg ze], hl1.trans hl4⟩
end
section
open La
def NM (b1 b2 : Nat) : Value := .func (.func 174) [].toArray [Uj b1, Uj b2].toArray
variable {A : Oa} {c : Nat} {l : List xU} {m : Mp} {vs : Lv}
theorem HX (hm : l.length <= maxLen) (hr : Rd m A vs) (hv : vs.length = l.length * 14) (hk : ∀ (i : Nat) (hi : i < l.length), vE m ((vs.drop (i * 14)).take 14) l[i]) (hs : ∀ (i : Nat) (hi : i < l.length), fL m ((vs.drop (i * 14)).take 14) l[i]) (u : Int) (h : zZ) (b1 b2 : Nat) (hle : Le m (mp h)) (hb1 : mp h b1 = some (.cells [gO u].toArray 203 (0, 0))) (hb2 : mp h b2 = some (.cells (GE u).toArray 339 (0, 0))) :
  C Tryz.prog 281 [.slice A l.length c, NM b1 b2].toArray h fun v h' => ∃ z : Int, v = .int .i64 z /\ (0 <= z ↔ y8 u l = false) /\ Le (mp h) (mp h') := by
 simp only [maxLen] at hm;refine bw [4] Tryz.func281 rfl rfl rfl ?_;refine zm ?_;refine zd ?_;refine zc (zi rfl) rfl rfl rfl ?_;refine zo ?_;refine za ?_;refine zm ?_;refine zm ?_;refine zd ?_;refine zc (zF rfl) rfl rfl rfl ?_;refine zc (X2 il90 rfl) rfl rfl rfl ?_;refine zc (zF rfl) rfl rfl rfl ?_;refine zo ?_
 refine za ?_;refine wG ?_;refine bq (fun i : Nat => [(0, .slice A l.length c), (1, NM b1 b2), (7, .int .i64 l.length), (8, .int .i64 i)]) (fun i h' => i <= l.length /\ y8 u (l.take i) = true /\ Le (mp h) (mp h')) (fun i => l.length - i) 0 eV ⟨Nat.zero_le _, by simp [y8], Le.refl _⟩ ?_;rintro i h2 ⟨hi, hright, hle2⟩;by_cases hlt : i < l.length
 ·have he := hk i hlt;have hcl := fun h3 (hl3 : Le (mp h) (mp h3)) => RY he (hs i hlt) u h3 b1 b2 (hle.trans hl3) (hl3 _ _ hb1) (hl3 _ _ hb2);have hA : A.isSome = true := hr.isSome ze;have hat := (hr.elem (i * 14) 14).mono (hle.trans hle2);obtain ⟨op, who, nop, nn, nwho, nA, nlen, nc, name, cop, cwho, cname, cA, cla, cca, cB, clb, ccb, A1, la, ca, B1, lb, cb, hc⟩ := he.form
  rw [hc] at hat hcl;have hsu := VW (u := u) hlt;rw [hright, Bool.true_and] at hsu;clear he hc hk hs hb1 hb2;refine zm ?_;refine zd ?_;refine zc (dt (vc rfl rfl) xP) rfl rfl rfl ?_;refine zo ?_;refine za ?_;refine zm ?_;refine y9 rfl ?_;refine ud ?_;refine za ?_;refine zm ?_;refine wG ?_
  refine zm ?_;refine zd ?_;refine zc (zF rfl) rfl rfl rfl ?_;refine zc (zi rfl) rfl rfl rfl ?_;refine zo ?_;refine za ?_;refine zm ?_;refine zd ?_
  iterate 3 (refine zc (zF rfl) rfl rfl rfl ?_)
  refine zc (we aa rfl rfl hA ze ze) rfl rfl rfl ?_;refine zq (zI gf rfl rfl hat) rfl rfl rfl ?_;refine zH (vF zn rfl rfl ((hcl h2 hle2)) rfl ?_) rfl;rintro _ h4 ⟨rfl, hl4⟩;cases hre : vY u l[i] with
  | true =>
    rw [hre] at hsu;refine zo ?_;refine za ?_;refine xw rfl ?_;refine ud ?_;refine yP ?_;refine za ?_;refine zd ?_;refine zc (yp rfl rfl (qx ze ze)) rfl rfl rfl ?_;refine zc (zF rfl) rfl rfl rfl ?_;refine zo ?_
    exact ⟨i + 1, eV, ⟨by omega, hsu, hle2.trans hl4⟩, by show l.length - (i + 1) < l.length - i; omega⟩
  | false =>
    rw [hre] at hsu;refine zo ?_;refine za ?_;refine y9 rfl ?_;refine zm ?_;refine zd ?_;refine zc (zF rfl) rfl rfl rfl ?_;refine zc (zi rfl) rfl rfl rfl ?_;refine zo ?_;refine za ?_;refine yS ?_;refine xp ?_;refine yN ?_;refine jd ?_;refine xp ?_;refine yN ?_;refine z6 rfl ?_
    refine ⟨i, rfl, ⟨fun _ => ?_, fun _ => by omega⟩, hle2.trans hl4⟩;rw [<- List.take_append_drop (i + 1) l, fW, hsu]
    rfl
 ·refine zm ?_;refine zd ?_;refine zc (df (vc rfl rfl) jv) rfl rfl rfl ?_;refine zo ?_;refine za ?_;refine zm ?_;refine xw rfl ?_;refine br ?_;refine uP ?_;refine ui ?_;refine uo ?_;refine za ?_;refine zm ?_;refine zd ?_
  refine zc (zi rfl) rfl rfl rfl ?_;refine zo ?_;refine za ?_;refine yS ?_;refine z6 rfl ?_;rw [List.take_of_length_le ze] at hright;exact ⟨-1, rfl, ⟨fun h => by omega, fun h => by rw [hright] at h; cases h⟩, hle2⟩
theorem U8 {c : Nat} (hm : l.length <= maxLen) (hr : Rd m A vs) (hv : vs.length = l.length * 14) (hk : ∀ (i : Nat) (hi : i < l.length), vE m ((vs.drop (i * 14)).take 14) l[i]) (hs : ∀ (i : Nat) (hi : i < l.length), fL m ((vs.drop (i * 14)).take 14) l[i]) (u : Int) (h : zZ) (b1 b2 : Nat) (hle : Le m (mp h)) (hb1 : mp h b1 = some (.cells [gO u].toArray 203 (0, 0))) (hb2 : mp h b2 = some (.cells (GE u).toArray 339 (0, 0))) :
  C Tryz.prog 173 [.slice A l.length c, NM b1 b2].toArray h fun v h' => v = .bool (!y8 u l) /\ Le (mp h) (mp h') := by
 have hc := HX (c := c) hm hr hv hk hs u h b1 b2 hle hb1 hb2;refine bw [4] Tryz.func173 rfl rfl rfl ?_;refine zm ?_;refine zd ?_;refine zc (zi rfl) rfl rfl rfl ?_;refine zo ?_;refine za ?_;refine zm ?_;refine zd ?_;refine zc (zF rfl) rfl rfl rfl ?_;refine zc (zF rfl) rfl rfl rfl ?_;refine zH (yG Aj rfl (hc) rfl ?_) rfl
 rintro _ h2 ⟨z, rfl, hz, hl2⟩
 have hd : decide (0 <= z) = !y8 u l := by
  cases hr : y8 u l with
  | true => rw [hr] at hz; simp at hz ⊢; omega
  | false => rw [hr] at hz; simp at hz ⊢; exact hz
 refine zc ((pv (uq rfl rfl) hd)) rfl rfl rfl ?_;refine zc (zi rfl) rfl rfl rfl ?_;refine zo ?_;refine za ?_;refine yS ?_;refine z6 rfl ?_;exact ⟨rfl, hl2⟩
theorem Z4 {c : Nat} (hm : l.length <= maxLen) (hr : Rd m A vs) (hv : vs.length = l.length * 14) (hk : ∀ (i : Nat) (hi : i < l.length), vE m ((vs.drop (i * 14)).take 14) l[i]) (hs : ∀ (i : Nat) (hi : i < l.length), fL m ((vs.drop (i * 14)).take 14) l[i]) : GV m (.slice A l.length c) l := by
 intro u h hle;refine bw [4] Tryz.func96 rfl rfl rfl ?_;unfold Qd;have kle := vD.mk hle;clear hle;refine zm ?_;refine zd ?_;refine zH (wx rfl rfl (fun b1 h1 hn1 hb1 hl1 => ?_)) rfl;refine zc (zi rfl) rfl rfl rfl ?_;refine zo ?_;refine za ?_;refine zm ?_;refine zd ?_;refine zq (zI xY rfl rfl (At.blk hb1)) rfl rfl rfl ?_
 refine zc (ye rfl rfl) rfl rfl rfl ?_;refine zq (zI xY rfl rfl (At.blk hb1)) rfl rfl rfl ?_;refine zc (ye rfl rfl) rfl rfl rfl ?_;refine zq (zI xY rfl rfl (At.blk hb1)) rfl rfl rfl ?_;refine zc (ye rfl rfl) rfl rfl rfl ?_;refine zq (zI xY rfl rfl (At.blk hb1)) rfl rfl rfl ?_;refine zc (ye rfl rfl) rfl rfl rfl ?_
 refine zq (zI xY rfl rfl (At.blk hb1)) rfl rfl rfl ?_;refine zc (ye rfl rfl) rfl rfl rfl ?_;refine zq (zI xY rfl rfl (At.blk hb1)) rfl rfl rfl ?_;refine zc (ye rfl rfl) rfl rfl rfl ?_;refine zq (zI xY rfl rfl (At.blk hb1)) rfl rfl rfl ?_;refine zc (ye rfl rfl) rfl rfl rfl ?_
 refine zq (zI xY rfl rfl (At.blk hb1)) rfl rfl rfl ?_;refine zc (ye rfl rfl) rfl rfl rfl ?_;refine zq (zI xY rfl rfl (At.blk hb1)) rfl rfl rfl ?_;refine zc (ye rfl rfl) rfl rfl rfl ?_;refine zc (xa eh Td rfl rfl) rfl rfl rfl ?_;have kl1 := vD.mk hl1;have kb1 := vD.mk hb1;clear hl1 hb1 hn1
 refine zH (vV Td rfl (fun b2 h2 hn1 hb1 hl1 => ?_)) rfl;refine zH (yK zaf rfl rfl rfl hb1 rfl rfl (fun h3 hb2 hl2 hn2 => ?_)) rfl;refine zo ?_;refine za ?_;refine zm ?_;refine zd ?_;refine zc (zF rfl) rfl rfl rfl ?_;refine zc (ye rfl rfl) rfl rfl rfl ?_;have hl13 := hl1.stored hn1 hl2;have hl03 := kl1.out.trans hl13
 refine zH (yG AE rfl ((U8 (c := c) hm hr hv hk hs u _ b1 b2 (kle.out.trans hl03) (hl13 _ _ kb1.out) hb2)) rfl ?_) rfl;rintro _ h4 ⟨rfl, hl4⟩;refine zc (vJ rfl) rfl rfl rfl ?_;refine zc (zi rfl) rfl rfl rfl ?_;refine zo ?_;refine za ?_;refine yS ?_;refine z6 rfl ?_;exact ⟨by simp, hl03.trans hl4⟩
theorem RS {cs : Lv} {x : xU} (hx : vE m cs x) : fL m cs x := by
 induction hx with
 | @mk op who n name cond thn els ns cs A B la ca lb cb vs us ho hw hn hnm hc hla hma hra hva hka hlb hmb hrb hvb hkb ih1 ih2 =>
   obtain ⟨_, _, _, _, _, _, rfl⟩ := hn.form;obtain ⟨_, _, _, _, _, _, _, _, _, rfl⟩ := hc.form;subst hla hlb;have hA := Z4 (c := ca) hma hra hva hka ih1;have hB := Z4 (c := cb) hmb hrb hvb hkb ih2;refine ⟨fun u hu => ?_, fun u hu => ?_⟩
   ·simp at hu
    subst hu;exact hA
   ·simp at hu
    subst hu;exact hB
theorem Vj {len : Nat} (h : jq m A len l) : GV m (.slice A len c) l := by
 obtain ⟨rfl, hm, vs, hr, hv, hk⟩ := h;exact Z4 hm hr hv hk fun i hi => RS (hk i hi)
end
section
open La
def vk (x : yv) : Bool := y8 0 x.played && (y8 0 x.dead && y8 0 x.dawn)
def uz : List yv -> List Int
 | [] => [0, 0]
 | x :: r => if vk x then uz r else [140, x.at_]
variable {l : List yv}
theorem cN {i : Nat} (h : ∀ x ∈ l.take i, vk x = true) : uz l = uz (l.drop i) := by
 induction l generalizing i with
 | nil => simp
 | cons x r ih =>
   cases i with
   | zero => rfl
   | succ i =>
     rw [uz, if_pos (h x vM), List.drop_succ_cons];exact ih fun y hy => h y (by simp [hy])
def EP (l : List Int) : Value := .agg (Bz [.i64, .i64] l).toArray
theorem HY {m : Mp} {A : Oa} {len c : Nat} (hl : ue m A len l) (h : zZ) (hle : Le m (mp h)) : C Tryz.prog 46 [.slice A len c].toArray h fun v h' => v = EP (uz l) /\ Le (mp h) (mp h') := by
 obtain ⟨rfl, hm, vs, hr, hv, hk⟩ := hl;simp only [maxLen] at hm;refine OO [.cell 2 73] Tryz.func46 rfl rfl rfl ?_;have kle := vD.mk hle;clear hle;refine zm ?_;refine zd ?_;refine zH (vV ql rfl (fun b1 h1 hn1 hb1 hl1 => ?_)) rfl;refine zo ?_;refine za ?_;refine zm ?_;refine zd ?_;refine zc (zW bz KN rfl rfl) rfl rfl rfl ?_
 have kl1 := vD.mk hl1;have kb1 := vD.mk hb1;have kn1 := vD.mk hn1;clear hl1 hb1 hn1;refine zH (vV bz rfl (fun b2 h2 hn1 hb1 hl1 => ?_)) rfl;refine zH (yK xY rfl rfl rfl hb1 rfl rfl (fun h3 hb2 hl2 hn2 => ?_)) rfl;refine zo ?_;refine za ?_;refine zm ?_;refine zm ?_;refine zd ?_;refine zc (zF rfl) rfl rfl rfl ?_
 refine zc (X2 il22 rfl) rfl rfl rfl ?_;refine zc (zF rfl) rfl rfl rfl ?_;refine zo ?_;refine za ?_;refine wG ?_;have hl13 := hl1.stored hn1 hl2;have hl03 := kl1.out.trans hl13;have hb13 := hl13 _ _ kb1.out
 refine bq (fun i : Nat => [(2, Uj b1), (3, Uj b2), (7, .slice A l.length c), (8, .int .i64 l.length), (9, .int .i64 i)]) (fun i h' => i <= l.length /\ (∀ x ∈ l.take i, vk x = true) /\ Le (mp h3) (mp h')) (fun i => l.length - i) 0 Kr ⟨Nat.zero_le _, by simp, Le.refl _⟩ ?_;have kl03 := vD.mk hl03;have kb13 := vD.mk hb13;have kb2 := vD.mk hb2
 clear hl1 hn1 hl2 hl13 hl03 hb13 hb2 hb1 hn2;rintro i h2 ⟨hi, hright, hle2⟩;have hbr := hle2 _ _ kb13.out;have hbc := hle2 _ _ kb2.out;have kle2 := vD.mk hle2;have kl02 := vD.mk (kl03.out.trans hle2);by_cases hlt : i < l.length
 ·have hA : A.isSome = true := hr.isSome ze;have hat := (hr.elem (i * 12) 12).mono (kle.out.trans kl02.out);obtain ⟨P, lp, cp, D, ld, cd, W, lw, cw, hc, _, hP, hD, hW, _⟩ := hk i hlt;have hcx := hc;rw [hc] at hat
  have hcp : uz l = if vk l[i] then uz (l.drop (i + 1)) else [140, l[i].at_] := by
   rw [cN hright, List.drop_eq_getElem_cons hlt, uz]
  have hyes : vk l[i] = true -> ∀ x ∈ l.take (i + 1), vk x = true := fun hx x hm => by
   rw [List.take_succ_eq_append_getElem hlt] at hm;rcases List.mem_append.1 hm with hm | hm
   ·exact hright x hm
   ·simp at hm; subst hm; exact hx
  have cP := fun h' (hh : Le (mp h) (mp h')) => Vj (c := cp) hP 0 h' (kle.out.trans hh);have cD := fun h' (hh : Le (mp h) (mp h')) => Vj (c := cd) hD 0 h' (kle.out.trans hh);have cW := fun h' (hh : Le (mp h) (mp h')) => Vj (c := cw) hW 0 h' (kle.out.trans hh);generalize l[i] = x at *;clear hle2 hc hat;have hbr2 := vD.mk hbr;have hbc2 := vD.mk hbc;clear hbr hbc
  have hat := (hr.elem (i * 12) 12).mono (kle.out.trans kl02.out);rw [hcx] at hat;refine zm ?_;refine zd ?_;refine zc (dt (vc rfl rfl) xP) rfl rfl rfl ?_;refine zo ?_;refine za ?_;refine zm ?_;refine y9 rfl ?_;refine ud ?_;refine za ?_;refine zm ?_;refine wG ?_;refine zm ?_;refine zd ?_
  refine zc (we dd rfl rfl hA ze ze) rfl rfl rfl ?_;refine zq (zI eO rfl rfl hat) rfl rfl rfl ?_;refine zH (vV GW rfl (fun b3 h4 hn1 hb1 hl1 => ?_)) rfl
  replace hat := hat.mono hl1
  refine zH (yK eO rfl rfl rfl hb1 rfl rfl (fun h5 hb2 hl2 hn2 => ?_)) rfl;refine zo ?_;refine za ?_;refine zm ?_;refine zd ?_;have hl24 := hl1.stored hn1 hl2;have hbr := hl24 _ _ hbr2.out;have hbc := hl24 _ _ hbc2.out;clear hl1 hn1 hl2 hn2 hb1 hat;refine zq (zI xY rfl rfl (At.blk hbc)) rfl rfl rfl ?_
  refine zc (zj EM rfl) rfl rfl rfl ?_;refine zq (zL uQ rfl (zy hb2 rfl)) rfl rfl rfl ?_;refine zH (yG NO rfl ((cP _ (kl02.out.trans hl24))) rfl ?_) rfl;rintro _ h6 ⟨rfl, hl6⟩
  replace hb2 := hl6 _ _ hb2
  replace hl24 := Le.trans hl24 hl6
  replace hbr := hl6 _ _ hbr
  replace hbc := hl6 _ _ hbc
  clear hl6;cases hr1 : y8 0 x.played with
  | false =>
    refine zc (vJ rfl) rfl rfl rfl ?_;refine zc (zF rfl) rfl rfl rfl ?_
    iterate 5 (refine kO rfl rfl rfl ?_)
    refine zc (yT rfl rfl) rfl rfl rfl ?_;refine zc (zF rfl) rfl rfl rfl ?_
    iterate 5 (refine kO rfl rfl rfl ?_)
    refine zc (yT rfl rfl) rfl rfl rfl ?_;refine zo ?_;refine za ?_;refine y9 rfl ?_;refine zm ?_;refine zd ?_;refine zc (zj WH rfl) rfl rfl rfl ?_;refine zq (zL yH rfl (zy hb2 rfl)) rfl rfl rfl ?_;refine zc (zW ql Zd rfl rfl) rfl rfl rfl ?_
    refine zH (yK uu rfl rfl rfl hbr rfl rfl (fun h7 hb1 hl1 hn1 => ?_)) rfl;refine zo ?_;refine za ?_;refine yS ?_;refine xp ?_;refine yN ?_;refine jd ?_;refine xp ?_;refine yN ?_;refine gB rfl hb1 uu ?_;refine ⟨?_, (kl02.out.trans hl24).stored kn1.out hl1⟩;rw [hcp, if_neg (by simp [vk, hr1])]
    rfl
  | true =>
    refine zc (vJ rfl) rfl rfl rfl ?_;refine zc (zF rfl) rfl rfl rfl ?_;refine zq (zI xY rfl rfl (At.blk hbc)) rfl rfl rfl ?_;refine zc (zj EL rfl) rfl rfl rfl ?_;refine zq (zL uQ rfl (zy hb2 rfl)) rfl rfl rfl ?_;refine zH (yG NO rfl ((cD _ (kl02.out.trans hl24))) rfl ?_) rfl;rintro _ h7 ⟨rfl, hl7⟩
    replace hb2 := hl7 _ _ hb2
    replace hl24 := Le.trans hl24 hl7
    replace hbr := hl7 _ _ hbr
    replace hbc := hl7 _ _ hbc
    clear hl7;cases hr2 : y8 0 x.dead with
    | false =>
      refine zc (vJ rfl) rfl rfl rfl ?_;refine zc (vx rfl rfl) rfl rfl rfl ?_;refine zc (zF rfl) rfl rfl rfl ?_
      iterate 5 (refine kO rfl rfl rfl ?_)
      refine zc (yT rfl rfl) rfl rfl rfl ?_;refine zo ?_;refine za ?_;refine y9 rfl ?_;refine zm ?_;refine zd ?_;refine zc (zj WH rfl) rfl rfl rfl ?_;refine zq (zL yH rfl (zy hb2 rfl)) rfl rfl rfl ?_;refine zc (zW ql Zd rfl rfl) rfl rfl rfl ?_
      refine zH (yK uu rfl rfl rfl hbr rfl rfl (fun h8 hb1 hl1 hn1 => ?_)) rfl;refine zo ?_;refine za ?_;refine yS ?_;refine xp ?_;refine yN ?_;refine jd ?_;refine xp ?_;refine yN ?_;refine gB rfl hb1 uu ?_;refine ⟨?_, (kl02.out.trans hl24).stored kn1.out hl1⟩;rw [hcp, if_neg (by simp [vk, hr2])]
      rfl
    | true =>
      refine zc (vJ rfl) rfl rfl rfl ?_;refine zc (vx rfl rfl) rfl rfl rfl ?_;refine zc (zF rfl) rfl rfl rfl ?_;refine zq (zI xY rfl rfl (At.blk hbc)) rfl rfl rfl ?_;refine zc (zj RC rfl) rfl rfl rfl ?_;refine zq (zL uQ rfl (zy hb2 rfl)) rfl rfl rfl ?_;refine zH (yG NO rfl ((cW _ (kl02.out.trans hl24))) rfl ?_) rfl
      rintro _ h8 ⟨rfl, hl8⟩
      replace hb2 := hl8 _ _ hb2
      replace hl24 := Le.trans hl24 hl8
      replace hbr := hl8 _ _ hbr
      replace hbc := hl8 _ _ hbc
      clear hl8;cases hr3 : y8 0 x.dawn with
      | false =>
        refine zc (vJ rfl) rfl rfl rfl ?_;refine zc (vx rfl rfl) rfl rfl rfl ?_;refine zo ?_;refine za ?_;refine y9 rfl ?_;refine zm ?_;refine zd ?_;refine zc (zj WH rfl) rfl rfl rfl ?_;refine zq (zL yH rfl (zy hb2 rfl)) rfl rfl rfl ?_;refine zc (zW ql Zd rfl rfl) rfl rfl rfl ?_
        refine zH (yK uu rfl rfl rfl hbr rfl rfl (fun h9 hb1 hl1 hn1 => ?_)) rfl;refine zo ?_;refine za ?_;refine yS ?_;refine xp ?_;refine yN ?_;refine jd ?_;refine xp ?_;refine yN ?_;refine gB rfl hb1 uu ?_;refine ⟨?_, (kl02.out.trans hl24).stored kn1.out hl1⟩;rw [hcp, if_neg (by simp [vk, hr3])]
        rfl
      | true =>
        refine zc (vJ rfl) rfl rfl rfl ?_;refine zc (vx rfl rfl) rfl rfl rfl ?_;refine zo ?_;refine za ?_;refine xw rfl ?_;refine ud ?_;refine yP ?_;refine za ?_;refine zd ?_;refine zc (yp rfl rfl (qx ze ze)) rfl rfl rfl ?_;refine zc (zF rfl) rfl rfl rfl ?_;refine zo ?_
        exact ⟨i + 1, Kr, ⟨by omega, hyes (by simp [vk, hr1, hr2, hr3]), kle2.out.trans hl24⟩, by show l.length - (i + 1) < l.length - i; omega⟩
 ·refine zm ?_;refine zd ?_;refine zc (df (vc rfl rfl) jv) rfl rfl rfl ?_;refine zo ?_;refine za ?_;refine zm ?_;refine xw rfl ?_;refine br ?_;refine uP ?_;refine ui ?_;refine uo ?_;refine za ?_;refine zm ?_;refine zd ?_
  refine zc (zW ql Zd rfl rfl) rfl rfl rfl ?_;refine zH (yK uu rfl rfl rfl hbr rfl rfl (fun h4 hb1 hl1 hn1 => ?_)) rfl;refine zo ?_;refine za ?_;refine yS ?_;refine gB rfl hb1 uu ?_;refine ⟨?_, kl02.out.stored kn1.out hl1⟩;rw [cN hright, List.drop_of_length_le ze]
  rfl
end
section
open Wd Tp Kd La
variable {m : Mp}
theorem fZ : ∀ l : List yv, (uz l = [0, 0] /\ ∀ x ∈ l, vk x = true) \/ (∃ a, uz l = [140, a]) /\ ¬ ∀ x ∈ l, vk x = true
 | [] => .inl ⟨rfl, fun x h => by cases h⟩
 | x :: r => by
   unfold uz;by_cases hx : vk x = true
   ·rw [if_pos hx];rcases fZ r with ⟨h1, h2⟩ | ⟨h1, h2⟩
    ·refine .inl ⟨h1, fun y hy => ?_⟩;rcases List.mem_cons.1 hy with rfl | hy
     ·exact hx
     ·exact h2 y hy
    ·exact .inr ⟨h1, fun h => h2 fun y hy => h y (.tail _ hy)⟩
   ·rw [if_neg hx];exact .inr ⟨⟨_, rfl⟩, fun h => hx (h x (.head _))⟩
def GQ (l : List yv) (e a : Int) : Prop := (e = 0 /\ a = 0 /\ ∀ x ∈ l, vk x = true) \/ (e = 140 /\ ¬ ∀ x ∈ l, vk x = true)
variable {l : List yv}
theorem M5 {A : Oa} {c : Nat} (hC : ue m A l.length l) : CS Tryz.prog 46 [.slice A l.length c] m [] (fun v L' => L' = [] /\ ∃ e a, v = uB e a /\ GQ l e a) := fun h hs => (HY hC h hs.base).mono fun v h' ⟨hv, hle⟩ => by
 rcases fZ l with ⟨h1, h2⟩ | ⟨⟨a, h1⟩, h2⟩
 ·rw [h1] at hv;exact ⟨[], ⟨rfl, 0, 0, hv, .inl ⟨rfl, rfl, h2⟩⟩, hs.le hle⟩
 ·rw [h1] at hv;exact ⟨[], ⟨rfl, 140, a, hv, .inr ⟨rfl, h2⟩⟩, hs.le hle⟩
structure JX (b : H8) : Prop where
 n : b.cards.length <= 240
 k : ∀ (i : Nat) (h : i < b.cards.length), Wr b.cards i h
 l : ∀ x ∈ b.cards, vk x = true
 f : ∀ (i : Nat) (h : i < b.fmts.length), kZ b.cards i (qa b.fmts i) b.fmts[i]
def QF (b : H8) (e a : Int) : Prop := (e = 0 /\ a = 0 /\ JX b) \/ (e ≠ 0 /\ ¬ JX b /\ (b.cards = [] -> kh b e a))
variable {a e : Int}
theorem u4.cases (h : u4 l e a) : (e = 0 /\ a = 0 /\ l.length <= 240 /\ ∀ (i : Nat) (h : i < l.length), Wr l i h) \/ (e ≠ 0 /\ l ≠ [] /\ ¬ (l.length <= 240 /\ ∀ (i : Nat) (h : i < l.length), Wr l i h)) := by
 rcases h with ⟨h1, rfl, rfl⟩ | ⟨h1, ⟨rfl, rfl, h2⟩ | ⟨i, hi, -, -, h2⟩⟩
 ·exact .inr ⟨by decide, fun h => by rw [h] at h1; exact absurd h1 (by decide), fun h => by omega⟩
 ·exact .inl ⟨rfl, rfl, h1, h2⟩
 ·have hl : l ≠ [] := fun h => by subst h; exact absurd hi (Nat.not_lt_zero _)
  rcases h2 with ⟨rfl, h3⟩ | ⟨rfl, -, h3⟩
  ·exact .inr ⟨by decide, hl, fun h => (h.2 i hi).1 h3⟩
  ·exact .inr ⟨by decide, hl, fun h => h3 (h.2 i hi).2⟩
theorem kh.cases {b : H8} (h : kh b e a) : (e = 0 /\ a = 0 /\ ∀ (i : Nat) (h : i < b.fmts.length), kZ b.cards i (qa b.fmts i) b.fmts[i]) \/ (e ≠ 0 /\ ¬ ∀ (i : Nat) (h : i < b.fmts.length), kZ b.cards i (qa b.fmts i) b.fmts[i]) := by
 rcases h with h | ⟨i, hi, -, h2, rfl, -⟩
 ·exact .inl h
 ·exact .inr ⟨by decide, fun h => h2 (h i hi)⟩
structure QD (b : H8) : Prop where
 c : b.cards.length <= 240 -> ∀ (i : Nat) (h : i < b.cards.length), b.cards[i].name.length <= 140737488355328 /\ un b.cards[i] <= 3999
 f : FmL b
 n : ∀ f ∈ b.fmts, f.name.length <= 140737488355328
section
variable {K F : Oa} {kc fc : Nat} {b : H8}
variable {b0 : Nat}
theorem AV (hT : fR m) (hB : At m ⟨b0, 0, none⟩ (H7 K b.cards.length kc F b.fmts.length fc)) (hR : ue m K b.cards.length b.cards) (hz : QD b) : CS Tryz.prog 43 [ptr b0] m [] (fun v L' => L' = [] /\ ∃ e a, v = uB e a /\ u4 b.cards e a) := by
 have h0 : mc m ⟨b0, 0, none⟩ = some (.slice K b.cards.length kc) := hB.at_ (o := 0) rfl;refine zM [.cell 1 73] Tryz.func43 rfl rfl rfl ?_;refine tr 2 ?_;refine Al 5 ql fun b1 => ?_;refine Lo 0 QU rfl h0 ?_;refine zg ((zr cl44 rfl (fun m' hm he => DS (hT.mono hm) (hR.mono hm) hz.c) rfl ?_)) rfl;rintro _ _ ⟨rfl, e, a, rfl, hp⟩;unfold uB;refine Sg 3 uu .here ?_
 exact zB [_] ⟨⟨b1, _, _, _, rfl, .here, .inr ⟨rfl, rfl⟩⟩, trivial⟩ [] (zJ.nil _) ⟨rfl, e, a, rfl, hp⟩
theorem AU (hB : At m ⟨b0, 0, none⟩ (H7 K b.cards.length kc F b.fmts.length fc)) (hR : ue m K b.cards.length b.cards) : CS Tryz.prog 45 [ptr b0] m [] (fun v L' => L' = [] /\ ∃ e a, v = uB e a /\ GQ b.cards e a) := by
 have h0 : mc m ⟨b0, 0, none⟩ = some (.slice K b.cards.length kc) := hB.at_ (o := 0) rfl;refine zM [.cell 1 73] Tryz.func45 rfl rfl rfl ?_;refine tr 2 ?_;refine Al 5 ql fun b1 => ?_;refine Lo 0 QU rfl h0 ?_;refine zg ((zr cl46 rfl (fun m' hm he => M5 (hR.mono hm)) rfl ?_)) rfl;rintro _ _ ⟨rfl, e, a, rfl, hp⟩;unfold uB;refine Sg 3 uu .here ?_
 exact zB [_] ⟨⟨b1, _, _, _, rfl, .here, .inr ⟨rfl, rfl⟩⟩, trivial⟩ [] (zJ.nil _) ⟨rfl, e, a, rfl, hp⟩
theorem AT (hT : fR m) (hB : At m ⟨b0, 0, none⟩ (H7 K b.cards.length kc F b.fmts.length fc)) (hC : jR m K b.cards) (hF : aw m F b.fmts) (hz : QD b) : CS Tryz.prog 47 [ptr b0] m [] (fun v L' => L' = [] /\ ∃ e a, v = uB e a /\ kh b e a) := by
 refine zM [.cell 1 73] Tryz.func47 rfl rfl rfl ?_;refine tr 2 ?_;refine Al 4 ql fun b1 => ?_;refine La 0 gt hB ?_;refine zg ((zr cl48 rfl (fun m' hm he => Hs (hT.mono hm) (hC.mono hm) (hF.mono hm) hz.f hz.n) rfl ?_)) rfl;rintro _ _ ⟨rfl, e, a, rfl, hp⟩;unfold uB;refine Sg 3 uu .here ?_
 exact zB [_] ⟨⟨b1, _, _, _, rfl, .here, .inr ⟨rfl, rfl⟩⟩, trivial⟩ [] (zJ.nil _) ⟨rfl, e, a, rfl, hp⟩
abbrev E5 (f : FuncId) (b0 : Nat) : Value := .func (.func f) [].toArray [ptr b0].toArray
theorem S9 (hT : fR m) (hR : ue m K b.cards.length b.cards) (hC : jR m K b.cards) (hF : aw m F b.fmts) (hz : QD b) : CS Tryz.prog 16 [.agg (H7 K b.cards.length kc F b.fmts.length fc).toArray] m [] (fun v L' => L' = [] /\ ∃ e a, v = uB e a /\ QF b e a) := by
 refine zM [.cell 2 73] Tryz.func16 rfl rfl rfl ?_;refine tr 2 ?_;refine Bx 0 rfl fun b1 => ?_;refine Al 8 ql fun b2 => ?_;refine pe 4 (xa GH Ch rfl rfl) ?_
 refine zN (α := Nat) (fun i => [(2, ptr b2), (9, .agg [E5 43 b1, E5 45 b1, E5 47 b1].toArray), (10, .int .i64 (i : Nat))]) (fun _ => [cel b2 [.int .i64 0, .int .i64 0] 73, cel b1 (H7 K b.cards.length kc F b.fmts.length fc) 25]) (fun i => i <= 3 /\ (0 < i -> b.cards.length <= 240 /\ ∀ (i : Nat) (h : i < b.cards.length), Wr b.cards i h) /\ (1 < i -> ∀ x ∈ b.cards, vk x = true) /\ (2 < i -> ∀ (i : Nat) (h : i < b.fmts.length), kZ b.cards i (qa b.fmts i) b.fmts[i])) (fun i => 3 - i) 0 ⟨rfl, rfl, rfl, trivial⟩ (zJ.refl _) ⟨Nat.zero_le _, fun h => absurd h (by decide), fun h => absurd h (by decide), fun h => absurd h (by decide)⟩ ?_
 rintro i ⟨hi, hk, hlb, hfm⟩;have hc4 : i = 0 \/ i = 1 \/ i = 2 \/ i = 3 := by omega
 rcases hc4 with rfl | rfl | rfl | rfl
 ·refine tr 2 ?_;refine xI 10 ?_;refine pe 6 ((yF GH J4 rfl rfl (by omega) (by omega) rfl)) ?_;refine zg ((kR (p := []) (q := [ptr b1]) cl43 rfl rfl (fun m' hm he => AV (hT.mono hm) (At.blk (he _ (.tail _ (.head _)))) (hR.mono hm) hz) rfl ?_)) rfl;rintro _ _ ⟨rfl, e, a, rfl, hp⟩;unfold uB;rcases hp.cases with ⟨rfl, rfl, h1⟩ | ⟨hne, hcl, hno⟩
  ·refine Al 0 ql fun b3 => ?_;refine Sg 5 uu .here ?_;refine Lb 0 IS .here ?_;refine ym 7 ?_;refine Pa 2 ?_;exact QR (1 : Nat) (.cons .h1 .p1) ⟨by omega, fun _ => h1, fun h => absurd h (by decide), fun h => absurd h (by decide)⟩ (by decide)
  ·refine Al 0 ql fun b3 => ?_;refine Sg 5 uu .here ?_;refine Lb 0 IS .here ?_;refine yy 5 ?_;refine Lc 0 uu .here ?_;refine Sg 5 uu .h1 ?_;refine zC ?_;refine zz ?_;refine zU ?_;exact zB [_] ⟨⟨b2, _, _, _, rfl, .h1, .inr ⟨rfl, rfl⟩⟩, trivial⟩ [] (zJ.nil _) ⟨rfl, e, a, rfl, .inr ⟨hne, fun h => hno ⟨h.n, h.k⟩, fun h => absurd h hcl⟩⟩
 ·refine tr 2 ?_;refine xI 10 ?_;refine pe 6 ((yF GH J4 rfl rfl (by omega) (by omega) rfl)) ?_;refine zg ((kR (p := []) (q := [ptr b1]) cl45 rfl rfl (fun m' hm he => AU (At.blk (he _ (.tail _ (.head _)))) (hR.mono hm)) rfl ?_)) rfl;rintro _ _ ⟨rfl, e, a, rfl, hp⟩;unfold uB;rcases hp with ⟨rfl, rfl, h1⟩ | ⟨rfl, hno⟩
  ·refine Al 0 ql fun b3 => ?_;refine Sg 5 uu .here ?_;refine Lb 0 IS .here ?_;refine ym 7 ?_;refine Pa 2 ?_;exact QR (2 : Nat) (.cons .h1 .p1) ⟨by omega, fun _ => hk (by decide), fun _ => h1, fun h => absurd h (by decide)⟩ (by decide)
  ·refine Al 0 ql fun b3 => ?_;refine Sg 5 uu .here ?_;refine Lb 0 IS .here ?_;refine xI 5 ?_;refine Lc 0 uu .here ?_;refine Sg 5 uu .h1 ?_;refine zC ?_;refine zz ?_;refine zU ?_
   exact zB [_] ⟨⟨b2, _, _, _, rfl, .h1, .inr ⟨rfl, rfl⟩⟩, trivial⟩ [] (zJ.nil _) ⟨rfl, 140, a, rfl, .inr ⟨by decide, fun h => hno h.l, fun h => absurd (by rw [h]; exact fun x h => by cases h) hno⟩⟩
 ·refine tr 2 ?_;refine xI 10 ?_;refine pe 6 ((yF GH J4 rfl rfl (by omega) (by omega) rfl)) ?_;refine zg ((kR (p := []) (q := [ptr b1]) cl47 rfl rfl (fun m' hm he => AT (hT.mono hm) (At.blk (he _ (.tail _ (.head _)))) (hC.mono hm) (hF.mono hm) hz) rfl ?_)) rfl;rintro _ _ ⟨rfl, e, a, rfl, hp⟩;unfold uB;have hp0 := hp;rcases hp.cases with ⟨rfl, rfl, h1⟩ | ⟨hne, hno⟩
  ·refine Al 0 ql fun b3 => ?_;refine Sg 5 uu .here ?_;refine Lb 0 IS .here ?_;refine ym 7 ?_;refine Pa 2 ?_;exact QR (3 : Nat) (.cons .h1 .p1) ⟨by omega, fun _ => hk (by decide), fun _ => hlb (by decide), fun _ => h1⟩ (by decide)
  ·refine Al 0 ql fun b3 => ?_;refine Sg 5 uu .here ?_;refine Lb 0 IS .here ?_;refine yy 5 ?_;refine Lc 0 uu .here ?_;refine Sg 5 uu .h1 ?_;refine zC ?_;refine zz ?_;refine zU ?_;exact zB [_] ⟨⟨b2, _, _, _, rfl, .h1, .inr ⟨rfl, rfl⟩⟩, trivial⟩ [] (zJ.nil _) ⟨rfl, e, a, rfl, .inr ⟨hne, fun h => hno h.f, fun _ => hp0⟩⟩
 ·refine tr 2 ?_;refine ym 6 ?_;refine zh ?_;refine zf ?_;refine qt 3 ?_;refine pe 0 (zW ql Zd rfl rfl) ?_;refine Sg 3 uu .here ?_;exact zB [_] ⟨⟨b2, _, _, _, rfl, .here, .inr ⟨rfl, rfl⟩⟩, trivial⟩ [] (zJ.nil _) ⟨rfl, 0, 0, rfl, .inl ⟨rfl, rfl, ⟨(hk (by decide)).1, (hk (by decide)).2, hlb (by decide), hfm (by decide)⟩⟩⟩
end
theorem uO.xx {vs : Lv} {c : yv} (h : uO m vs c) : Yg m vs c := by
 obtain ⟨A, la, ca, B, lb, cb, D, ld, cd, rfl, -, h1, h2, h3, -⟩ := h;obtain rfl := h1.1;obtain rfl := h2.1;obtain rfl := h3.1;exact ⟨⟨A, ca, B, cb, D, cd⟩, rfl, h1, h2, h3⟩
end
section
open Wd Kd
theorem JU {n : Nat} (h : wh n <= 3000) : n <= 3000 := by unfold wh at h; omega
theorem DP {m : Mp} {A : Oa} {cap : Nat} {cards : List yv} (hc : ue m A cards.length cards) :
  CS Tryz.prog 8 [.slice A cards.length cap] m [] (fun v L' => L' = [] /\ ∃ r, v = .bool r /\ (r = false -> cards.length <= 250 /\ ∀ (i : Nat) (h : i < cards.length), cards[i].name.length <= 2000 /\ un cards[i] <= 3999)) := by
 obtain ⟨-, hml, vs, hrd, hvl, hel⟩ := hc;unfold maxLen at hml;refine zM [.tmp 2] Tryz.func8 rfl rfl rfl ?_;refine tr 19 ?_
 refine zN (α := Nat × Int) (fun y => [(0, .slice A cards.length cap), (3, .int .i64 y.2), (6, .int .i64 (cards.length : Nat)), (7, .int .i64 (y.1 : Nat))]) (fun _ => []) (fun y => y.1 <= cards.length /\ 0 <= y.2 /\ y.2 <= 3000 /\ ∀ (j : Nat) (h : j < cards.length), j < y.1 -> cards[j].name.length <= 2000 /\ un cards[j] <= 3999) (fun y => cards.length - y.1) (0, 0) eV zu ⟨Nat.zero_le _, by decide, by decide, fun _ _ h => by cases h⟩ ?_
 rintro ⟨i, z⟩ ⟨hi, hz0, hz1, hdone⟩;dsimp only at hi hz0 hz1 hdone;dsimp only;by_cases hlt : i < cards.length
 rotate_left
 ·by_cases h250 : cards.length <= 250
  ·refine tr 2 ?_;refine ym 6 ?_;refine zh ?_;refine zf ?_;refine qt 5 ?_;refine ym 4 ?_;exact xi zX ⟨rfl, _, rfl, fun _ => ⟨h250, fun j h => hdone j h ze⟩⟩
  ·refine tr 2 ?_;refine ym 6 ?_;refine zh ?_;refine zf ?_;refine qt 5 ?_;refine xI 4 ?_;exact xi zX ⟨rfl, true, rfl, fun h => (by cases h)⟩
 have hA : A.isSome = true := hrd.isSome ze;have hx := hel i hlt;have hat := hrd.elem (i * 12) 12
 have hnext : cards[i].name.length <= 2000 /\ un cards[i] <= 3999 -> ∀ (j : Nat) (h : j < cards.length), j < i + 1 -> cards[j].name.length <= 2000 /\ un cards[j] <= 3999 := fun h2 j h hj => by
  by_cases hji : j < i
  ·exact hdone j h hji
  ·obtain rfl : j = i := by omega
   exact h2
 generalize cards[i] = x at hx hnext;generalize (vs.drop (i * 12)).take 12 = cs at hx hat;have hx0 := hx;obtain ⟨PA, la, ca, PB, lb, cb, PD, ld, cd, rfl, hnl, -⟩ := hx;unfold maxLen at hnl;have hw := xW (un x);have hsm := @JU (un x);refine tr 2 ?_;refine xI 19 ?_;refine pe 0 (zx dd rfl rfl hA ze) ?_;refine La 0 eO hat ?_
 refine Cr cl29 rfl (fun m' hm he => (SE (hx0.mono hm))) ?_;rintro _ rfl;unfold iV;generalize wh (un x) = w at hw hsm;skip;refine Pa 0 ?_;have hout : ∀ r : Bool, (r = false -> cards.length <= 250 /\ ∀ (i : Nat) (h : i < cards.length), cards[i].name.length <= 2000 /\ un cards[i] <= 3999) -> True := fun _ _ => trivial;by_cases h3 : z + w <= 3000
 rotate_left
 ·refine vr 6 ?_;refine xI 29 ?_;refine zC ?_;refine zz ?_;refine zU ?_;exact xi zX ⟨rfl, true, rfl, fun h => (by cases h)⟩
 by_cases hn2 : x.name.length <= 2000
 rotate_left
 ·refine vr 6 ?_;refine ym 3 ?_;refine pe 1 (zx dd rfl rfl hA ze) ?_;refine Lo 0 ey rfl (hat.at_ rfl) ?_;refine pe 0 (uZ rfl Tn) ?_;refine xI 21 ?_;refine zC ?_;refine zz ?_;refine zU ?_;exact xi zX ⟨rfl, true, rfl, fun h => (by cases h)⟩
 have hgo := hnext ⟨hn2, by have := hsm ze; omega⟩;by_cases h60 : i <= 60
 ·refine vr 6 ?_;refine ym 3 ?_;refine pe 1 (zx dd rfl rfl hA ze) ?_;refine Lo 0 ey rfl (hat.at_ rfl) ?_;refine pe 0 (uZ rfl Tn) ?_;refine ym 3 ?_;refine ym 13 ?_;refine Pa 2 ?_;exact QR (i + 1, z + w) zu ⟨hlt, by dsimp only; omega, h3, hgo⟩ jw
 by_cases h240 : cards.length <= 240
 ·refine vr 6 ?_;refine ym 3 ?_;refine pe 1 (zx dd rfl rfl hA ze) ?_;refine Lo 0 ey rfl (hat.at_ rfl) ?_;refine pe 0 (uZ rfl Tn) ?_;refine ym 3 ?_;refine xI 3 ?_;refine xI 13 ?_;refine zC ?_;refine zz ?_;refine zU ?_;exact xi zX ⟨rfl, true, rfl, fun h => (by cases h)⟩
 ·refine vr 6 ?_;refine ym 3 ?_;refine pe 1 (zx dd rfl rfl hA ze) ?_;refine Lo 0 ey rfl (hat.at_ rfl) ?_;refine pe 0 (uZ rfl Tn) ?_;refine ym 3 ?_;refine xI 3 ?_;refine ym 9 ?_;refine Pa 2 ?_;exact QR (i + 1, z + w) zu ⟨hlt, by dsimp only; omega, h3, hgo⟩ jw
end
section
open Wd Tp Kd La
variable {m : Mp}
theorem DO {K F : Oa} {kc fc : Nat} {a : H8} (hC : ue m K a.cards.length a.cards) (hF : aw m F a.fmts) (hs : FmL a) (hn : ∀ f ∈ a.fmts, f.name.length <= 140737488355328) : CS Tryz.prog 4 [.agg (H7 K a.cards.length kc F a.fmts.length fc).toArray] m [] (fun v L' => L' = [] /\ ∃ r : Bool, v = .bool r /\ (r = false -> QD a)) := by
 obtain ⟨hlc, hlf, hfb⟩ := hs;skip;refine zM [.tmp 2] Tryz.func4 rfl rfl rfl ?_;refine tr 2 ?_;refine Bx 4 rfl fun b1 => ?_;refine bu .here (fun ns hi _ hd1 => ?_);have hR : Rd (VF m ns) (some ⟨b1, 0, none⟩) (H7 K a.cards.length kc F a.fmts.length fc) := (Rd.blk hi).mono (Lp hd1);have hl2 : Le m (VF m ns) := Lq _ _;clear hi hd1;generalize VF m ns = m9 at hR hl2
 have hc0 : mc m9 ⟨b1, 0, none⟩ = some (.slice K a.cards.length kc) := hR.at_ (i := 0) rfl;have hc1 : mc m9 ⟨b1, 1, none⟩ = some (.slice F a.fmts.length fc) := hR.at_ (i := 1) rfl;have hC := hC.mono hl2;obtain ⟨us, hrf, hul, hef⟩ := hF.mono hl2;refine tr 8 ?_;refine Lo 5 Pc rfl hc1 ?_
 refine zN (α := Nat × Int) (fun y => [(1, ptr b1), (3, .int .i64 y.2), (7, .int .i64 (a.fmts.length : Nat)), (8, .int .i64 (y.1 : Nat))]) (fun _ => []) (fun y => y.1 <= a.fmts.length) (fun y => a.fmts.length - y.1) (0, 0) ⟨rfl, rfl, rfl, rfl, trivial⟩ (zJ.nil _) (Nat.zero_le _) ?_;rintro ⟨i, z⟩ hi;dsimp only at hi;dsimp only;by_cases hlt : i < a.fmts.length
 ·have hA : F.isSome = true := hrf.isSome (by omega);have hat := hrf.elem (i * 7) 7;obtain ⟨q, e, -, -⟩ := hef i hlt;rw [e] at hat;obtain ⟨hlb, hls⟩ := hfb _ (List.getElem_mem hlt);have hc4 : mc m9 (((sa F).add (i * 7)).add 4) = some (.slice q.A a.fmts[i].banned.length q.ca) := hat 4 _ rfl;have hc5 : mc m9 (((sa F).add (i * 7)).add 5) = some (.slice q.B a.fmts[i].single.length q.cb) := hat 5 _ rfl
  refine tr 2 ?_;refine xI 14 ?_;refine Db (sq [0, 1, 2, 3, 4, 5, 6, 7, 8, 9, 10, 11, 12, 13, 14, 15, 16, 17, 18] .done) ?_;refine vB 2 ?_;refine Vr 1 rfl (zw Pc rfl hc1) ?_;refine Vb 1 rfl (zx EQ rfl rfl hA (by omega)) ?_;refine Vr 1 rfl (zw O8 rfl hc4) ?_;refine Vb 1 rfl (yp rfl rfl (qx (by omega) (by omega))) ?_;refine Vr 1 rfl (zw Pc rfl hc1) ?_
  refine Vb 1 rfl (zx EQ rfl rfl hA (by omega)) ?_;refine Vr 1 rfl (zw O8 rfl hc5) ?_;refine Vb 0 rfl (yp rfl rfl (qx (by omega) (by omega))) ?_;refine Vb 1 rfl ((yp rfl rfl rfl)) ?_;refine Vn 3 ?_;refine Pa 2 ?_;exact QR ((i + 1, _) : Nat × Int) (zJ.nil _) hlt (by dsimp only; omega)
 by_cases hz : z > 600
 ·refine tr 2 ?_;refine ym 6 ?_;refine zh ?_;refine zf ?_;refine qt 4 ?_;refine yy 9 ?_;exact rt2 hl2 ⟨rfl, trivial⟩ ⟨rfl, true, rfl, fun h => by cases h⟩
 ·refine tr 2 ?_;refine ym 6 ?_;refine zh ?_;refine zf ?_;refine qt 4 ?_;refine zA 2 ?_;refine Lo 0 QU rfl hc0 ?_;refine zg ((zr cl8 rfl (fun m' hm he => DP (hC.mono hm)) rfl ?_)) rfl;rintro _ _ ⟨rfl, r, rfl, hz⟩;refine vr 5 ?_
  exact rt2 hl2 ⟨rfl, trivial⟩ ⟨rfl, r, rfl, fun h => ⟨fun _ i hi => ⟨Nat.le_trans ((hz h).2 i hi).1 (by decide), ((hz h).2 i hi).2⟩, ⟨hlc, hlf, hfb⟩, hn⟩⟩
end
section
open Wd Tp Kd La Go.WideShapes
def Yb : OY := ⟨30, 3, 9, 257, 255, 260, 258, 262, 90⟩
def Yc : D3 := ⟨Yb, 4, 92, 22⟩
theorem zak : Yc.ok Tryz.prog = true := by kernel_rfl
theorem Pm {vs l : Lv} {o sz j : Nat} {u : Value} (h : (vs.drop o).take sz = l) (hu : l[j]? = some u) : vs[o + j]? = some u := by
 rw [<- h, List.getElem?_take] at hu
 split at hu
 ·rw [List.getElem?_drop] at hu; exact hu
 ·cases hu
section
variable {H : Type} {enc : TypeId × Value -> H} {w : World} {base : Nat} {spare : Nat -> Bool} {held : Bool} {fuel : Nat} {cs : Lv} {x : DataW H × List MemPlace}
theorem bj {t e sz xn : Nat} (ht : kr Tryz.prog t e = true) (hc : Tryz.prog.cellsOf e = sz) (hb : Tryz.prog.bytesOf e = xn) (h1 : 1 <= xn) (h : DataW.trod enc Tryz.prog w base spare held fuel t cs = some x) (hg : jI Tryz.prog w t x) :
  ∃ (A : Oa) (len cap : Nat) (vs : Lv) (n : Nat), cs = [.slice A len cap] /\ Rd (mp w.heap) A vs /\ vs.length = len * sz /\ len <= cap /\ len <= 140737488355328 /\ n <= fuel /\
   ∀ i, i < len -> ∃ y, DataW.trod enc Tryz.prog w base spare held n e ((vs.drop (i * sz)).take sz) = some y /\ jI Tryz.prog w e y := by
 obtain ⟨A, len, cap, vs, n, rfl, hA, hbl, hw, hl, hn, hel⟩ := HH ht hc hb h hg;obtain ⟨A', len', cap', vs', n', e', -, -, hcap, -⟩ := qi ht hc h
 simp at e'
 obtain ⟨rfl, rfl, rfl⟩ := e';refine ⟨A, len, cap, vs, n, rfl, fun i u hi => ⟨hA ?_, (hw i u hi).1⟩, hl, hcap, ?_, hn, hel⟩
 ·have h3 := (List.getElem?_eq_some_iff.1 hi).1;rw [hl] at h3;rcases Nat.eq_zero_or_pos len with h4 | h4
  ·rw [h4, Nat.zero_mul] at h3; omega
  ·exact h4
 ·unfold reachBytes at hbl;have h5 : len * 1 <= len * xn := Nat.mul_le_mul_left len h1;omega
theorem VL (h : DataW.trod enc Tryz.prog w base spare held fuel 46 cs = some x) (hg : jI Tryz.prog w 46 x) : ∃ (A : Oa) (c : Nat) (xs : List Bt), cs = [.slice A xs.length c] /\ DH (mp w.heap) A c xs /\ xs.length <= 140737488355328 /\ ∀ s ∈ xs, s.length <= 140737488355328 := by
 obtain ⟨A, len, cap, vs, n, rfl, hrd, hl, hcap, hlen, _, hel⟩ := bj (e := 9) (sz := 1) (by kernel_rfl) (by kernel_rfl) rfl (Nat.le_of_ble_eq_true (by kernel_rfl)) h hg
 obtain ⟨xs, hxl, hx⟩ := xf (n := len) (p := fun i (b : Bt) => vs[i]? = some (Yp b) /\ b.length <= 140737488355328) (fun i hi => by
  obtain ⟨y, hy, hgy⟩ := hel i hi;obtain ⟨n, e, hlen⟩ := Kt (by kernel_rfl) hy hgy;refine ⟨n, ?_, hlen⟩;have := Pm (j := 0) e rfl;rw [Nat.mul_one, Nat.add_zero] at this
  exact this)
 subst hxl;refine ⟨A, cap, xs, rfl, ⟨fun i u hi => ?_, hcap⟩, hlen, fun s hs => by obtain ⟨i, hi, rfl⟩ := List.getElem_of_mem hs; exact (hx i hi).2⟩;rw [List.getElem?_map] at hi;cases hq : xs[i]? with
 | none => rw [hq] at hi; cases hi
 | some q =>
   rw [hq] at hi;obtain ⟨hlt, rfl⟩ := List.getElem?_eq_some_iff.1 hq;cases hi;exact hrd i _ (hx i hlt).1
theorem RM (h : DataW.trod enc Tryz.prog w base spare held fuel 48 cs = some x) (hg : jI Tryz.prog w 48 x) : ∃ T : dn, HZ (mp w.heap) cs T /\ (T.banned.length <= 140737488355328 /\ T.single.length <= 140737488355328) /\ T.name.length <= 140737488355328 := by
 obtain ⟨_, _, rfl, hl, r0, g0⟩ := qH (i := 0) (zT (ft := 9) (off := 0) (by kernel_rfl)) h hg;obtain ⟨_, _, _, _, r1, _⟩ := qH (i := 1) (zT (ft := 3) (off := 1) (by kernel_rfl)) h hg;obtain ⟨_, _, _, _, r2, _⟩ := qH (i := 2) (zT (ft := 3) (off := 2) (by kernel_rfl)) h hg
 obtain ⟨_, _, _, _, r3, _⟩ := qH (i := 3) (zT (ft := 3) (off := 3) (by kernel_rfl)) h hg;obtain ⟨_, _, _, _, r4, g4⟩ := qH (i := 4) (zT (ft := 46) (off := 4) (by kernel_rfl)) h hg;obtain ⟨_, _, _, _, r5, g5⟩ := qH (i := 5) (zT (ft := 46) (off := 5) (by kernel_rfl)) h hg
 obtain ⟨_, _, _, _, r6, _⟩ := qH (i := 6) (zT (ft := 3) (off := 6) (by kernel_rfl)) h hg;rw [show Tryz.prog.cellsOf 48 = 7 by kernel_rfl] at hl;rw [show Tryz.prog.cellsOf 9 = 1 by kernel_rfl] at r0;rw [show Tryz.prog.cellsOf 3 = 1 by kernel_rfl] at r1 r2 r3 r6;rw [show Tryz.prog.cellsOf 46 = 1 by kernel_rfl] at r4 r5
 match cs, hl with
 | [c0, c1, c2, c3, c4, c5, c6], _ =>
   obtain ⟨name, q0, w0⟩ := Kt (by kernel_rfl) r0 g0;obtain ⟨i1, q1, _⟩ := wZ (k := .i64) (by kernel_rfl) r1;obtain ⟨i2, q2, _⟩ := wZ (k := .i64) (by kernel_rfl) r2;obtain ⟨i3, q3, _⟩ := wZ (k := .i64) (by kernel_rfl) r3;obtain ⟨A, ca, e4, q4, k4, n4, s4⟩ := VL r4 g4;obtain ⟨B, cb, e5, q5, k5, n5, s5⟩ := VL r5 g5
   obtain ⟨i6, q6, _⟩ := wZ (k := .i64) (by kernel_rfl) r6
   simp at q0 q1 q2 q3 q4 q5 q6
   subst q0 q1 q2 q3 q4 q5 q6;exact ⟨⟨name, i1, i2, i3, e4, e5, i6⟩, ⟨⟨A, ca, B, cb⟩, rfl, k4, k5⟩, ⟨n4, n5⟩, w0⟩
theorem NZ {A : Oa} {l : List yv} {m : Mp} (h : ue m A l.length l) : jR m A l := by
 obtain ⟨-, -, vs, h1, h2, h3⟩ := h;exact ⟨vs, h1, h2, fun i hi => uO.xx (h3 i hi)⟩
theorem N2 (h : DataW.trod enc Tryz.prog w base spare held fuel 25 cs = some x) (hg : jI Tryz.prog w 25 x) : ∃ (b : H8) (K : Oa) (kc : Nat) (F : Oa) (fc : Nat), cs = H7 K b.cards.length kc F b.fmts.length fc /\ ue (mp w.heap) K b.cards.length b.cards /\ aw (mp w.heap) F b.fmts /\ FmL b /\ ∀ f ∈ b.fmts, f.name.length <= 140737488355328 := by
 obtain ⟨_, y0, rfl, hlen, r0, g0⟩ := qH (i := 0) (zT (ft := 22) (off := 0) (by kernel_rfl)) h hg;obtain ⟨_, y1, _, _, r1, g1⟩ := qH (i := 1) (zT (ft := 23) (off := 1) (by kernel_rfl)) h hg;rw [show Tryz.prog.cellsOf 25 = 2 by kernel_rfl] at hlen;rw [show Tryz.prog.cellsOf 22 = 1 by kernel_rfl] at r0;rw [show Tryz.prog.cellsOf 23 = 1 by kernel_rfl] at r1
 match cs, hlen with
 | [c0, c1], _ =>
   obtain ⟨K, la, kc, vs, m3, q0, ha1, ha2, ha3, ha4, ha5, ha6⟩ := bj (e := 92) (sz := 12) (by kernel_rfl) (by kernel_rfl) rfl (Nat.le_of_ble_eq_true (by kernel_rfl)) r0 g0;obtain ⟨F, lb, fc, us, m4, q1, hb1, hb2, hb3, hb4, hb5, hb6⟩ := bj (e := 48) (sz := 7) (by kernel_rfl) (by kernel_rfl) rfl (Nat.le_of_ble_eq_true (by kernel_rfl)) r1 g1
   simp at q0 q1
   subst q0 q1;obtain ⟨cl, hcl, -⟩ := NY (c := Yc) zak r0;have hll : cl.length = la := hcl.1;subst hll
   obtain ⟨fl, hfl, hf⟩ := xf (p := fun i (T : dn) => HZ (mp w.heap) ((us.drop (i * 7)).take 7) T /\ (T.banned.length <= 140737488355328 /\ T.single.length <= 140737488355328) /\ T.name.length <= 140737488355328) (fun i hi => by
    obtain ⟨z, hz, hgz⟩ := hb6 i hi
    exact RM hz hgz)
   subst hfl;refine ⟨⟨cl, fl⟩, K, kc, F, fc, rfl, hcl, ⟨us, hb1, hb2, fun i hi => (hf i hi).1⟩, ⟨ha4, hb4, fun y hy => ?_⟩, fun y hy => ?_⟩
   ·obtain ⟨i, hi, rfl⟩ := List.getElem_of_mem hy;exact (hf i hi).2.1
   ·obtain ⟨i, hi, rfl⟩ := List.getElem_of_mem hy;exact (hf i hi).2.2
end
end
end Go.Proofs.YtijakengkacnlaaGreatDoor
