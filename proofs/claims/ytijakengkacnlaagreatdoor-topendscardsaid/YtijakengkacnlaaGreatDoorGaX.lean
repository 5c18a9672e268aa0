/- Parts of the proof: contracts of functions of the program, and plain lemmas. No condition. -/
import Derived.Test.YtijakengkacnlaaGreatDoorGaA
import Derived.Shelf.LaysM
import Derived.Shelf.Strings.SplitShaped
import Derived.Test.YtijakengkacnlaaGreatDoorProg
import Derived.Test.YtijakengkacnlaaGreatDoorEv43
import Derived.Below
import Derived.Test.YtijakengkacnlaaGreatDoorEng2
import Derived.Lib.Fields
import Derived.Test.YtijakengkacnlaaGreatDoorFacts
set_option linter.all false
set_option maxHeartbeats 64000000
set_option maxRecDepth 100000
namespace Go.Proofs.YtijakengkacnlaaGreatDoor
open Go.Eng
end Go.Proofs.YtijakengkacnlaaGreatDoor
namespace Go.Eng
open  Go.Eng
section
variable {P : Program} {n : Nat} {env : Env} {x lo hi : Operand} {t : TypeId} {dst : Option Tmp} {ty : TypeId} {pos : String} {aft : Array Edge} {gd : Option (Nat × Bool)} {k1 : IntKind} {sz : Nat}
variable {A : Oa} {c k : Nat}
theorem Oz {q r : Nat} (ht : de P t = some sz) (hx : ev env x = some (.slice A k c)) (h1 : ev env lo = some (.int k1 (q : Nat))) (he : k = q + r) : zP P n ⟨dst, .slice t x (some lo) none none, ty, pos, aft, gd⟩ env (.slice (xL A q c sz) r (c - q)) := by
 have := X1 (P := P) (n := n) (dst := dst) (ty := ty) (pos := pos) (aft := aft) (gd := gd) q ht hx h1 rfl (by omega);rwa [show k - q = r by omega] at this
theorem zJ.trans {L1 L2 L3 : List ya} (h1 : zJ L1 L2) (h2 : zJ L2 L3) : zJ L1 L3 := fun m h hs => h2 m h (h1 m h hs)
theorem zJ.cutOwn {e l j : Nat} {xs ys : Lv} {r : List ya} (h1 : l + j <= k) (h2 : l + j <= c) (he : (xs.drop (l * sz)).take (j * sz) = ys) : zJ (own e sz A k c xs :: r) (own e sz (xL A l c sz) j (c - l) ys :: r) := fun m h hs =>
 he ▸ hs.upd (fun _ _ _ => rfl) (Own.cut hs.head h1 h2 (Nat.le_refl _)) fun i hi => .inl (by
  show qG A i = true;have hi' : qG (xL A l c sz) i = true := hi;unfold xL at hi'
  split at hi'
  ·exact hi'
  ·cases A with
   | none => exact hi'
   | some a =>
     have e : (a.add (l * sz)).block = a.block := by unfold Addr.add; split <;> rfl
     simpa [qG, jO, e] using hi')
end
end Go.Eng
namespace Go.Proofs.YtijakengkacnlaaGreatDoor
open  Go.Eng
section
variable {m : Mp}
variable {hd tl : List Int}
theorem gu.head {A : Oa} {c : Nat} (h : gu m ⟨A, c, hd ++ tl⟩) : gu m ⟨xL A 0 c 1, c, hd⟩ := by
 obtain ⟨h1, h2, h3⟩ := h;dsimp only at h1 h2 h3;rw [List.length_append] at h2;refine ⟨?_, by dsimp only; omega, fun h => h3 ?_⟩
 ·have := h1.cut (l := 0) (mm := c) (sz := 1) hd.length (by omega);dsimp only [Sl.vs] at this ⊢;rwa [Nat.zero_mul, Nat.mul_one, List.drop_zero, List.map_append, List.take_left' (by simp)] at this
 ·unfold xL at h
  split at h
  ·exact h
  ·cases A with
   | none => rfl
   | some a => cases h
theorem Ks (hd tl : List Int) : (((hd ++ tl).map zV).drop (hd.length * 1)).take (tl.length * 1) = tl.map zV := by
 rw [Nat.mul_one, Nat.mul_one, List.map_append, List.drop_left' (by simp), List.take_of_length_le (by simp)]
variable {nk : Nat}
theorem GI {xs : List Int} (h : xs.any (gT nk) = false) : ∀ x ∈ xs, 0 <= x /\ x < (nk : Nat) := fun x hx => by
 have h1 : gT nk x = false := by
  cases hb : gT nk x with
  | false => rfl
  | true => rw [List.any_eq_true.2 ⟨x, hx, hb⟩] at h; cases h
 unfold gT at h1;simp only [Bool.or_eq_false_iff, decide_eq_false_iff_not] at h1;omega
variable {F K : Oa} {d0 d1 : Sl} {fc kc nf : Nat}
theorem OE (hC : ∀ m', Le m m' -> CS Tryz.prog 16 [.agg (vg K nk kc F nf fc).toArray] m' [] (fun v L' => (∃ e a : Int, e ≠ 0 /\ v = .agg #[zV e, zV a]) /\ L' = [])) :
  CS Tryz.prog 6 [.agg (vg K nk kc F nf fc).toArray, .agg [d0.v, d1.v].toArray, xK] m [] (fun v L' => (∃ e' : Int, e' ≠ 0 /\ v = .tuple #[.agg z36.toArray, xK, zV e']) /\ L' = []) := by
 refine zM [.cell 6 36, .tmp 7, .tmp 8] Tryz.func6 rfl rfl rfl ?_;refine tr 2 ?_;refine Bx 0 rfl fun b1 => ?_;refine Bx 0 rfl fun b2 => ?_;refine Al 7 qX fun b3 => ?_;refine Lc 0 gt .h2 ?_;refine zg ((zr E3 rfl (fun m' hm _ => hC m' hm) rfl ?_)) rfl;rintro _ _ ⟨⟨e, a, he, rfl⟩, rfl⟩;refine pe 0 (Ye JK JH JI rfl rfl) ?_;refine yy 5 ?_
 refine pe 0 (zW qX FY rfl rfl) ?_;refine Sg 6 yn .here ?_;exact zB [_, _, _] ⟨⟨b3, _, _, _, rfl, .here, .inr ⟨yn, rfl⟩⟩, rfl, rfl, trivial⟩ [] (.nil _) ⟨⟨170, by decide, rfl⟩, rfl⟩
abbrev zSd : Sd := ⟨0, 0, 0, nilL, nilL, nilL, nilL⟩
structure ei (nk : Nat) (d : Sl) (x : Sd) : Prop where
 p : Vd nk 0 4 x.n
 l : x.life = 20
 k : x.deck.xs.length <= d.xs.length
theorem Ts {d D w1 w2 : Sl} (hD : D.xs = tl) (h1 : w1.xs = hd) (h2 : w2.xs = hd) (hh : hd.length <= 4) (hx : (hd ++ tl).length = d.xs.length) (hm : ∀ x ∈ hd ++ tl, x ∈ d.xs) (hr : ∀ x ∈ d.xs, 0 <= x /\ x < (nk : Nat)) (l : d.xs.length <= 60) : ei nk d ⟨20, 0, 0, D, w1, nilL, w2⟩ := by
 rw [List.length_append] at hx;have q1 : ∀ x ∈ hd, 0 <= x /\ x < (nk : Nat) := fun x h => hr x (hm x (List.mem_append_left _ h));have q2 : ∀ x ∈ tl, 0 <= x /\ x < (nk : Nat) := fun x h => hr x (hm x (List.mem_append_right _ h))
 refine ⟨⟨(by decide : (-1000000 : Int) <= 20), (by decide : (20 : Int) <= 1000000), Int.le_refl 0, (by decide : (0 : Int) <= 1000000), Int.le_refl 0, (by decide : (0 : Int) <= 10), ?_, ?_, (fun x h => by cases h), ?_, ?_, ?_, Nat.zero_le _, ?_⟩, rfl, ?_⟩
 ·show ∀ x ∈ D.xs, _; rw [hD]; exact q2
 ·show ∀ x ∈ w1.xs, _; rw [h1]; exact q1
 ·show ∀ x ∈ w2.xs, _; rw [h2]; exact q1
 ·show D.xs.length <= 60; rw [hD]; omega
 ·show w1.xs.length <= 10; rw [h1]; omega
 ·show w2.xs.length <= 4; rw [h2]; omega
 ·show D.xs.length <= d.xs.length; rw [hD]; omega
theorem New6 (hC : vR m (vg K nk kc F nf fc)) (h0 : gu m d0) (h1 : gu m d1) (l0 : d0.xs.length <= 60) (l1 : d1.xs.length <= 60) :
  CS Tryz.prog 6 [.agg (vg K nk kc F nf fc).toArray, .agg [d0.v, d1.v].toArray, xK] m [] (fun v L' => ((∃ e' : Int, e' ≠ 0 /\ v = .tuple #[.agg z36.toArray, xK, zV e']) /\ L' = []) \/
   ∃ (h : Gs) (A : Oa) (n c : Nat) (x y : Sd), v = .tuple #[.agg h.v.toArray, .slice A n c, zV 0] /\ ei nk d0 x /\ ei nk d1 y /\ h.n = qy ⟨1, 0, 0, 0, x.n, y.n⟩ /\ L' = h.owns) := by
 skip;refine zM [.cell 6 36, .tmp 7, .tmp 8] Tryz.func6 rfl rfl rfl ?_;refine tr 2 ?_;refine Bx 0 rfl fun b1 => ?_;refine Bx 0 rfl fun b2 => ?_;refine Al 7 qX fun b3 => ?_;refine Lc 0 gt .h2 ?_;refine zg ((zr E3 rfl (fun m' hm _ => hC m' hm) rfl ?_)) rfl;rintro _ _ ⟨⟨a, rfl⟩, rfl⟩;refine pe 0 (Ye JK JH JI rfl rfl) ?_;refine ym 8 ?_;refine Lc 4 Dz .h1 ?_
 refine zN (α := Nat) (fun i => [(2, xK), (3, .pointer (some ⟨b1, 0, none⟩)), (4, .pointer (some ⟨b2, 0, none⟩)), (6, .pointer (some ⟨b3, 0, none⟩)), (24, .agg [d0.v, d1.v].toArray), (25, .int .i64 (i : Nat))]) (fun _ => [cel b3 z36 36, cel b2 [d0.v, d1.v] 27, cel b1 (vg K nk kc F nf fc) 25]) (fun i => i <= 2 /\ (0 < i -> d0.xs.any (gT nk) = false) /\ (1 < i -> d1.xs.any (gT nk) = false)) (fun i => 2 - i) 0 ⟨rfl, rfl, rfl, rfl, rfl, rfl, trivial⟩ (zJ.refl _) ⟨by decide, fun h => absurd h (by decide), fun h => absurd h (by decide)⟩ ?_
 rintro i ⟨hi, q0, q1⟩;by_cases h2 : i < 2
 ·obtain ⟨d, hd, hr, hl, hq⟩ : ∃ d : Sl, [d0.v, d1.v][i]? = some d.v /\ gu m d /\ d.xs.length <= 60 /\ ((0 < i -> d0.xs.any (gT nk) = false) -> (1 < i -> d1.xs.any (gT nk) = false) -> d.xs.any (gT nk) = false -> (0 < i + 1 -> d0.xs.any (gT nk) = false) /\ (1 < i + 1 -> d1.xs.any (gT nk) = false)) := by
   match i, h2 with
   | 0, _ => exact ⟨d0, rfl, h0, l0, fun _ _ h => ⟨fun _ => h, fun h => absurd h (by decide)⟩⟩
   | 1, _ => exact ⟨d1, rfl, h1, l1, fun a _ h => ⟨fun _ => a (by decide), fun _ => h⟩⟩
  refine tr 2 ?_;refine xI 10 ?_;refine pe 7 ((yF (v := d.v) di N8 rfl rfl (by omega) (by omega) (by rw [Int.toNat_natCast, Nat.mul_one, <- vS]; exact hd))) ?_
  refine zg ((zr AF rfl (fun m' hm he => ge (s := d) (f := 18) (q := [.pointer (some ⟨b1, 0, none⟩)]) (gT nk) (hr.mono hm) (by omega) cl18 fun m2 hm2 x hx => AZ (yA hm2 (zy (he (cel b1 (vg K nk kc F nf fc) 25) (.tail _ (.tail _ (.head _)))) rfl))) rfl ?_)) rfl;rintro _ _ ⟨rfl, rfl⟩;cases hb : d.xs.any (gT nk) with
  | true =>
    refine vr 5 ?_;refine pe 0 (zW qX FY rfl rfl) ?_;refine Sg 7 yn .here ?_;refine zC ?_;refine zz ?_;refine zU ?_;exact zB [_, _, _] ⟨⟨b3, _, _, _, rfl, .here, .inr ⟨yn, rfl⟩⟩, rfl, rfl, trivial⟩ [] (.nil _) (.inl ⟨⟨2, by decide, rfl⟩, rfl⟩)
  | false =>
    refine vr 7 ?_;refine Pa 2 ?_;exact QR (i + 1) (zJ.refl _) ⟨h2, hq q0 q1 hb⟩ (by omega)
 ·obtain rfl : i = 2 := by omega
  have r0 := GI (q0 (by decide));have r1 := GI (q1 (by decide));refine tr 2 ?_;refine ym 6 ?_;refine zh ?_;refine zf ?_;refine qt 4 ?_;refine pe 0 ((zR (i := 0) di rfl rfl (by decide))) ?_;refine Lb 1 wg .h1 ?_;refine pe 0 ((zR (i := 1) di rfl rfl (by decide))) ?_;refine Lb 1 wg .h1 ?_;refine pe 0 (Kg rfl rfl) ?_;refine ym 3 ?_
  refine ym 8 ?_;refine pe 0 (zW qX FY rfl rfl) ?_;refine Al 0 qX fun b4 => ?_;refine Sg 10 yn .here ?_;refine Lc 4 Dz .h2 ?_
  refine zN (α := Cp3) (fun y => match y with
    | .a => [(2, xK), (3, .pointer (some ⟨b1, 0, none⟩)), (6, .pointer (some ⟨b3, 0, none⟩)), (11, .pointer (some ⟨b4, 0, none⟩)), (12, zV 0), (48, .agg [d0.v, d1.v].toArray), (49, zV 0)]
    | .b _ => [(2, xK), (3, .pointer (some ⟨b1, 0, none⟩)), (6, .pointer (some ⟨b3, 0, none⟩)), (11, .pointer (some ⟨b4, 0, none⟩)), (12, zV 0), (48, .agg [d0.v, d1.v].toArray), (49, zV 1)]
    | .c _ _ => [(2, xK), (3, .pointer (some ⟨b1, 0, none⟩)), (6, .pointer (some ⟨b3, 0, none⟩)), (11, .pointer (some ⟨b4, 0, none⟩)), (12, zV 0), (48, .agg [d0.v, d1.v].toArray), (49, zV 2)])
   (fun y => match y with
    | .a => [cel b4 (Gs.v ⟨1, 0, 0, 0, zSd, zSd⟩) 36, cel b3 z36 36, cel b1 (vg K nk kc F nf fc) 25]
    | .b x => x.owns ++ [cel b4 (Gs.v ⟨1, 0, 0, 0, x, zSd⟩) 36, cel b3 z36 36, cel b1 (vg K nk kc F nf fc) 25]
    | .c x y => y.owns ++ x.owns ++ [cel b4 (Gs.v ⟨1, 0, 0, 0, x, y⟩) 36, cel b3 z36 36, cel b1 (vg K nk kc F nf fc) 25])
   (fun y => match y with
    | .a => True
    | .b x => ei nk d0 x
    | .c x y => ei nk d0 x /\ ei nk d1 y) (fun y => match y with
    | .a => 2
    | .b _ => 1
    | .c _ _ => 0) .a ⟨rfl, rfl, rfl, rfl, rfl, rfl, rfl, trivial⟩ (.cons .here (.cons .here .p1)) trivial ?_
  rintro (_ | x | ⟨x, y⟩) hF
  ·refine uY 3 1 ?_;dsimp only [Gs.v, Sl.v, Sd.owns, List.cons_append, List.nil_append];refine tr 2 ?_;refine xI 11 ?_;refine pe 9 ((yF (v := d0.v) di N8 rfl rfl (by decide) (by decide) rfl)) ?_;refine zg ((zr Ay rfl (fun m' hm he => XY (s := d0) (h0.mono hm) (by omega)) rfl ?_)) rfl;rintro _ _ ⟨⟨A, c, xs⟩, rfl, hxl, hxm, rfl⟩;dsimp only at hxl hxm
   obtain ⟨hd, tl, rfl, hh⟩ : ∃ hd tl, xs = hd ++ tl /\ hd.length = min 4 xs.length := ⟨xs.take 4, xs.drop 4, (List.take_append_drop ..).symm, List.length_take⟩;refine dD (fun h hs => (show Go.Eng.Own _ 3 1 A (hd ++ tl).length c _ from hs.get .here).2.1) (fun hcc => ?_);have hcl : (hd ++ tl).length = hd.length + tl.length := List.length_append;dsimp only [Sl.v, Sl.own, Sl.vs];refine vr 11 ?_
   refine pe 0 (dH rfl rfl) ?_;rw [<- hh];refine vr 3 ?_;refine Db (sq [0, 1, 2, 3, 4, 5, 6, 8, 9, 10, 13, 107, 111, 12, 14, 115] .done) ?_;refine vB 3 ?_;refine Vb 2 rfl ((Oz (q := hd.length) (r := tl.length) ac rfl rfl hcl)) ?_;refine Vb 2 rfl ((fJ hd.length ac rfl rfl rfl (by omega))) ?_;refine Vb 1 rfl (fJ _ ac rfl rfl rfl (by omega)) ?_
   refine zO rfl ((zr ah rfl (fun m' hm he => vz (s := ⟨xL A 0 c 1, c, hd⟩) (gu.head (tl := tl) (Own.rdI (s := ⟨A, c, hd ++ tl⟩) (he (own 3 1 A (hd ++ tl).length c ((hd ++ tl).map zV)) (.head _)))) (by dsimp only; omega)) rfl ?_)) rfl;rintro _ _ ⟨w1, rfl, hw1, rfl⟩;skip
   refine zO rfl ((zr ah rfl (fun m' hm he => vz (s := ⟨xL A 0 c 1, c, hd⟩) (gu.head (tl := tl) (Own.rdI (s := ⟨A, c, hd ++ tl⟩) (he (own 3 1 A (hd ++ tl).length c ((hd ++ tl).map zV)) (.tail _ (.head _))))) (by dsimp only; omega)) rfl ?_)) rfl;rintro _ _ ⟨w2, rfl, hw2, rfl⟩;refine Vb 0 rfl (zW Cb C2 rfl rfl) ?_
   refine Vb 0 rfl ((zR (i := 0) vO rfl rfl (by decide))) ?_;refine zO rfl (jG zag rfl rfl rfl .h4 (.there (.there (.there (.there (.there (.there (.there (.cons (.cons (.cons (.cons (.cons (.cons (.cons (.cons .nil))))))))))))))) rfl ?_) rfl;refine Vn 3 ?_;refine Pa 2 ?_
   exact QR (Cp3.b ⟨20, 0, 0, ⟨xL A hd.length c 1, c - hd.length, tl⟩, w1, nilL, w2⟩) ((zJ.cons .h2 (.cons .here (.cons .h1 (zJ.refl _)))).trans ((zJ.cutOwn (l := hd.length) (j := tl.length) (ys := tl.map zV) (by omega) (by omega) (Ks hd tl)).trans (.cons .h1 (.cons .h1 (.cons .h1 (zJ.refl _)))))) (Ts (hd := hd) (tl := tl) rfl hw1 hw2 (by omega) hxl hxm r0 l0) (Nat.le_refl _)
  ·refine uY 3 1 ?_;dsimp only [Gs.v, Sl.v, Sd.owns, List.cons_append, List.nil_append];refine tr 2 ?_;refine xI 11 ?_;refine pe 9 ((yF (v := d1.v) di N8 rfl rfl (by decide) (by decide) rfl)) ?_;refine zg ((zr Ay rfl (fun m' hm he => XY (s := d1) (h1.mono hm) (by omega)) rfl ?_)) rfl;rintro _ _ ⟨⟨A, c, xs⟩, rfl, hxl, hxm, rfl⟩;dsimp only at hxl hxm
   obtain ⟨hd, tl, rfl, hh⟩ : ∃ hd tl, xs = hd ++ tl /\ hd.length = min 4 xs.length := ⟨xs.take 4, xs.drop 4, (List.take_append_drop ..).symm, List.length_take⟩;refine dD (fun h hs => (show Go.Eng.Own _ 3 1 A (hd ++ tl).length c _ from hs.get .here).2.1) (fun hcc => ?_);have hcl : (hd ++ tl).length = hd.length + tl.length := List.length_append;dsimp only [Sl.v, Sl.own, Sl.vs];refine vr 11 ?_
   refine pe 0 (dH rfl rfl) ?_;rw [<- hh];refine vr 3 ?_;refine Db (sq [0, 1, 2, 3, 4, 5, 6, 8, 9, 10, 13, 107, 111, 12, 14, 115] .done) ?_;refine vB 3 ?_;refine Vb 2 rfl ((Oz (q := hd.length) (r := tl.length) ac rfl rfl hcl)) ?_;refine Vb 2 rfl ((fJ hd.length ac rfl rfl rfl (by omega))) ?_;refine Vb 1 rfl (fJ _ ac rfl rfl rfl (by omega)) ?_
   refine zO rfl ((zr ah rfl (fun m' hm he => vz (s := ⟨xL A 0 c 1, c, hd⟩) (gu.head (tl := tl) (Own.rdI (s := ⟨A, c, hd ++ tl⟩) (he (own 3 1 A (hd ++ tl).length c ((hd ++ tl).map zV)) (.head _)))) (by dsimp only; omega)) rfl ?_)) rfl;rintro _ _ ⟨w1, rfl, hw1, rfl⟩;skip
   refine zO rfl ((zr ah rfl (fun m' hm he => vz (s := ⟨xL A 0 c 1, c, hd⟩) (gu.head (tl := tl) (Own.rdI (s := ⟨A, c, hd ++ tl⟩) (he (own 3 1 A (hd ++ tl).length c ((hd ++ tl).map zV)) (.tail _ (.head _))))) (by dsimp only; omega)) rfl ?_)) rfl;rintro _ _ ⟨w2, rfl, hw2, rfl⟩;refine Vb 0 rfl (zW Cb C2 rfl rfl) ?_
   refine Vb 0 rfl ((zR (i := 1) vO rfl rfl (by decide))) ?_;refine zO rfl (jG zag rfl rfl rfl .h8 (.there (.there (.there (.there (.there (.there (.there (.there (.there (.there (.there (.there (.there (.there (.there (.cons (.cons (.cons (.cons (.cons (.cons (.cons (.cons .nil))))))))))))))))))))))) rfl ?_) rfl;refine Vn 3 ?_;refine Pa 2 ?_
   exact QR (Cp3.c x ⟨20, 0, 0, ⟨xL A hd.length c 1, c - hd.length, tl⟩, w1, nilL, w2⟩) ((zJ.cons .h2 (.cons .here (.cons .h1 (zJ.refl _)))).trans ((zJ.cutOwn (l := hd.length) (j := tl.length) (ys := tl.map zV) (by omega) (by omega) (Ks hd tl)).trans (.cons .h1 (.cons .h1 (.cons .h1 (zJ.refl _)))))) ⟨hF, Ts (hd := hd) (tl := tl) rfl hw1 hw2 (by omega) hxl hxm r1 l1⟩ (Nat.le_refl _)
  ·obtain ⟨hx, hy⟩ := hF;dsimp only;refine tr 2 ?_;refine ym 6 ?_;refine zh ?_;refine zf ?_;refine qt 2 ?_;refine wH (L2 := [cel b4 (Gs.v ⟨1, 0, 0, 0, x, y⟩) 36, cel b3 z36 36]) (.cons .h8 .k8) (fun m' hm he => ?_);have k1 : At m' ⟨b1, 0, none⟩ (vg K nk kc F nf fc) := At.blk (he (cel b1 (vg K nk kc F nf fc) 25) (by simp))
   have ha : vH m' x := aH (fun e h => he e (List.mem_append_left [_] (List.mem_append_right y.owns h))) hx.p.l1 hx.p.l2 (Nat.le_trans hx.p.l3 (by decide)) (Nat.le_trans hx.p.l4 (by decide));have hb : vH m' y := aH (fun e h => he e (List.mem_append_left [_] (List.mem_append_left x.owns h))) hy.p.l1 hy.p.l2 (Nat.le_trans hy.p.l3 (by decide)) (Nat.le_trans hy.p.l4 (by decide))
   refine tr 1 ?_;refine La 0 gt k1 ?_;refine Lc 0 yn .here ?_;have hgo : qj nk ⟨1, 0, 0, 0, x, y⟩ := ⟨(by decide : (1 : Int) <= 1), (by decide : (1 : Int) <= 4096), .inl rfl, rfl, rfl, hx.p.ok, hy.p.ok⟩
   refine zg ((zr E2 rfl (fun m2 hm2 _ => Kl (g := ⟨1, 0, 0, 0, x, y⟩) (hC.mono (hm.trans hm2)) (ha.mono hm2) (hb.mono hm2) hgo ⟨by rw [hx.l]; decide, by rw [hy.l]; decide⟩ ⟨Nat.le_trans hx.p.l4 (by decide), Nat.le_trans hy.p.l4 (by decide)⟩ ⟨Nat.le_trans hx.p.l3 (by decide), Nat.le_trans hy.p.l3 (by decide)⟩) rfl ?_)) rfl;rintro _ _ ⟨w, A, n, c, es, rfl, hw, hel, he1, hn, rfl⟩
   refine vr 5 ?_;refine Sg 9 yn .h9 ?_;refine ym 7 ?_;refine Lc 1 yn .h9 ?_;refine Sg 5 yn .h10 ?_;exact wJ hm [_, _, _] ⟨⟨b3, _, _, _, rfl, .h10, .inr ⟨yn, rfl⟩⟩, rfl, rfl, trivial⟩ w.owns (.cons .h1 (.cons .h1 (.cons .h1 (.cons .h1 (.cons .h1 (.cons .h1 (.cons .h1 .p1))))))) (.inr ⟨w, A, n, c, x, y, rfl, hx, hy, hw, rfl⟩)
end
section
def eP.left (d : eP) : Int := d.deck.length + d.life
def bX.left (g : bX) : Int := g.a.left + g.b.left
variable {nk G T : Nat}
theorem ZO (d : eP) : (xR d).1.left = d.left - 1 := by
 obtain ⟨li, ma, mo, deck, hand, grav, told⟩ := d;cases deck with
 | nil => simp only [xR, eP.left]; omega
 | cons x xs =>
   unfold xR;dsimp only
   split <;> simp only [eP.left, List.length_cons] <;> omega
theorem Q7 (g : bX) : (vn g).left = g.left := by unfold vn; split <;> rfl
theorem HC (g : bX) (p : Nat) : (vq g p).left = g.left - 1 := by
 unfold vq
 split
 ·show (xR g.a).1.left + (g.b.tell (xR g.a).2).left = g.a.left + g.b.left - 1;rw [ZO, show (g.b.tell (xR g.a).2).left = g.b.left from rfl]; omega
 ·show (g.a.tell (xR g.b).2).left + (xR g.b).1.left = g.a.left + g.b.left - 1;rw [ZO, show (g.a.tell (xR g.b).2).left = g.a.left from rfl]; omega
variable {d : eP}
theorem ZN (h : 1 <= d.life) : 0 <= (xR d).1.life := by
 obtain ⟨li, ma, mo, deck, hand, grav, told⟩ := d;dsimp only at h;cases deck with
 | nil => simp only [xR]; omega
 | cons x xs =>
   unfold xR;dsimp only
   split <;> dsimp only <;> omega
variable {g : bX}
theorem Hz {p : Nat} (h : 1 <= g.a.life /\ 1 <= g.b.life) : 0 <= (vq g p).a.life /\ 0 <= (vq g p).b.life := by
 unfold vq
 split
 ·exact ⟨ZN h.1, Int.le_trans (by decide) h.2⟩
 ·exact ⟨Int.le_trans (by decide) h.1, ZN h.2⟩
theorem d7 (g : bX) : (vn g).a.life = g.a.life /\ (vn g).b.life = g.b.life := by unfold vn; split <;> exact ⟨rfl, rfl⟩
theorem Q6 (g : bX) : (vn g).turn = g.turn := by unfold vn; split <;> rfl
theorem Hy (g : bX) (p : Nat) : (vq g p).turn = g.turn := by unfold vq; split <;> rfl
theorem bP (h : 0 <= g.a.life /\ 0 <= g.b.life) : 0 <= g.left := by unfold bX.left eP.left; omega
structure Run (nk G T : Nat) (g : bX) : Prop where
 p : GT nk G T g
 l : 1 <= g.a.life /\ 1 <= g.b.life
structure Ovr (g : bX) : Prop where
 ph : g.ph = 2
 res : g.res ≠ 0
 l : 0 <= g.left
theorem Vd.mono {G' T' : Nat} (h : Vd nk G T d) (hG : G <= G') (hT : T <= T') : Vd nk G' T' d :=
 ⟨h.life1, h.life2, h.mana0, h.mana2, h.most0, h.most2, h.deck, h.hand, h.grav, h.told, h.l1, h.l2, Nat.le_trans h.l3 hG, Nat.le_trans h.l4 hT⟩
theorem IY {a b : Int} (h : d5 a b = 0) : 1 <= a /\ 1 <= b := by
 unfold d5 at h;by_cases ha : a <= 0
 ·rw [if_pos ha] at h
  split at h <;> exact absurd h (by decide)
 ·rw [if_neg ha] at h;by_cases hb : b <= 0
  ·rw [if_pos hb] at h; exact absurd h (by decide)
  ·omega
theorem U7 {g : bX} (h : GT nk G T g) (hl : 1 <= g.a.life /\ 1 <= g.b.life) : (Run nk (G + 1) (T + 1) (qy g) \/ Ovr (qy g)) /\ (qy g).left = g.left - 1 /\ (qy g).turn = g.turn := by
 have hl2 : 1 <= (vn g).a.life /\ 1 <= (vn g).b.life := by rw [(d7 g).1, (d7 g).2]; exact hl
 have hw := h.rdy.draw (p := g.mov.toNat) hl2;have hlw := Hz (p := g.mov.toNat) hl2;have e1 : (vq (vn g) g.mov.toNat).left = g.left - 1 := by rw [HC, Q7]
 have e2 : (vq (vn g) g.mov.toNat).turn = g.turn := by rw [Hy, Q6]
 unfold qy;generalize vq (vn g) g.mov.toNat = w at *;unfold KE;by_cases hr : d5 w.a.life w.b.life = 0
 ·rw [if_pos hr];exact ⟨.inl ⟨hw, IY hr⟩, e1, e2⟩
 ·rw [if_neg hr];exact ⟨.inr ⟨rfl, hr, bP (g := w) hlw⟩, e1, e2⟩
theorem Mz (h : Run nk G T g) (hu : g.turn <= 4000) : (Run nk (G + 1) 5 (Um g) \/ Ovr (Um g)) /\ (Um g).left = g.left - 1 /\ (Um g).turn = g.turn + 1 := by
 obtain ⟨⟨t1, t2, mv, ph, res, a, b⟩, l⟩ := h
 have hP : GT nk G 0 { g with turn := g.turn + 1, mov := 1 - g.mov, a := { g.a with told := [] }, b := { g.b with told := [] } } :=
  ⟨by dsimp only; omega, by dsimp only; omega, by dsimp only; omega, ph, res, ⟨a.life1, a.life2, a.mana0, a.mana2, a.most0, a.most2, a.deck, a.hand, a.grav, (fun x hx => by cases hx), a.l1, a.l2, a.l3, Nat.le_refl _⟩, ⟨b.life1, b.life2, b.mana0, b.mana2, b.most0, b.most2, b.deck, b.hand, b.grav, (fun x hx => by cases hx), b.l1, b.l2, b.l3, Nat.le_refl _⟩⟩
 obtain ⟨h1, h2, h3⟩ := U7 hP l;refine ⟨h1.imp (fun h => ⟨⟨h.p.t1, h.p.t2, h.p.mv, h.p.ph, h.p.res, h.p.a.mono (Nat.le_refl _) (by decide), h.p.b.mono (Nat.le_refl _) (by decide)⟩, h.l⟩) id, h2, h3⟩
theorem PV {x y : Sd} {d0 d1 : Sl} (hx : ei nk d0 x) (hy : ei nk d1 y) : (Run nk 1 5 (qy ⟨1, 0, 0, 0, x.n, y.n⟩) \/ Ovr (qy ⟨1, 0, 0, 0, x.n, y.n⟩)) /\ (qy ⟨1, 0, 0, 0, x.n, y.n⟩).left <= d0.xs.length + d1.xs.length + 39 /\ (qy ⟨1, 0, 0, 0, x.n, y.n⟩).turn = 1 := by
 obtain ⟨h1, h2, h3⟩ := U7 (nk := nk) (G := 0) (T := 4) (g := ⟨1, 0, 0, 0, x.n, y.n⟩) ⟨(by decide : (1 : Int) <= 1), (by decide : (1 : Int) <= 4096), .inl rfl, rfl, rfl, hx.p, hy.p⟩ ⟨by show 1 <= x.life; rw [hx.l]; decide, by show 1 <= y.life; rw [hy.l]; decide⟩;refine ⟨h1, ?_, h3⟩;rw [h2];show ((x.deck.xs.length : Int) + x.life) + ((y.deck.xs.length : Int) + y.life) - 1 <= _;have := hx.k
 have := hy.k;rw [hx.l, hy.l];omega
end
section
variable {m : Mp}
abbrev Oo (v : Value) (L' : List ya) : Prop := v = .bool true /\ L' = []
variable {nk : Nat}
theorem LW {G T : Nat} {d : Sd} {m' : Mp} (hp : Vd nk G T d.n) (hG : G <= 900) (hT : T <= 900) (h : ∀ e ∈ d.owns, e.inv m') : vH m' d :=
 aH h hp.l1 hp.l2 (Nat.le_trans hp.l3 (by omega)) (Nat.le_trans hp.l4 (by omega))
def S6 (m : Mp) (B : Lv) (nk : Nat) (d0 d1 : Sl) (v : Value) (L' : List ya) : Prop := ((∃ e' : Int, e' ≠ 0 /\ v = .tuple #[.agg z36.toArray, xK, zV e']) /\ L' = []) \/
 (vR m B /\ ∃ (h : Gs) (A : Oa) (n c : Nat) (x y : Sd), v = .tuple #[.agg h.v.toArray, .slice A n c, zV 0] /\ ei nk d0 x /\ ei nk d1 y /\ h.n = qy ⟨1, 0, 0, 0, x.n, y.n⟩ /\ L' = h.owns)
def OM (m : Mp) (B : Lv) : Prop := vR m B \/ ∀ m', Le m m' -> CS Tryz.prog 16 [.agg B.toArray] m' [] (fun v L' => (∃ e a : Int, e ≠ 0 /\ v = .agg #[zV e, zV a]) /\ L' = [])
variable {F K : Oa} {d0 d1 : Sl} {fc kc nf : Nat}
theorem PW {m0 : Mp} (hl : Le m0 m) (hC : OM m0 (vg K nk kc F nf fc)) (h0 : gu m d0) (h1 : gu m d1) (l0 : d0.xs.length <= 60) (l1 : d1.xs.length <= 60) :
  CS Tryz.prog 6 [.agg (vg K nk kc F nf fc).toArray, .agg [d0.v, d1.v].toArray, xK] m [] (S6 m0 (vg K nk kc F nf fc) nk d0 d1) := by
 rcases hC with hC | hC
 ·exact (New6 (vR.mono hC hl) h0 h1 l0 l1).mono fun v L' h => h.imp id fun h => ⟨hC, h⟩
 ·exact (OE fun m' h => hC m' (hl.trans h)).mono fun v L' h => .inl h
theorem Oq {SZ : Prop} (hG : ∀ m', Le m m' -> CS Tryz.prog 4 [.agg (vg K nk kc F nf fc).toArray] m' [] (fun v L' => L' = [] /\ ∃ r, v = .bool r /\ (r = false -> SZ))) (hK : SZ -> OM m (vg K nk kc F nf fc)) (hL : ∀ m', Le m m' -> CS Tryz.prog 5 [] m' [] Oo) (h0 : gu m d0) (h1 : gu m d1) :
  CS Tryz.prog 3 [.agg (vg K nk kc F nf fc).toArray, .agg [d0.v, d1.v].toArray] m [] Oo := by
 refine zM [.tmp 4] Tryz.func3 rfl rfl rfl ?_;refine tr 2 ?_;refine Bx 0 rfl fun b1 => ?_;refine Bx 6 rfl fun b2 => ?_;refine Lc 0 gt .h1 ?_;refine zg ((zr cl4 rfl (fun m' hm _ => hG m' hm) rfl ?_)) rfl;rintro _ _ ⟨rfl, r, rfl, hsz⟩;cases r with
 | true =>
   refine vr 17 ?_;refine zg ((zr BW rfl (fun m' hm _ => hL m' hm) rfl ?_)) rfl;rintro _ _ ⟨rfl, rfl⟩;refine vr 5 ?_;exact zB [_] ⟨rfl, trivial⟩ [] (.nil _) ⟨rfl, rfl⟩
 | false =>
   have hC := hK (hsz rfl);by_cases g0 : d0.xs.length <= 60
   rotate_left
   ·refine vr 1 ?_;refine pe 0 ((zR (i := 0) di rfl rfl (by decide))) ?_;refine Lb 1 wg .here ?_;refine xI 12 ?_;refine zg ((zr BW rfl (fun m' hm _ => hL m' hm) rfl ?_)) rfl;rintro _ _ ⟨rfl, rfl⟩;refine vr 5 ?_;exact zB [_] ⟨rfl, trivial⟩ [] (.nil _) ⟨rfl, rfl⟩
   by_cases g1 : d1.xs.length <= 60
   rotate_left
   ·refine vr 1 ?_;refine pe 0 ((zR (i := 0) di rfl rfl (by decide))) ?_;refine Lb 1 wg .here ?_;refine ym 2 ?_;refine pe 0 ((zR (i := 1) di rfl rfl (by decide))) ?_;refine Lb 1 wg .here ?_;refine xI 6 ?_;refine zg ((zr BW rfl (fun m' hm _ => hL m' hm) rfl ?_)) rfl;rintro _ _ ⟨rfl, rfl⟩;refine vr 5 ?_;exact zB [_] ⟨rfl, trivial⟩ [] (.nil _) ⟨rfl, rfl⟩
   refine vr 1 ?_;refine pe 0 ((zR (i := 0) di rfl rfl (by decide))) ?_;refine Lb 1 wg .here ?_;refine ym 2 ?_;refine pe 0 ((zR (i := 1) di rfl rfl (by decide))) ?_;refine Lb 1 wg .here ?_;refine ym 8 ?_;refine Lc 0 gt .h1 ?_;refine Lc 0 Dz .here ?_;refine zg ((zr cl6 rfl (fun m' hm _ => PW hm hC (h0.mono hm) (h1.mono hm) g0 g1) rfl ?_)) rfl;rintro _ _ hN
   rcases hN with ⟨⟨e', he', rfl⟩, rfl⟩ | ⟨hCk, h, A, n, c, x, y, rfl, hx, hy, hh, rfl⟩
   ·refine vr 4 ?_;refine Al 0 qX fun b3 => ?_;refine Sg 8 yn .here ?_;refine yy 5 ?_;refine zg ((zr BW rfl (fun m' hm _ => hL m' hm) rfl ?_)) rfl;rintro _ _ ⟨rfl, rfl⟩;refine vr 5 ?_;exact zB [_] ⟨rfl, trivial⟩ [] (.nil _) ⟨rfl, rfl⟩
   obtain ⟨q1, q2, q3⟩ := PV hx hy;rw [<- hh] at q1 q2 q3;refine vr 4 ?_;refine Al 0 qX fun b3 => ?_;refine Sg 8 yn .here ?_;refine ym 12 ?_
   refine zN (α := Nat × Gs) (fun y => [(2, .pointer (some ⟨b1, 0, none⟩)), (3, .pointer (some ⟨b2, 0, none⟩)), (5, .pointer (some ⟨b3, 0, none⟩)), (37, .int .i64 (y.1 : Nat))]) (fun y => cel b3 y.2.v 36 :: (y.2.owns ++ [cel b2 [d0.v, d1.v] 27, cel b1 (vg K nk kc F nf fc) 25])) (fun y => (Run nk (y.1 + 1) 5 y.2.n \/ Ovr y.2.n) /\ (y.1 : Int) + y.2.n.left <= d0.xs.length + d1.xs.length + 39 /\ y.2.n.turn = y.1 + 1) (fun y => 400 - y.1) (0, h) ⟨rfl, rfl, rfl, rfl, trivial⟩ (zJ.refl _) ⟨q1, by dsimp only; omega, by dsimp only; omega⟩ ?_
   rintro ⟨n, g⟩ ⟨hF, hle, htn⟩;dsimp only at hF hle htn ⊢;rcases hF with hrun | hov
   ·have hn0 := bP (g := g.n) ⟨Int.le_trans (by decide) hrun.l.1, Int.le_trans (by decide) hrun.l.2⟩;have hn : n < 400 := by omega
    have hph : g.ph = 0 := hrun.p.ph;refine tr 2 ?_;refine xI 18 ?_;refine Lb 0 zD .here ?_;refine ym 7 ?_;refine Lc 0 gt .h10 ?_;refine Lc 1 yn .here ?_;refine Lb 0 yH .here ?_;refine pe 0 (zW zl44 pl44 rfl rfl) ?_;have ga : ∀ m2, (∀ e ∈ g.a.owns, e.inv m2) -> vH m2 g.a := fun m2 h => LW hrun.p.a (by omega) (by omega) h
    have gb : ∀ m2, (∀ e ∈ g.b.owns, e.inv m2) -> vH m2 g.b := fun m2 h => LW hrun.p.b (by omega) (by omega) h;have gtn : g.turn = n + 1 := htn
    refine zg ((zr cl7 rfl (fun m2 hm2 he2 => Do7 (hCk.mono hm2) (ga m2 fun e h => he2 e (.tail _ (List.mem_append_left [_, _] (List.mem_append_right g.b.owns h)))) (gb m2 fun e h => he2 e (.tail _ (List.mem_append_left [_, _] (List.mem_append_left g.a.owns h)))) hrun.p.ok hrun.l ⟨Nat.le_trans hrun.p.a.l3 (by omega), Nat.le_trans hrun.p.b.l3 (by omega)⟩ (by omega)) rfl ?_)) rfl
    rintro _ _ ⟨w, A', n', c', rfl, hw, rfl⟩;obtain ⟨p1, p2, p3⟩ := Mz hrun (show g.n.turn <= 4000 by rw [htn]; omega);rw [<- hw] at p1 p2 p3;have hwt : w.turn = g.turn + 1 := p3;refine vr 4 ?_;refine Al 0 qX fun b4 => ?_;refine Sg 8 yn .here ?_;refine ym 2 ?_;refine Lb 1 yH .here ?_;refine Lb 0 yH .h9 ?_;refine Pa 0 ?_;refine ym 12 ?_;refine Lc 0 yn .here ?_;refine Sg 4 yn .h9 ?_
    refine Pa 2 ?_;exact QR (n + 1, w) (.cons .h9 (.cons .h1 (.cons .h1 (.cons .h1 (.cons .h1 (.cons .h1 (.cons .h1 (.cons .h1 (.cons .h1 (.cons .h9 .p9)))))))))) ⟨p1, by dsimp only; omega, by dsimp only; omega⟩ (by dsimp only; omega)
   ·have hn0 := hov.l;have hph : g.ph = 2 := hov.ph;have hrs : g.res ≠ 0 := hov.res;have hn : n < 400 := by omega
    refine tr 2 ?_;refine xI 18 ?_;refine Lb 0 zD .here ?_;refine yy 6 ?_;refine pe 0 ((zR (i := 0) di rfl rfl (by decide))) ?_;refine Lb 1 wg .h9 ?_;refine pe 0 ((zR (i := 1) di rfl rfl (by decide))) ?_;refine Lb 1 wg .h9 ?_;refine pe 0 (Ki rfl rfl (by omega)) ?_;refine Pa 0 ?_;refine pe 0 (vQ rfl rfl (qx (by omega) (by omega))) ?_;refine xI 2 ?_
    refine Lb 0 zD .here ?_;refine yy 2 ?_;refine zg ((zr BW rfl (fun m' hm _ => hL m' hm) rfl ?_)) rfl;rintro _ _ ⟨rfl, rfl⟩;refine vr 8 ?_;refine zC ?_;refine zz ?_;refine zU ?_;exact zB [_] ⟨rfl, trivial⟩ [] (.nil _) ⟨rfl, rfl⟩
end
end Go.Proofs.YtijakengkacnlaaGreatDoor
namespace Go.Proofs
open  Go.Eng
open Go.Shelf
def Tryz.laysM157_ren : Go.Shelf.Ren := ⟨fun | 157 => 351 | 229 => 419 | 199 => 420 | 261 => 482 | 311 => 503 | 312 => 504 | n => n, fun | 9 => 9 | 31 => 46 | 3 => 3 | 5 => 5 | 4 => 4 | 119 => 640 | 0 => 0 | 40 => 458 | 152 => 716 | 21 => 21 | 154 => 718 | 51 => 405 | 141 => 720 | 196 => 750 | 193 => 747 | 198 => 753 | 49 => 751 | 194 => 748 | 201 => 756 | 226 => 767 | 46 => 165 | 227 => 768 | n => n, fun | 0 => 0 | 6 => 1 | n => n⟩
theorem Tryz.laysM157 : Go.Proofs.LaysM.n157 Tryz.prog Tryz.laysM157_ren := {
 mixed := by kernel_rfl
 f157 := Tryz.func351.trans (congrArg some (by kernel_rfl))
 f199 := Tryz.func420.trans (congrArg some (by kernel_rfl))
 f229 := Tryz.func419.trans (congrArg some (by kernel_rfl))
 f261 := Tryz.func482.trans (congrArg some (by kernel_rfl))
 f311 := Tryz.func503.trans (congrArg some (by kernel_rfl))
 f312 := Tryz.func504.trans (congrArg some (by kernel_rfl))
 t0 := Tryz.underlying0
 a0 := Tryz.isAgg0
 z0 := Tryz.sizeOf0
 v0 := Tryz.zeroValue0
 t3 := Tryz.underlying3
 a3 := Tryz.isAgg3
 z3 := Tryz.sizeOf3
 v3 := Tryz.zeroValue3
 t4 := Tryz.underlying4
 a4 := Tryz.isAgg4
 z4 := Tryz.sizeOf4
 v4 := Tryz.zeroValue4
 t5 := Tryz.underlying5
 a5 := Tryz.isAgg5
 z5 := Tryz.sizeOf5
 v5 := Tryz.zeroValue5
 t9 := Tryz.underlying9
 a9 := Tryz.isAgg9
 z9 := Tryz.sizeOf9
 v9 := Tryz.zeroValue9
 t21 := Tryz.underlying21
 a21 := Tryz.isAgg21
 z21 := Tryz.sizeOf21
 v21 := Tryz.zeroValue21
 t31 := Tryz.underlying46
 a31 := Tryz.isAgg46
 z31 := Tryz.sizeOf46
 v31 := Tryz.zeroValue46
 t40 := Tryz.underlying458
 a40 := Tryz.isAgg458
 z40 := Tryz.sizeOf458
 v40 := Tryz.zeroValue458
 t46 := Tryz.underlying165
 a46 := Tryz.isAgg165
 z46 := Tryz.sizeOf165
 v46 := Tryz.zeroValue165
 t49 := Tryz.underlying751
 a49 := Tryz.isAgg751
 z49 := Tryz.sizeOf751
 v49 := Tryz.zeroValue751
 t51 := Tryz.underlying405
 a51 := Tryz.isAgg405
 z51 := Tryz.sizeOf405
 v51 := Tryz.zeroValue405
 t119 := Tryz.underlying640
 a119 := Tryz.isAgg640
 z119 := Tryz.sizeOf640
 t141 := Tryz.underlying720
 a141 := Tryz.isAgg720
 z141 := Tryz.sizeOf720
 v141 := Tryz.zeroValue720
 t152 := Tryz.underlying716
 a152 := Tryz.isAgg716
 z152 := Tryz.sizeOf716
 v152 := Tryz.zeroValue716
 t154 := Tryz.underlying718
 a154 := Tryz.isAgg718
 z154 := Tryz.sizeOf718
 v154 := Tryz.zeroValue718
 t193 := Tryz.underlying747
 a193 := Tryz.isAgg747
 z193 := Tryz.sizeOf747
 v193 := Tryz.zeroValue747
 t194 := Tryz.underlying748
 a194 := Tryz.isAgg748
 z194 := Tryz.sizeOf748
 v194 := Tryz.zeroValue748
 t196 := Tryz.underlying750
 a196 := Tryz.isAgg750
 z196 := Tryz.sizeOf750
 v196 := Tryz.zeroValue750
 t198 := Tryz.underlying753
 a198 := Tryz.isAgg753
 z198 := Tryz.sizeOf753
 v198 := Tryz.zeroValue753
 t201 := Tryz.underlying756
 a201 := Tryz.isAgg756
 z201 := Tryz.sizeOf756
 v201 := Tryz.zeroValue756
 t226 := Tryz.underlying767
 a226 := Tryz.isAgg767
 z226 := Tryz.sizeOf767
 v226 := Tryz.zeroValue767
 t227 := Tryz.underlying768
 a227 := Tryz.isAgg768
 z227 := Tryz.sizeOf768
 v227 := Tryz.zeroValue768
 g0 := by kernel_rfl
 g6 := by kernel_rfl
 i0 := by kernel_rfl
 i3 := by kernel_rfl
 i4 := by kernel_rfl
 i5 := by kernel_rfl
 i9 := by kernel_rfl
 i21 := by kernel_rfl
 i31 := by kernel_rfl
 i40 := by kernel_rfl
 i46 := by kernel_rfl
 i49 := by kernel_rfl
 i51 := by kernel_rfl
 i141 := by kernel_rfl
 i152 := by kernel_rfl
 i154 := by kernel_rfl
 i193 := by kernel_rfl
 i194 := by kernel_rfl
 i196 := by kernel_rfl
 i198 := by kernel_rfl
 i201 := by kernel_rfl
 i226 := by kernel_rfl
 i227 := by kernel_rfl
 m0 := by kernel_rfl
 m6 := by kernel_rfl }
open Go.RowKit Go.Lib in
theorem Tryz.strings_Fields_laid (s : ByteArray) (w : World) (hs : s.size < 4294967281) (hascii : ∀ (j : Nat) b, s.data.toList[j]? = some b → b.toNat < 128) (htab : Lib.TabIs Tryz.prog w "strings.asciiSpace" .u8 Lib.asciiSpaceTab) :
  Calls Tryz.prog 351 #[.string s] w fun e w' =>
   e = .returned (.slice (some ⟨w.heap.size, 0, none⟩) (Lib.fields s.data.toList).length (Lib.fields s.data.toList).length) ∧ w' = w.alloc (.cells ((Lib.fields s.data.toList).map fun l => Value.string ⟨l.toArray⟩).toArray 9) := Any.strings_Fields_laid Tryz.laysM157 s w hs hascii htab
end Go.Proofs
namespace Go.Proofs.YtijakengkacnlaaGreatDoor
open  Go.Eng
section
open Wd Go.RowKit
def fR (m : Mp) : Prop := ∀ w : World, Le m (mp w.heap) -> Lib.TabIs Tryz.prog w "strings.asciiSpace" .u8 Lib.asciiSpaceTab
variable {m : Mp}
theorem fR.mono {m' : Mp} (h : fR m) (hl : Le m m') : fR m' := fun w hw => h w (hl.trans hw)
theorem Hu {s : Bt} (hT : fR m) (hl : s.length < 4294967281) (ha : ∀ b ∈ s, b.toNat < 128) :
  CS Tryz.prog 351 [.string (bs s)] m [] fun v L' => ∃ b, v = .slice (some ⟨b, 0, none⟩) (Lib.fields s).length (Lib.fields s).length /\ L' = [cel b ((Lib.fields s).map Yp) 9] := fun h hs x d => by
 have := Tryz.strings_Fields_laid (bs s) (W x h d) (by rw [u9]; exact hl) (fun j b hj => ha b (List.mem_of_getElem? (by simpa [bs] using hj))) (hT _ hs.base);refine this.mono ?_;rintro e w' ⟨rfl, rfl⟩;refine ⟨_, h.push (.cells ((Lib.fields s).map Yp).toArray 9), d, rfl, rfl, _, ⟨h.size, rfl, rfl⟩, ?_⟩
 exact hs.new (e' := cel h.size ((Lib.fields s).map Yp) 9) (vT h _) (xc h _) (fun k hk => by have := WM hk; subst this; exact u6 h)
end
end Go.Proofs.YtijakengkacnlaaGreatDoor
namespace Wd
open  Go.Eng
open Go Go.Eng
def Wp : Bt := [99, 97, 114, 100, 32, 117, 110, 105, 116, 32, 99, 104, 97, 114, 109, 32, 102, 111, 114, 109, 97, 116, 32, 112, 108, 97, 121, 101, 100, 32, 100, 101, 97, 100, 32, 100, 97, 119, 110, 32, 97, 117, 114, 97, 32, 115, 104, 105, 101, 108, 100, 32, 104, 97, 114, 109, 32, 109, 101, 110, 100, 32, 100, 114, 97, 119, 32, 103, 97, 105, 110, 32, 100, 114, 111, 112, 32, 108, 111, 111, 107, 32, 115, 104, 111, 119, 32, 115, 117, 109, 109, 111, 110, 32, 105, 102, 32, 101, 108, 115, 101, 32, 109, 101, 32, 102, 111, 101, 32, 116, 97, 114, 103, 101, 116, 32, 108, 105, 102, 101, 32, 104, 97, 110, 100, 32, 100, 101, 99, 107, 32, 117, 110, 105, 116, 115, 32, 109, 97, 110, 97, 32, 99, 111, 115, 116, 32, 116, 111, 112, 32, 112, 111, 119, 101, 114, 32, 109, 105, 110, 32, 109, 97, 120, 32, 110, 111, 116, 32, 97, 110, 100, 32, 111, 114, 32, 104, 111, 108, 100, 115, 32, 108, 101, 97, 115, 116, 32, 109, 111, 115, 116, 32, 99, 111, 112, 105, 101, 115, 32, 98, 97, 110, 110, 101, 100, 32, 115, 105, 110, 103, 108, 101]
def uJ : List Bt := [[99, 97, 114, 100], [117, 110, 105, 116], [99, 104, 97, 114, 109], [102, 111, 114, 109, 97, 116], [112, 108, 97, 121, 101, 100], [100, 101, 97, 100], [100, 97, 119, 110], [97, 117, 114, 97], [115, 104, 105, 101, 108, 100], [104, 97, 114, 109], [109, 101, 110, 100], [100, 114, 97, 119], [103, 97, 105, 110], [100, 114, 111, 112], [108, 111, 111, 107], [115, 104, 111, 119], [115, 117, 109, 109, 111, 110], [105, 102], [101, 108, 115, 101], [109, 101], [102, 111, 101], [116, 97, 114, 103, 101, 116], [108, 105, 102, 101], [104, 97, 110, 100], [100, 101, 99, 107], [117, 110, 105, 116, 115], [109, 97, 110, 97], [99, 111, 115, 116], [116, 111, 112], [112, 111, 119, 101, 114], [109, 105, 110], [109, 97, 120], [110, 111, 116], [97, 110, 100], [111, 114], [104, 111, 108, 100, 115], [108, 101, 97, 115, 116], [109, 111, 115, 116], [99, 111, 112, 105, 101, 115], [98, 97, 110, 110, 101, 100], [115, 105, 110, 103, 108, 101]]
theorem UG : Lib.fields Wp = uJ := zk
theorem Ha : ∀ b ∈ Wp, b.toNat < 128 := zk
theorem Nb : ∀ i : Fin 41, uJ.getD i.val [] ∉ uJ.take i.val := zk
def PP (s : Bt) : Bool := decide (s ∈ uJ)
def jr (l : List Bt) : List (Bt × Value) := l.map fun k => (k, .bool true)
variable {k : Bt}
theorem jh : ∀ (l : List Bt) (i : Nat), k ∉ l -> uA k i (jr l) = none
 | [], _, _ => rfl
 | a :: r, i, h => by
   have h1 : k ≠ a := fun e => h (by simp [e]);have h2 := jh r (i + 1) (fun e => h (List.mem_cons_of_mem _ e));simp only [jr, List.map_cons] at h2 ⊢;rw [uA, if_neg h1];exact h2
theorem Mm {i : Nat} (hi : i < 41) : cu (jr (uJ.take i)) (uJ.getD i []) (.bool true) = jr (uJ.take (i + 1)) := by
 have h := Nb ⟨i, hi⟩;unfold cu;rw [jh _ _ h];have hl : i < uJ.length := hi;simp only;rw [List.take_succ_eq_append_getElem hl];simp only [jr, List.map_append, List.map_cons, List.map_nil]
 congr 3
 simp [List.getD_eq_getElem?_getD, hl]
theorem kE : ∀ (l : List Bt) (i : Nat), k ∈ l -> ∃ j, uA k i (jr l) = some (j, .bool true)
 | [], _, h => by cases h
 | a :: r, i, h => by
   simp only [jr, List.map_cons];rw [uA];by_cases h1 : k = a
   ·exact ⟨i, by rw [if_pos h1]⟩
   ·rw [if_neg h1];exact kE r (i + 1) (by rcases List.mem_cons.1 h with h | h; exact absurd h h1; exact h)
theorem Nn (s : Bt) : (gk (jr uJ) s).getD (.bool false) = .bool (PP s) := by
 unfold gk PP;by_cases h : s ∈ uJ
 ·obtain ⟨j, hj⟩ := kE uJ 0 h;rw [hj, decide_eq_true h]
  rfl
 ·rw [jh _ _ h, decide_eq_false h]
  rfl
end Wd
namespace Go.Proofs.YtijakengkacnlaaGreatDoor
open  Go.Eng
end Go.Proofs.YtijakengkacnlaaGreatDoor
namespace Wd
open  Go.Eng
def XF (s : Bt) : Bool := decide (1 <= (wX s 0 0).2 /\ (wX s 0 0).2 <= 24 /\ (wX s 0 0).1 = s.length /\ s.length <= 40) && !PP s
end Wd
namespace Go.Proofs.YtijakengkacnlaaGreatDoor
open  Go.Eng
section
open Wd Go.RowKit
theorem Es {i : Nat} (h : i < 41) : (uJ.map Yp)[i]? = some (Yp (uJ.getD i [])) := by
 have hl : i < uJ.length := h
 simp [List.getD_eq_getElem?_getD, hl]
variable {m : Mp}
theorem F4 (hT : fR m) : CS Tryz.prog 284 [] m [] fun v L' => ∃ b, v = .map (some b) /\ L' = [jZ b (jr uJ)] := by
 refine zM [.tmp 0] Tryz.func284 rfl rfl rfl ?_;refine tr 7 ?_;refine zg (qV rfl (fun b1 => ?_)) rfl;refine vr 6 ?_;have F := fun m' (hm : Le m m') => Hu (s := Wp) (hT.mono hm) zk Ha;rw [UG, show uJ.length = 41 from rfl] at F;refine zg ((zr B4 rfl (fun m' hm he => F m' hm) rfl ?_)) rfl;rintro _ _ ⟨b2, rfl, rfl⟩
 refine vr 5 ?_
 refine zN (fun i : Nat => [(1, .map (some b1)), (5, .slice (some ⟨b2, 0, none⟩) 41 41), (6, .int .i64 (41 : Nat)), (7, .int .i64 (i : Nat))]) (fun i => [cel b2 (uJ.map Yp) 9, jZ b1 (jr (uJ.take i))]) (fun i => i <= 41) (fun i => 41 - i) 0
  eV zu (Nat.zero_le _) ?_
 rintro i hi;by_cases hlt : i < 41
 ·have hk := Es hlt;have hput := Mm hlt;refine tr 2 ?_;refine xI 10 ?_;refine pe 0 ((yE BE rfl rfl rfl ze)) ?_;refine lr 6 (SX ey rfl .here hk) ?_;refine zg (wa uj rfl rfl rfl .h1 ?_) rfl;refine vr 4 ?_;refine Pa 2 ?_;exact QR (i + 1) (by rw [<- hput]; exact zJ.refl _) ze ze
 ·have : i = 41 := by omega
  subst this;refine tr 2 ?_;refine ym 6 ?_;refine zh ?_;refine zf ?_;refine qt 8 ?_;exact zB [_] zX _ (zJ.cons .h1 fV) ⟨b1, rfl, rfl⟩
theorem DN (hT : fR m) (s : Bt) : CS Tryz.prog 176 [.string (bs s)] m [] (uM (.bool (PP s))) := by
 refine zM [.tmp 2] Tryz.func176 rfl rfl rfl ?_;refine tr 7 ?_;refine zg ((zr Ac rfl (fun m' hm he => F4 (hT.mono hm)) rfl ?_)) rfl;rintro _ _ ⟨b2, rfl, rfl⟩;refine vr 1 ?_;refine lr 4 (gX uj rfl rfl .here gH) ?_;rw [Nn];skip;exact xi zX ⟨rfl, rfl⟩
theorem GP (hT : fR m) {s : Bt} (hs : s.length <= 140737488355328) : CS Tryz.prog 97 [.string (bs s)] m [] (uM (.bool (XF s))) := by
 refine zM [.tmp 2] Tryz.func97 rfl rfl rfl ?_;have e : yX s 0 0 = wX s 0 0 := by have := PX (s := s) (p := 0) (Nat.zero_le _); simpa using this
 have hle := (Wv s 0 0).len (Nat.zero_le _);unfold XF;by_cases hall : 1 <= (wX s 0 0).2 /\ (wX s 0 0).2 <= 24 /\ (wX s 0 0).1 = s.length /\ s.length <= 40
 ·obtain ⟨a1, a2, a3, a4⟩ := hall;refine tr 8 ?_;refine Cr NV rfl (fun m' hm he => (e ▸ aX hs)) ?_;rintro _ rfl;refine vr 10 ?_;refine xI 2 ?_;refine xI 4 ?_;refine pe 0 (uZ rfl Tn) ?_;refine xI 3 ?_;refine xI 3 ?_;refine Cr AD rfl (fun m' hm he => (DN (hT.mono hm) s)) ?_;rintro _ rfl;refine vr 6 ?_
  exact xi zX ⟨by rw [decide_eq_true ⟨a1, a2, a3, a4⟩]; rfl, rfl⟩
 ·refine tr 8 ?_;refine Cr NV rfl (fun m' hm he => (e ▸ aX hs)) ?_;rintro _ rfl;refine vr 10 ?_;refine kb (av rfl rfl) rfl rfl rfl (fun hc1 => ?_) (fun hc1 => ?_);refine vr 2 ?_;refine kb (qC rfl rfl) rfl rfl rfl (fun hc2 => ?_) (fun hc2 => ?_);refine vr 4 ?_;refine pe 0 (uZ rfl Tn) ?_;refine kb (yY rfl rfl) rfl rfl rfl (fun hc3 => ?_) (fun hc3 => ?_)
  refine vr 3 ?_;refine ym 10 ?_
  (exact xi zX ⟨by rw [decide_eq_false hall]; rfl, rfl⟩)
  refine vr 14 ?_
  (exact xi zX ⟨by rw [decide_eq_false hall]; rfl, rfl⟩)
  refine vr 20 ?_
  (exact xi zX ⟨by rw [decide_eq_false hall]; rfl, rfl⟩)
  refine vr 23 ?_
  (exact xi zX ⟨by rw [decide_eq_false hall]; rfl, rfl⟩)
end
end Go.Proofs.YtijakengkacnlaaGreatDoor
namespace Kd
open  Go.Eng
open Go Go.Eng
def sV (s : Bt) : Value := .string (bs s)
def iV (n : Int) : Value := .int .i64 n
def U0 : Value := .tuple #[]
abbrev uM (w : Value) : Value -> List ya -> Prop := fun v L' => v = w /\ L' = []
def yl (op : Int) : Bool := decide (op = 0) || decide (op = 1) || decide (op = 2) || decide (op = 3) || decide (op = 5)
def uh (w : Int) : Bool := decide (w = 0) || decide (w = 1)
inductive yu where
 | eff (x : xU)
 | num (x : vC)
 | cond (x : xO)
def ww : yu -> List yu
 | .eff (.mk op _ n _ c t e) => (if yl op then [.num n] else []) ++ (if op = 8 then .cond c :: (t.map .eff ++ e.map .eff) else [])
 | .num (.mk _ _ _ k) => k.map .num
 | .cond (.mk _ _ _ ns k) => ns.map .num ++ k.map .cond
inductive uH : yu -> List yu -> Prop
 | mk {p : yu} {ls : List (List yu)} (hl : ls.length = (ww p).length) (hk : ∀ (i : Nat) (h : i < (ww p).length), uH (ww p)[i] (ls[i]'(by omega))) : uH p (p :: ls.flatten)
def QB (ps : List yu) (l : List yu) : Prop := ∃ ls : List (List yu), ∃ hl : ls.length = ps.length, (∀ (i : Nat) (h : i < ps.length), uH ps[i] (ls[i]'(by omega))) /\ l = ls.flatten
theorem bU {ps : List yu} (h : ∀ (i : Nat) (hi : i < ps.length), ∃ l, uH ps[i] l) : ∃ ls : List (List yu), ∃ hl : ls.length = ps.length, ∀ (i : Nat) (h : i < ps.length), uH ps[i] (ls[i]'(by omega)) := by
 induction ps with
 | nil => exact ⟨[], rfl, fun i h => by cases h⟩
 | cons p r ih =>
   obtain ⟨l, hl⟩ := h 0 vM;obtain ⟨ls, e, hls⟩ := ih fun i hi => h (i + 1) (by simpa using hi);refine ⟨l :: ls, by simp [e], fun i hi => ?_⟩;cases i with
   | zero => exact hl
   | succ i => exact hls i (by simpa using hi)
theorem uH.ex {p : yu} (h : ∀ (i : Nat) (hi : i < (ww p).length), ∃ l, uH (ww p)[i] l) : ∃ l, uH p l := by
 obtain ⟨ls, e, hls⟩ := bU h;exact ⟨_, .mk e hls⟩
variable {cs : Lv} {m : Mp}
theorem uH.num {x : vC} (h : js m cs x) : ∃ l, uH (.num x) l := by
 induction h with
 | mk ho hln hm hr hv _ ih =>
   refine uH.ex fun i hi => ?_;simp only [ww, List.length_map] at hi;simp only [ww, List.getElem_map];exact ih i hi
theorem uH.cond {x : xO} (h : ur m cs x) : ∃ l, uH (.cond x) l := by
 induction h with
 | mk ho hw hn hla hma hra hva hka hlb hmb hrb hvb _ ih =>
   refine uH.ex fun i hi => ?_;simp only [ww, List.length_append, List.length_map] at hi;simp only [ww, List.getElem_append, List.length_map, List.getElem_map]
   split
   ·exact uH.num (hka _ ze)
   ·exact ih _ ze
theorem uH.eff {x : xU} (h : vE m cs x) : ∃ l, uH (.eff x) l := by
 induction h with
 | @mk op who n name cond thn els ns cs A B la ca lb cb vs us ho hw hn hnm hc hla hma hra hva _ hlb hmb hrb hvb _ ih1 ih2 =>
   refine uH.ex fun i hi => ?_
   have key : ∀ p ∈ ww (.eff (.mk op who n name cond thn els)), ∃ l, uH p l := by
    intro p hp;simp only [ww, List.mem_append] at hp;rcases hp with hp | hp
    ·split at hp
     ·rw [List.mem_singleton.1 hp]; exact uH.num hn
     ·cases hp
    ·split at hp
     ·rcases List.mem_cons.1 hp with rfl | hp
      ·exact uH.cond hc
      ·rcases List.mem_append.1 hp with hp | hp
       ·obtain ⟨x, hx, rfl⟩ := List.mem_map.1 hp;obtain ⟨j, hj, rfl⟩ := List.getElem_of_mem hx;exact ih1 j hj
       ·obtain ⟨x, hx, rfl⟩ := List.mem_map.1 hp;obtain ⟨j, hj, rfl⟩ := List.getElem_of_mem hx;exact ih2 j hj
     ·cases hp
   exact key _ (List.getElem_mem hi)
def kC {σ : Type} (f : yu -> σ -> σ × Bool) : List yu -> σ -> σ × Bool
 | [], s => (s, true)
 | p :: r, s => if (f p s).2 then kC f r (f p s).1 else ((f p s).1, false)
variable {σ : Type} {f : yu -> σ -> σ × Bool}
theorem WC : ∀ {a b : List yu} {s : σ}, kC f (a ++ b) s = if (kC f a s).2 then kC f b (kC f a s).1 else ((kC f a s).1, false)
 | [], b, s => by simp [kC]
 | p :: r, b, s => by
   simp only [List.cons_append, kC]
   split
   ·exact WC
   ·simp
variable {i : Nat} {ls : List (List yu)}
theorem cX (hi : i < ls.length) (s : σ) (h : (kC f (ls.take i).flatten s).2 = true) : kC f (ls.take (i + 1)).flatten s = kC f ls[i] (kC f (ls.take i).flatten s).1 := by
 rw [List.take_add_one, List.getElem?_eq_getElem hi, Option.toList_some, List.flatten_append, WC, if_pos h]
 simp
theorem cV (s : σ) (h : (kC f (ls.take i).flatten s).2 = false) : kC f ls.flatten s = kC f (ls.take i).flatten s := by
 conv => lhs; rw [<- List.take_append_drop i ls]
 rw [List.flatten_append, WC, h];generalize kC f (ls.take i).flatten s = q at h;obtain ⟨a, b⟩ := q;dsimp only at h;subst h
 rfl
theorem cY {I : σ -> Prop} (hI : ∀ p s, I s -> (f p s).2 = true -> I (f p s).1) : ∀ {l : List yu} {s : σ}, I s -> (kC f l s).2 = true -> I (kC f l s).1
 | [], s, h, _ => h
 | p :: r, s, h, h2 => by
   unfold kC at h2 ⊢
   split
   ·rename_i h3
    rw [if_pos h3] at h2;exact cY hI (hI p s h h3) h2
   ·rename_i h3
    rw [if_neg h3] at h2;cases h2
def Qb (_ : yu) (s : Int) : Int × Bool := (s + 1, decide (s + 1 < 1073741824))
theorem NL (p : yu) (s : Int) (h : 0 <= s /\ s < 1073741824) (h2 : (Qb p s).2 = true) : 0 <= (Qb p s).1 /\ (Qb p s).1 < 1073741824 := by
 have h3 : s + 1 < 1073741824 := of_decide_eq_true h2;show 0 <= s + 1 /\ s + 1 < 1073741824;omega
theorem Gb : ∀ {l : List yu} {s : Int}, s + l.length < 1073741824 -> kC Qb l s = (s + l.length, true)
 | [], s, _ => by simp [kC]
 | p :: r, s, h => by
   simp only [List.length_cons] at h;have h1 : (Qb p s).2 = true := decide_eq_true ze;show (if (Qb p s).2 = true then kC Qb r (s + 1) else _) = _;rw [if_pos h1, Gb ze];simp only [List.length_cons, Prod.mk.injEq, and_true];omega
end Kd
namespace Go.Proofs.YtijakengkacnlaaGreatDoor
open  Go.Eng
section
open Kd
variable {m : Mp}
theorem ZQ (op : Int) : CS Tryz.prog 272 [.int .i8 op] m [] (uM (.bool (yl op))) := by
 refine zM [.tmp 2] Tryz.func272 rfl rfl rfl ?_;by_cases h0 : op = 0
 ·refine tr 15 ?_;refine yy 15 ?_
  (exact xi zX ⟨congrArg Value.bool (by simp [yl, *]), rfl⟩)
 by_cases h1 : op = 1
 ·refine tr 15 ?_;refine zA 6 ?_;refine yy 15 ?_
  (exact xi zX ⟨congrArg Value.bool (by simp [yl, *]), rfl⟩)
 by_cases h2 : op = 2
 ·refine tr 15 ?_;refine zA 6 ?_;refine zA 6 ?_;refine yy 15 ?_
  (exact xi zX ⟨congrArg Value.bool (by simp [yl, *]), rfl⟩)
 by_cases h3 : op = 3
 ·refine tr 15 ?_;refine zA 6 ?_;refine zA 6 ?_;refine zA 6 ?_;refine yy 15 ?_
  (exact xi zX ⟨congrArg Value.bool (by simp [yl, *]), rfl⟩)
 by_cases h5 : op = 5
 ·refine tr 15 ?_;refine zA 6 ?_;refine zA 6 ?_;refine zA 6 ?_;refine zA 5 ?_;refine yy 12 ?_
  (exact xi zX ⟨congrArg Value.bool (by simp [yl, *]), rfl⟩)
 ·refine tr 15 ?_;refine zA 6 ?_;refine zA 6 ?_;refine zA 6 ?_;refine zA 5 ?_;refine zA 13 ?_
  (exact xi zX ⟨congrArg Value.bool (by simp [yl, *]), rfl⟩)
theorem NK (op : Int) : CS Tryz.prog 126 [.int .i8 op] m [] (uM (.bool (yl op))) := by
 refine zM [.tmp 2] Tryz.func126 rfl rfl rfl ?_;by_cases h0 : op = 0
 ·refine tr 8 ?_;refine yy 20 ?_
  (exact xi zX ⟨congrArg Value.bool (by simp [yl, *]), rfl⟩)
 by_cases h1 : op = 1
 ·refine tr 8 ?_;refine zA 2 ?_;refine yy 17 ?_
  (exact xi zX ⟨congrArg Value.bool (by simp [yl, *]), rfl⟩)
 by_cases h2 : op = 2
 ·refine tr 8 ?_;refine zA 2 ?_;refine zA 3 ?_;refine yy 13 ?_
  (exact xi zX ⟨congrArg Value.bool (by simp [yl, *]), rfl⟩)
 by_cases h3 : op = 3
 ·refine tr 8 ?_;refine zA 2 ?_;refine zA 3 ?_;refine zA 3 ?_;refine yy 9 ?_
  (exact xi zX ⟨congrArg Value.bool (by simp [yl, *]), rfl⟩)
 by_cases h5 : op = 5
 ·refine tr 8 ?_;refine zA 2 ?_;refine zA 3 ?_;refine zA 3 ?_;refine zA 3 ?_;refine yy 5 ?_
  (exact xi zX ⟨congrArg Value.bool (by simp [yl, *]), rfl⟩)
 ·refine tr 8 ?_;refine zA 2 ?_;refine zA 3 ?_;refine zA 3 ?_;refine zA 3 ?_;refine zA 5 ?_
  (exact xi zX ⟨congrArg Value.bool (by simp [yl, *]), rfl⟩)
theorem jM (w : Int) : CS Tryz.prog 274 [.int .i8 w] m [] (uM (.bool (uh w))) := by
 refine zM [.tmp 2] Tryz.func274 rfl rfl rfl ?_;by_cases h0 : w = 0
 ·refine tr 8 ?_;refine yy 8 ?_
  (exact xi zX ⟨congrArg Value.bool (by simp [uh, *]), rfl⟩)
 by_cases h1 : w = 1
 ·refine tr 8 ?_;refine zA 2 ?_;refine yy 5 ?_
  (exact xi zX ⟨congrArg Value.bool (by simp [uh, *]), rfl⟩)
 ·refine tr 8 ?_;refine zA 2 ?_;refine zA 5 ?_
  (exact xi zX ⟨congrArg Value.bool (by simp [uh, *]), rfl⟩)
end
end Go.Proofs.YtijakengkacnlaaGreatDoor
namespace Kd
open  Go.Eng
open Go Go.Eng
def xm (t : Bool) (op n who : Int) (k : Nat) : Bool :=
 if op = 0 then decide (0 <= n) && decide (n <= 999) && decide (who = 0) && decide (k = 0)
 else if op = 1 \/ op = 2 \/ op = 3 \/ op = 4 then decide (n = 0) && uh who && decide (k = 0)
 else if op = 5 \/ op = 6 then decide (n = 0) && decide (who = 0) && decide (k = 0)
 else if op = 7 then decide (n = 0) && (decide (who = 0) && t) && decide (k = 0)
 else if op = 8 \/ op = 9 \/ op = 10 \/ op = 11 \/ op = 12 then decide (n = 0) && decide (who = 0) && decide (k = 2)
 else false
inductive ej (t : Bool) : vC -> Prop
 | mk {op n who : Int} {kids : List vC} (hh : xm t op n who kids.length = true) (hk : ∀ (i : Nat) (h : i < kids.length), ej t kids[i]) : ej t (.mk op n who kids)
abbrev Us := Bt -> Option Bool
def wM (u : Us) (op who : Int) (name : Bt) (a b : Nat) : Bool :=
 if op = 0 \/ op = 1 \/ op = 2 then (decide (who = 0) && decide (name = [])) && decide (a = 2) && decide (b = 0)
 else if op = 3 then (decide (who = 0) && decide (name = [])) && decide (a = 0) && decide (b = 1)
 else if op = 4 \/ op = 5 then (decide (who = 0) && decide (name = [])) && decide (a = 0) && decide (b = 2)
 else if op = 6 then ((u name).isSome && uh who) && decide (a = 0) && decide (b = 0)
 else false
inductive gZ (u : Us) (t : Bool) : xO -> Prop
 | mk {op who : Int} {name : Bt} {nums : List vC} {kids : List xO} (hh : wM u op who name nums.length kids.length = true) (hn : ∀ (i : Nat) (h : i < nums.length), ej t nums[i]) (hk : ∀ (i : Nat) (h : i < kids.length), gZ u t kids[i]) : gZ u t (.mk op who name nums kids)
def QK (a b c d : Nat) : Int := IntKind.i64.wrap (IntKind.i64.wrap (IntKind.i64.wrap ((a : Int) + b) + c) + d)
def Kn : xU -> Bool
 | .mk op _ (.mk nop nn nwho nk) name (.mk cop cwho cname cns ck) t e =>
   (yl op || (decide (nop = 0) && decide (nn = 0) && decide (nwho = 0) && decide (nk.length = 0))) && (decide (op = 7) || decide (name = [])) &&
   (decide (op = 8) || (decide (cop = 0) && decide (cwho = 0) && decide (cname = []) && decide (QK cns.length ck.length t.length e.length = 0)))
def yj (u : Us) (t : Bool) (op who : Int) (name : Bt) : Bool :=
 if op = 0 \/ op = 1 then uh who || (decide (who = 2) && t)
 else if op = 2 \/ op = 4 \/ op = 6 then uh who
 else if op = 3 \/ op = 5 then decide (who = 0)
 else if op = 7 then decide (who = 0) && (u name).getD false
 else if op = 8 then decide (who = 0)
 else false
inductive ax (u : Us) (t : Bool) : Nat -> xU -> Prop
 | mk {d : Nat} {op who : Int} {n : vC} {name : Bt} {c : xO} {a b : List xU} (hz : Kn (.mk op who n name c a b) = true) (hn : yl op = true -> ej t n) (hw : yj u t op who name = true)
   (hc : op = 8 -> gZ u t c) (ha : op = 8 -> a.length <= 16 /\ d + 1 <= 8) (hak : op = 8 -> ∀ (i : Nat) (h : i < a.length), ax u t (d + 1) a[i])
   (hb : op = 8 -> b.length <= 16) (hbk : op = 8 -> ∀ (i : Nat) (h : i < b.length), ax u t (d + 1) b[i]) : ax u t d (.mk op who n name c a b)
def u3 (u : Us) (t : Bool) (d : Nat) (l : List xU) : Prop := l.length <= 16 /\ d <= 8 /\ ∀ (i : Nat) (h : i < l.length), ax u t d l[i]
end Kd
namespace Go.Proofs.YtijakengkacnlaaGreatDoor
open  Go.Eng
end Go.Proofs.YtijakengkacnlaaGreatDoor
namespace Kd
open  Go.Eng
open Go Go.Eng
def Nv (l : List (Bt × Bool)) : List (Bt × Value) := l.map fun p => (p.1, .bool p.2)
def jV (l : List (Bt × Bool)) : Us := fun s => (l.find? fun p => decide (s = p.1)).map (·.2)
variable {s : Bt}
theorem bh : ∀ (l : List (Bt × Bool)) (i : Nat), (uA s i (Nv l)).map (·.2) = (jV l s).map .bool
 | [], _ => rfl
 | (k, b) :: r, i => by
   show (if s = k then some (i, Value.bool b) else uA s (i + 1) (Nv r)).map (·.2) = _;unfold jV;by_cases h : s = k
   ·rw [if_pos h, List.find?_cons_of_pos (by simpa using h)]
    rfl
   ·rw [if_neg h, List.find?_cons_of_neg (by simpa using h)];exact bh r (i + 1)
variable {l : List (Bt × Bool)}
theorem ZB : gk (Nv l) s = (jV l s).map .bool := bh l 0
variable {b : Bool}
theorem Mq {s : Bt} (h : jV l s = none) : cu (Nv l) s (.bool b) = Nv (l ++ [(s, b)]) := by
 have h2 : uA s 0 (Nv l) = none := by
  have := bh (s := s) l 0;rw [h] at this
  simpa using this
 unfold cu;rw [h2]
 simp [Nv]
theorem Lr {x : Bt} : jV (l ++ [(x, b)]) s = match jV l s with | some v => some v | none => if s = x then some b else none := by
 unfold jV;rw [List.find?_append];cases h : l.find? (fun p => decide (s = p.1)) with
 | some v => simp
 | none =>
   simp only [Option.none_or, Option.map_none];by_cases hs : s = x <;> simp [hs]
end Kd
namespace Go.Proofs.YtijakengkacnlaaGreatDoor
open  Go.Eng
section
open Kd
theorem TE {m0 : Mp} {cs : Lv} {x : vC} (hx : js m0 cs x) : ∀ m, Le m0 m -> ∀ (a : Addr) (b : Nat) (t : Bool), At m a cs -> mc m ⟨b, 1, none⟩ = some (.bool t) ->
  CS Tryz.prog 273 [.pointer (some ⟨b, 0, none⟩), .pointer (some a)] m [] (fun v L' => L' = [] /\ ∃ r, v = .bool r /\ (r = true ↔ ej t x)) := by
 induction hx with
 | @mk op n who kids A len c vs ho hln hmx hr hv hkk ih =>
 subst hln;intro m hm a b t hat hck;refine zM [.tmp 4] Tryz.func273 rfl rfl rfl ?_;refine tr 11 ?_;refine SS (α := Unit) (fun _ => [(0, .pointer (some ⟨b, 0, none⟩)), (1, .pointer (some a)), (5, .int .i64 0), (6, .bool (decide (n = 0))), (7, .bool (decide (who = 0)))]) (fun _ => []) (fun _ => True) ?_ ?_
 ·by_cases hn : n = 0
  ·rw [decide_eq_true hn];by_cases hw : who = 0
   ·rw [decide_eq_true hw];refine tr 4 ?_;refine Lo 0 yH rfl (hat.at_ rfl) ?_;refine yy 7 ?_;refine Lo 0 zD rfl (hat.at_ rfl) ?_;refine yy 2 ?_;exact QR () zu trivial zK
   ·rw [decide_eq_false hw];refine tr 4 ?_;refine Lo 0 yH rfl (hat.at_ rfl) ?_;refine yy 7 ?_;refine Lo 0 zD rfl (hat.at_ rfl) ?_;refine zA 2 ?_;exact QR () zu trivial zK
  ·rw [decide_eq_false hn];by_cases hw : who = 0
   ·rw [decide_eq_true hw];refine tr 4 ?_;refine Lo 0 yH rfl (hat.at_ rfl) ?_;refine zA 7 ?_;refine Lo 0 zD rfl (hat.at_ rfl) ?_;refine yy 2 ?_;exact QR () zu trivial zK
   ·rw [decide_eq_false hw];refine tr 4 ?_;refine Lo 0 yH rfl (hat.at_ rfl) ?_;refine zA 7 ?_;refine Lo 0 zD rfl (hat.at_ rfl) ?_;refine zA 2 ?_;exact QR () zu trivial zK
 rintro ⟨⟩ -;refine tr 2 ?_;refine ap (α := Nat × Bool × Bool) (fun y => [(0, .pointer (some ⟨b, 0, none⟩)), (1, .pointer (some a)), (5, .int .i64 (y.1 : Nat)), (6, .bool y.2.1), (7, .bool y.2.2)]) (fun _ => []) (fun y => y.1 <= 2 /\ xm t op n who kids.length = (y.2.1 && y.2.2 && decide (kids.length = y.1))) ?_ ?_
 ·generalize hp : decide (n = 0) = p0;generalize ho' : decide (who = 0) = o0;by_cases e0 : op = 0
  ·by_cases h1 : n ≥ 0
   ·by_cases h2 : n <= 999
    ·refine tr 4 ?_;refine Lo 5 zD rfl (hat.at_ rfl) ?_;refine yy 8 ?_;refine Lo 0 yH rfl (hat.at_ rfl) ?_;refine yy 4 ?_;refine Lo 0 yH rfl (hat.at_ rfl) ?_;refine yy 4 ?_;exact QR (0, true, o0) zu ⟨by dsimp only; omega, by simp [xm, *]⟩ zK
    ·refine tr 4 ?_;refine Lo 5 zD rfl (hat.at_ rfl) ?_;refine yy 8 ?_;refine Lo 0 yH rfl (hat.at_ rfl) ?_;refine yy 4 ?_;refine Lo 0 yH rfl (hat.at_ rfl) ?_;refine zA 4 ?_;exact QR (0, false, o0) zu ⟨by dsimp only; omega, by simp [xm, *]⟩ zK
   ·refine tr 4 ?_;refine Lo 5 zD rfl (hat.at_ rfl) ?_;refine yy 8 ?_;refine Lo 0 yH rfl (hat.at_ rfl) ?_;refine zA 10 ?_;exact QR (0, false, o0) zu ⟨by dsimp only; omega, by simp [xm, *]⟩ zK
  by_cases e1 : op = 1
  ·refine tr 4 ?_;refine Lo 5 zD rfl (hat.at_ rfl) ?_;refine zA 7 ?_;refine yy 11 ?_;refine Lo 0 zD rfl (hat.at_ rfl) ?_;refine Cr ec rfl (fun m' hm he => (jM who)) ?_;rintro _ rfl;refine vr 3 ?_;exact QR (0, p0, uh who) zu ⟨by dsimp only; omega, by simp [xm, *]⟩ zK
  by_cases e2 : op = 2
  ·refine tr 4 ?_;refine Lo 5 zD rfl (hat.at_ rfl) ?_;refine zA 7 ?_;refine zA 6 ?_;refine yy 11 ?_;refine Lo 0 zD rfl (hat.at_ rfl) ?_;refine Cr ec rfl (fun m' hm he => (jM who)) ?_;rintro _ rfl;refine vr 3 ?_;exact QR (0, p0, uh who) zu ⟨by dsimp only; omega, by simp [xm, *]⟩ zK
  by_cases e3 : op = 3
  ·refine tr 4 ?_;refine Lo 5 zD rfl (hat.at_ rfl) ?_;refine zA 7 ?_;refine zA 6 ?_;refine zA 6 ?_;refine yy 11 ?_;refine Lo 0 zD rfl (hat.at_ rfl) ?_;refine Cr ec rfl (fun m' hm he => (jM who)) ?_;rintro _ rfl;refine vr 3 ?_;exact QR (0, p0, uh who) zu ⟨by dsimp only; omega, by simp [xm, *]⟩ zK
  by_cases e4 : op = 4
  ·refine tr 4 ?_;refine Lo 5 zD rfl (hat.at_ rfl) ?_;refine zA 7 ?_;refine zA 6 ?_;refine zA 6 ?_;refine zA 5 ?_;refine yy 8 ?_;refine Lo 0 zD rfl (hat.at_ rfl) ?_;refine Cr ec rfl (fun m' hm he => (jM who)) ?_;rintro _ rfl;refine vr 3 ?_;exact QR (0, p0, uh who) zu ⟨by dsimp only; omega, by simp [xm, *]⟩ zK
  by_cases e5 : op = 5
  ·refine tr 4 ?_;refine Lo 5 zD rfl (hat.at_ rfl) ?_;refine zA 7 ?_;refine zA 6 ?_;refine zA 6 ?_;refine zA 5 ?_;refine zA 7 ?_;refine yy 9 ?_;exact QR (0, p0, o0) zu ⟨by dsimp only; omega, by simp [xm, *]⟩ zK
  by_cases e6 : op = 6
  ·refine tr 4 ?_;refine Lo 5 zD rfl (hat.at_ rfl) ?_;refine zA 7 ?_;refine zA 6 ?_;refine zA 6 ?_;refine zA 5 ?_;refine zA 7 ?_;refine zA 5 ?_;refine yy 6 ?_;exact QR (0, p0, o0) zu ⟨by dsimp only; omega, by simp [xm, *]⟩ zK
  by_cases e7 : op = 7
  ·cases o0 with
   | true =>
     refine tr 4 ?_;refine Lo 5 zD rfl (hat.at_ rfl) ?_;refine zA 7 ?_;refine zA 6 ?_;refine zA 6 ?_;refine zA 5 ?_;refine zA 7 ?_;refine zA 5 ?_;refine zA 6 ?_;refine yy 10 ?_;refine Lo 4 O9 rfl hck ?_;exact QR (0, p0, t) zu ⟨by dsimp only; omega, by simp [xm, *]⟩ zK
   | false =>
     refine tr 4 ?_;refine Lo 5 zD rfl (hat.at_ rfl) ?_;refine zA 7 ?_;refine zA 6 ?_;refine zA 6 ?_;refine zA 5 ?_;refine zA 7 ?_;refine zA 5 ?_;refine zA 6 ?_;refine yy 15 ?_;exact QR (0, p0, false) zu ⟨by dsimp only; omega, by simp [xm, *]⟩ zK
  by_cases e8 : op = 8
  ·refine tr 4 ?_;refine Lo 5 zD rfl (hat.at_ rfl) ?_;refine zA 7 ?_;refine zA 6 ?_;refine zA 6 ?_;refine zA 5 ?_;refine zA 7 ?_;refine zA 5 ?_;refine zA 6 ?_;refine zA 7 ?_;refine yy 11 ?_;exact QR (2, p0, o0) zu ⟨by dsimp only; omega, by simp [xm, *]⟩ zK
  by_cases e9 : op = 9
  ·refine tr 4 ?_;refine Lo 5 zD rfl (hat.at_ rfl) ?_;refine zA 7 ?_;refine zA 6 ?_;refine zA 6 ?_;refine zA 5 ?_;refine zA 7 ?_;refine zA 5 ?_;refine zA 6 ?_;refine zA 7 ?_;refine zA 6 ?_;refine yy 11 ?_;exact QR (2, p0, o0) zu ⟨by dsimp only; omega, by simp [xm, *]⟩ zK
  by_cases e10 : op = 10
  ·refine tr 4 ?_;refine Lo 5 zD rfl (hat.at_ rfl) ?_;refine zA 7 ?_;refine zA 6 ?_;refine zA 6 ?_;refine zA 5 ?_;refine zA 7 ?_;refine zA 5 ?_;refine zA 6 ?_;refine zA 7 ?_;refine zA 6 ?_;refine zA 6 ?_;refine yy 11 ?_;exact QR (2, p0, o0) zu ⟨by dsimp only; omega, by simp [xm, *]⟩ zK
  by_cases e11 : op = 11
  ·refine tr 4 ?_;refine Lo 5 zD rfl (hat.at_ rfl) ?_;refine zA 7 ?_;refine zA 6 ?_;refine zA 6 ?_;refine zA 5 ?_;refine zA 7 ?_;refine zA 5 ?_;refine zA 6 ?_;refine zA 7 ?_;refine zA 6 ?_;refine zA 6 ?_;refine zA 6 ?_;refine yy 11 ?_;exact QR (2, p0, o0) zu ⟨by dsimp only; omega, by simp [xm, *]⟩ zK
  by_cases e12 : op = 12
  ·refine tr 4 ?_;refine Lo 5 zD rfl (hat.at_ rfl) ?_;refine zA 7 ?_;refine zA 6 ?_;refine zA 6 ?_;refine zA 5 ?_;refine zA 7 ?_;refine zA 5 ?_;refine zA 6 ?_;refine zA 7 ?_;refine zA 6 ?_;refine zA 6 ?_;refine zA 6 ?_;refine zA 5 ?_;refine yy 8 ?_;exact QR (2, p0, o0) zu ⟨by dsimp only; omega, by simp [xm, *]⟩ zK
  refine tr 4 ?_;refine Lo 5 zD rfl (hat.at_ rfl) ?_;refine zA 7 ?_;refine zA 6 ?_;refine zA 6 ?_;refine zA 5 ?_;refine zA 7 ?_;refine zA 5 ?_;refine zA 6 ?_;refine zA 7 ?_;refine zA 6 ?_;refine zA 6 ?_;refine zA 6 ?_;refine zA 5 ?_;refine zA 11 ?_;refine zC ?_
  exact xi zX ⟨rfl, false, rfl, fun h => (by cases h), fun h => by cases h with | mk hh _ => simp [xm, *] at hh⟩
 rintro ⟨k, p, o⟩ ⟨hk2, hh⟩;dsimp only at hh hk2 ⊢;by_cases hg : xm t op n who kids.length = true
 ·rw [hg] at hh;have hh2 := hh.symm;simp only [Bool.and_eq_true, decide_eq_true_eq] at hh2;obtain ⟨⟨rfl, rfl⟩, hkl⟩ := hh2;refine tr 13 ?_;refine Lo 2 wK rfl (hat.at_ rfl) ?_;refine ym 12 ?_;refine Lo 5 wK rfl (hat.at_ rfl) ?_
  refine zN (α := Nat) (fun i => [(0, .pointer (some ⟨b, 0, none⟩)), (1, .pointer (some a)), (84, .int .i64 (kids.length : Nat)), (85, .int .i64 (i : Nat))]) (fun _ => []) (fun i => i <= kids.length /\ ∀ (j : Nat) (h : j < kids.length), j < i -> ej t kids[j]) (fun i => kids.length - i) 0 eV zu ⟨Nat.zero_le _, fun _ _ h => by cases h⟩ ?_
  rintro i ⟨hi, hdone⟩
  try dsimp only at hi hdone
  try dsimp only
  by_cases hlt : i < kids.length
  ·have hA : A.isSome = true := hr.isSome ze;have hc := fun m1 (hm1 : Le m m1) => ih i hlt m1 (hm.trans hm1) ((sa A).add (i * 4)) b t (((hr.elem (i * 4) 4).mono hm).mono hm1) (yA hm1 hck);refine tr 2 ?_;refine xI 20 ?_;refine Lo 1 wK rfl (hat.at_ rfl) ?_;refine pe 0 (zx bR rfl rfl hA ze) ?_
   refine zg ((zr NT rfl (fun m1 hm1 he => hc m1 hm1) rfl ?_)) rfl;rintro _ _ ⟨rfl, r, rfl, hrr⟩;cases r with
   | true =>
     refine vr 8 ?_;refine Pa 2 ?_
     exact QR (i + 1) zu ⟨hlt, fun j h h2 => by
      by_cases hji : j < i
      ·exact hdone j h hji
      ·obtain rfl : j = i := by omega
       exact hrr.1 rfl⟩ ze
   | false =>
     refine vr 12 ?_;refine zC ?_;refine zz ?_;refine zU ?_;exact xi zX ⟨rfl, false, rfl, fun h => (by cases h), fun h => by cases h with | mk _ hk => exact absurd (hrr.2 (hk i hlt)) zK⟩
  ·refine tr 2 ?_;refine ym 6 ?_;refine zh ?_;refine zf ?_;refine qt 7 ?_;exact xi zX ⟨rfl, true, rfl, fun _ => .mk hg fun j h => hdone j h ze, fun _ => rfl⟩
 ·have hg' := Bool.eq_false_iff.2 hg;rw [hg'] at hh;cases p with
  | false =>
    refine tr 28 ?_;exact xi zX ⟨rfl, false, rfl, fun h => (by cases h), fun h => by cases h with | mk hh _ => exact absurd hh hg⟩
  | true =>
    cases o with
    | false =>
      refine tr 28 ?_;exact xi zX ⟨rfl, false, rfl, fun h => (by cases h), fun h => by cases h with | mk hh _ => exact absurd hh hg⟩
    | true =>
      have hkl : ¬ kids.length = k := fun e => by rw [e] at hh; simp at hh
      have hkl2 : ¬ ((kids.length : Nat) : Int) = (k : Nat) := by omega
      refine tr 13 ?_;refine Lo 2 wK rfl (hat.at_ rfl) ?_;refine yy 11 ?_;exact xi zX ⟨rfl, false, rfl, fun h => (by cases h), fun h => by cases h with | mk hh _ => exact absurd hh hg⟩
end
section
open Kd
def CkR (m : Mp) (b : Nat) (l : List (Bt × Bool)) (t : Bool) : Prop := ∃ bm, mc m ⟨b, 0, none⟩ = some (.map (some bm)) /\ mc m ⟨b, 1, none⟩ = some (.bool t) /\ eo m bm (Nv l)
theorem CkR.mono {m m' : Mp} {b : Nat} {l : List (Bt × Bool)} {t : Bool} (h : CkR m b l t) (hl : Le m m') : CkR m' b l t := let ⟨bm, h1, h2, h3⟩ := h; ⟨bm, yA hl h1, yA hl h2, h3.mono hl⟩
theorem EY {m0 : Mp} {cs : Lv} {x : xO} (hx : ur m0 cs x) : ∀ m, Le m0 m -> ∀ (a : Addr) (b : Nat) (l : List (Bt × Bool)) (t : Bool), At m a cs -> CkR m b l t ->
  CS Tryz.prog 275 [.pointer (some ⟨b, 0, none⟩), .pointer (some a)] m [] (fun v L' => L' = [] /\ ∃ r, v = .bool r /\ (r = true ↔ gZ (jV l) t x)) := by
 induction hx with
 | @mk op who name nums kids A B la ca lb cb vs us ho hw hn hla hma hra hva hka hlb hmb hrb hvb hkb ih =>
 subst hla hlb;intro m hm a b l t hat hck;have hck0 := hck;obtain ⟨bm, hk0, hk1, hmap⟩ := hck;unfold maxLen at hma hmb;refine zM [.tmp 4] Tryz.func275 rfl rfl rfl ?_;refine tr 12 ?_
 refine bt (α := Unit) (fun _ => [(0, .pointer (some ⟨b, 0, none⟩)), (1, .pointer (some a)), (5, .int .i64 0), (6, .int .i64 0), (7, .bool (decide (who = 0) && decide (name = [])))]) (fun _ => []) (fun _ => True) ?_ ?_
 ·by_cases hw0 : who = 0
  ·rw [decide_eq_true hw0, Bool.true_and];by_cases hn0 : name = []
   ·rw [decide_eq_true hn0];refine tr 4 ?_;refine Lo 0 zD rfl (hat.at_ rfl) ?_;refine yy 4 ?_;refine Lo 0 ey rfl (hat.at_ rfl) ?_;refine yy 3 ?_;exact QR () zu trivial zK
   ·rw [decide_eq_false hn0];refine tr 4 ?_;refine Lo 0 zD rfl (hat.at_ rfl) ?_;refine yy 4 ?_;refine Lo 0 ey rfl (hat.at_ rfl) ?_;refine zA 3 ?_;exact QR () zu trivial zK
  ·rw [decide_eq_false hw0, Bool.false_and];refine tr 4 ?_;refine Lo 0 zD rfl (hat.at_ rfl) ?_;refine zA 9 ?_;exact QR () zu trivial zK
 rintro ⟨⟩ -;refine tr 2 ?_;refine ap (α := Nat × Nat × Bool) (fun y => [(0, .pointer (some ⟨b, 0, none⟩)), (1, .pointer (some a)), (5, .int .i64 (y.1 : Nat)), (6, .int .i64 (y.2.1 : Nat)), (7, .bool y.2.2)]) (fun _ => []) (fun y => wM (jV l) op who name nums.length kids.length = (y.2.2 && decide (nums.length = y.1) && decide (kids.length = y.2.1))) ?_ ?_
 ·generalize hz : (decide (who = 0) && decide (name = [])) = z0;by_cases e0 : op = 0
  ·refine tr 4 ?_;refine Lo 6 zD rfl (hat.at_ rfl) ?_;refine yy 11 ?_;exact QR (2, 0, z0) zu (by simp [wM, *]) zK
  by_cases e1 : op = 1
  ·refine tr 4 ?_;refine Lo 6 zD rfl (hat.at_ rfl) ?_;refine zA 6 ?_;refine yy 11 ?_;exact QR (2, 0, z0) zu (by simp [wM, *]) zK
  by_cases e2 : op = 2
  ·refine tr 4 ?_;refine Lo 6 zD rfl (hat.at_ rfl) ?_;refine zA 6 ?_;refine zA 5 ?_;refine yy 8 ?_;exact QR (2, 0, z0) zu (by simp [wM, *]) zK
  by_cases e3 : op = 3
  ·refine tr 4 ?_;refine Lo 6 zD rfl (hat.at_ rfl) ?_;refine zA 6 ?_;refine zA 5 ?_;refine zA 6 ?_;refine yy 8 ?_;exact QR (0, 1, z0) zu (by simp [wM, *]) zK
  by_cases e4 : op = 4
  ·refine tr 4 ?_;refine Lo 6 zD rfl (hat.at_ rfl) ?_;refine zA 6 ?_;refine zA 5 ?_;refine zA 6 ?_;refine zA 7 ?_;refine yy 11 ?_;exact QR (0, 2, z0) zu (by simp [wM, *]) zK
  by_cases e5 : op = 5
  ·refine tr 4 ?_;refine Lo 6 zD rfl (hat.at_ rfl) ?_;refine zA 6 ?_;refine zA 5 ?_;refine zA 6 ?_;refine zA 7 ?_;refine zA 5 ?_;refine yy 8 ?_;exact QR (0, 2, z0) zu (by simp [wM, *]) zK
  by_cases e6 : op = 6
  ·have hgu := ZB (s := name) (l := l);cases hu : jV l name with
   | none =>
     rw [hu] at hgu;refine tr 4 ?_;refine Lo 6 zD rfl (hat.at_ rfl) ?_;refine zA 6 ?_;refine zA 5 ?_;refine zA 6 ?_;refine zA 7 ?_;refine zA 5 ?_;refine zA 6 ?_;refine yy 5 ?_;refine yf (sT [0, 1, 2, 4, 5, 6, 103, 107, 108, 9, 10, 11, 12] .done) mixed zn (fun _ _ _ _ hq => hq) ?_;refine vt 6 ?_;refine Vu 0 rfl (zw Ky rfl hk0) ?_
     refine Vu 0 rfl (zw ey rfl (hat.at_ rfl)) ?_;refine Vu 4 rfl (Z9 hmap uj rfl rfl gH) ?_;refine Vm 4 ?_;rw [hgu];refine vr 9 ?_;exact QR (0, 0, false) zu (by simp [wM, *]) zK
   | some u =>
     rw [hu] at hgu;refine tr 4 ?_;refine Lo 6 zD rfl (hat.at_ rfl) ?_;refine zA 6 ?_;refine zA 5 ?_;refine zA 6 ?_;refine zA 7 ?_;refine zA 5 ?_;refine zA 6 ?_;refine yy 5 ?_;refine yf (sT [0, 1, 2, 4, 5, 6, 103, 107, 108, 9, 10, 11, 12] .done) mixed zn (fun _ _ _ _ hq => hq) ?_;refine vt 6 ?_;refine Vu 0 rfl (zw Ky rfl hk0) ?_
     refine Vu 0 rfl (zw ey rfl (hat.at_ rfl)) ?_;refine Vu 4 rfl (Z9 hmap uj rfl rfl gH) ?_;refine Vm 4 ?_;rw [hgu];refine vr 3 ?_;refine Lo 0 zD rfl (hat.at_ rfl) ?_;refine Cr ec rfl (fun m' hm he => (jM who)) ?_;rintro _ rfl;refine vr 4 ?_;exact QR (0, 0, uh who) zu (by simp [wM, *]) zK
  refine tr 4 ?_;refine Lo 6 zD rfl (hat.at_ rfl) ?_;refine zA 6 ?_;refine zA 5 ?_;refine zA 6 ?_;refine zA 7 ?_;refine zA 5 ?_;refine zA 6 ?_;refine zA 11 ?_;refine zC ?_;exact xi zX ⟨rfl, false, rfl, fun h => (by cases h), fun h => by cases h with | mk hh _ _ => simp [wM, *] at hh⟩
 rintro ⟨k1, k2, o⟩ hh
 try dsimp only at hh
 try dsimp only
 by_cases hg : wM (jV l) op who name nums.length kids.length = true
 ·rw [hg] at hh;have hh2 := hh.symm;simp only [Bool.and_eq_true, decide_eq_true_eq] at hh2;obtain ⟨⟨rfl, e1⟩, e2⟩ := hh2;have e1' : ((nums.length : Nat) : Int) = (k1 : Nat) := by omega
  have e2' : ((kids.length : Nat) : Int) = (k2 : Nat) := by omega
  refine tr 9 ?_;refine Lo 2 wK rfl (hat.at_ rfl) ?_;refine ym 5 ?_;refine Lo 2 kX rfl (hat.at_ rfl) ?_;refine ym 12 ?_;refine Lo 5 wK rfl (hat.at_ rfl) ?_
  refine zN (α := Nat) (fun i => [(0, .pointer (some ⟨b, 0, none⟩)), (1, .pointer (some a)), (81, .int .i64 (nums.length : Nat)), (82, .int .i64 (i : Nat))]) (fun _ => []) (fun i => i <= nums.length /\ ∀ (j : Nat) (h : j < nums.length), j < i -> ej t nums[j]) (fun i => nums.length - i) 0 eV zu ⟨Nat.zero_le _, fun _ _ h => by cases h⟩ ?_
  rintro i ⟨hi, hdone⟩
  try dsimp only at hi hdone
  try dsimp only
  by_cases hlt : i < nums.length
  ·have hA : A.isSome = true := hra.isSome ze;have hc := fun m1 (hm1 : Le m m1) => TE (hka i hlt) m1 (hm.trans hm1) ((sa A).add (i * 4)) b t (((hra.elem (i * 4) 4).mono hm).mono hm1) (yA hm1 hk1);refine tr 2 ?_;refine xI 20 ?_;refine Lo 1 wK rfl (hat.at_ rfl) ?_;refine pe 0 (zx bR rfl rfl hA ze) ?_
   refine zg ((zr NT rfl (fun m1 hm1 he => hc m1 hm1) rfl ?_)) rfl;rintro _ _ ⟨rfl, r, rfl, hrr⟩;cases r with
   | true =>
     refine vr 8 ?_;refine Pa 2 ?_
     exact QR (i + 1) zu ⟨hlt, fun j h h2 => by
      by_cases hji : j < i
      ·exact hdone j h hji
      ·obtain rfl : j = i := by omega
       exact hrr.1 rfl⟩ ze
   | false =>
     refine vr 12 ?_;refine zC ?_;refine zz ?_;refine zU ?_;exact xi zX ⟨rfl, false, rfl, fun h => (by cases h), fun h => by cases h with | mk _ hk _ => exact absurd (hrr.2 (hk i hlt)) zK⟩
  have hdn : ∀ (j : Nat) (h : j < nums.length), ej t nums[j] := fun j h => hdone j h ze;clear hdone;refine tr 2 ?_;refine ym 6 ?_;refine zh ?_;refine zf ?_;refine qt 7 ?_;refine Lo 5 kX rfl (hat.at_ rfl) ?_
  refine zN (α := Nat) (fun i => [(0, .pointer (some ⟨b, 0, none⟩)), (1, .pointer (some a)), (99, .int .i64 (kids.length : Nat)), (100, .int .i64 (i : Nat))]) (fun _ => []) (fun i => i <= kids.length /\ ∀ (j : Nat) (h : j < kids.length), j < i -> gZ (jV l) t kids[j]) (fun i => kids.length - i) 0 eV zu ⟨Nat.zero_le _, fun _ _ h => by cases h⟩ ?_
  clear hlt hi i;rintro i ⟨hi, hdone⟩
  try dsimp only at hi hdone
  try dsimp only
  by_cases hlt : i < kids.length
  ·have hA : B.isSome = true := hrb.isSome ze;have hc := fun m1 (hm1 : Le m m1) => ih i hlt m1 (hm.trans hm1) ((sa B).add (i * 5)) b l t (((hrb.elem (i * 5) 5).mono hm).mono hm1) (hck0.mono hm1);refine tr 2 ?_;refine xI 20 ?_;refine Lo 1 kX rfl (hat.at_ rfl) ?_;refine pe 0 (zx Gi rfl rfl hA ze) ?_
   refine zg ((zr T4 rfl (fun m1 hm1 he => hc m1 hm1) rfl ?_)) rfl;rintro _ _ ⟨rfl, r, rfl, hrr⟩;cases r with
   | true =>
     refine vr 8 ?_;refine Pa 2 ?_
     exact QR (i + 1) zu ⟨hlt, fun j h h2 => by
      by_cases hji : j < i
      ·exact hdone j h hji
      ·obtain rfl : j = i := by omega
       exact hrr.1 rfl⟩ ze
   | false =>
     refine vr 12 ?_;refine zC ?_;refine zz ?_;refine zU ?_;exact xi zX ⟨rfl, false, rfl, fun h => (by cases h), fun h => by cases h with | mk _ _ hk => exact absurd (hrr.2 (hk i hlt)) zK⟩
  ·refine tr 2 ?_;refine ym 6 ?_;refine zh ?_;refine zf ?_;refine qt 7 ?_;exact xi zX ⟨rfl, true, rfl, fun _ => .mk hg hdn fun j h => hdone j h ze, fun _ => rfl⟩
 ·have hg' := Bool.eq_false_iff.2 hg;rw [hg'] at hh;cases o with
  | false =>
    refine tr 33 ?_;exact xi zX ⟨rfl, false, rfl, fun h => (by cases h), fun h => by cases h with | mk hh _ _ => exact absurd hh hg⟩
  | true =>
    by_cases hk1' : ((nums.length : Nat) : Int) = (k1 : Nat)
    ·have h1 : nums.length = k1 := by omega
     have h2 : ¬ ((kids.length : Nat) : Int) = (k2 : Nat) := fun e => by
      have e' : kids.length = k2 := by omega
      rw [e', h1] at hh
      simp at hh
     refine tr 9 ?_;refine Lo 2 wK rfl (hat.at_ rfl) ?_;refine ym 5 ?_;refine Lo 2 kX rfl (hat.at_ rfl) ?_;refine yy 11 ?_;exact xi zX ⟨rfl, false, rfl, fun h => (by cases h), fun h => by cases h with | mk hh _ _ => exact absurd hh hg⟩
    ·refine tr 9 ?_;refine Lo 2 wK rfl (hat.at_ rfl) ?_;refine yy 20 ?_;exact xi zX ⟨rfl, false, rfl, fun h => (by cases h), fun h => by cases h with | mk hh _ _ => exact absurd hh hg⟩
end
section
open Kd
theorem Ft {m : Mp} {cs : Lv} {x : xU} (hx : vE m cs x) {a : Addr} (hat : At m a cs) : CS Tryz.prog 271 [.pointer (some a)] m [] (uM (.bool (Kn x))) := by
 obtain ⟨op, who, nop, nn, nwho, nA, nlen, nc, name, cop, cwho, cname, cA, cla, cca, cB, clb, ccb, A, la, ca, B, lb, cb, n, cond, thn, els, rfl, rfl, -, hn, hc, ⟨ht, ht2, -⟩, ⟨he, he2, -⟩⟩ := vE.parts hx;clear hx;cases hn with
 | @mk _ _ _ nk _ _ _ _ _ hnl hnm _ _ _ =>
 cases hc with
 | @mk _ _ _ cns ck _ _ _ _ _ _ _ _ _ _ _ hla hma _ _ _ hlb hmb _ _ _ =>
 subst hnl hla hlb ht he;have hatn := hat.sub 2 4;have hatc := hat.sub 7 5;dsimp only [List.drop, List.take] at hatn hatc
 show CS Tryz.prog 271 [.pointer (some a)] m [] (uM (.bool ((yl op || (decide (nop = 0) && decide (nn = 0) && decide (nwho = 0) && decide (nk.length = 0))) && (decide (op = 7) || decide (name = [])) && (decide (op = 8) || (decide (cop = 0) && decide (cwho = 0) && decide (cname = []) && decide (QK cns.length ck.length thn.length els.length = 0))))));unfold maxLen at hnm hma hmb ht2 he2
 refine zM [.tmp 2] Tryz.func271 rfl rfl rfl ?_;refine tr 6 ?_;refine bt (α := Unit) (fun _ => [(0, .pointer (some a)), (3, .bool (yl op || (decide (nop = 0) && decide (nn = 0) && decide (nwho = 0) && decide (nk.length = 0))))]) (fun _ => []) (fun _ => True) ?_ ?_
 ·refine tr 4 ?_;refine Lo 0 zD rfl (hat.at_ rfl) ?_;refine Cr NU rfl (fun m' hm he => (ZQ op)) ?_;rintro _ rfl;cases hcb : yl op with
  | true =>
    refine vr 35 ?_;exact QR () zu trivial zK
  | false =>
    rw [Bool.false_or];by_cases h1 : nop = 0
    ·rw [decide_eq_true h1, Bool.true_and];by_cases h2 : nn = 0
     ·rw [decide_eq_true h2, Bool.true_and];by_cases h3 : nwho = 0
      ·rw [decide_eq_true h3, Bool.true_and];by_cases h4 : nk.length = 0
       ·rw [decide_eq_true h4];refine vr 5 ?_;refine Lo 0 zD rfl (hatn.at_ rfl) ?_;refine yy 5 ?_;refine Lo 0 yH rfl (hatn.at_ rfl) ?_;refine yy 6 ?_;refine Lo 0 zD rfl (hatn.at_ rfl) ?_;refine yy 6 ?_;refine Lo 1 wK rfl (hatn.at_ rfl) ?_;refine xI 4 ?_;exact QR () zu trivial zK
       ·rw [decide_eq_false h4];refine vr 5 ?_;refine Lo 0 zD rfl (hatn.at_ rfl) ?_;refine yy 5 ?_;refine Lo 0 yH rfl (hatn.at_ rfl) ?_;refine yy 6 ?_;refine Lo 0 zD rfl (hatn.at_ rfl) ?_;refine yy 6 ?_;refine Lo 1 wK rfl (hatn.at_ rfl) ?_;refine ym 4 ?_;exact QR () zu trivial zK
      ·rw [decide_eq_false h3, Bool.false_and];refine vr 5 ?_;refine Lo 0 zD rfl (hatn.at_ rfl) ?_;refine yy 5 ?_;refine Lo 0 yH rfl (hatn.at_ rfl) ?_;refine yy 6 ?_;refine Lo 0 zD rfl (hatn.at_ rfl) ?_;refine zA 13 ?_;exact QR () zu trivial zK
     ·rw [decide_eq_false h2, Bool.false_and];refine vr 5 ?_;refine Lo 0 zD rfl (hatn.at_ rfl) ?_;refine yy 5 ?_;refine Lo 0 yH rfl (hatn.at_ rfl) ?_;refine zA 21 ?_;exact QR () zu trivial zK
    ·rw [decide_eq_false h1, Bool.false_and];refine vr 5 ?_;refine Lo 0 zD rfl (hatn.at_ rfl) ?_;refine zA 28 ?_;exact QR () zu trivial zK
 rintro ⟨⟩ -;generalize (yl op || (decide (nop = 0) && decide (nn = 0) && decide (nwho = 0) && decide (nk.length = 0))) = z1;refine tr 1 ?_;refine bt (α := Unit) (fun _ => [(0, .pointer (some a)), (3, .bool z1), (4, .bool (decide (op = 7) || decide (name = [])))]) (fun _ => []) (fun _ => True) ?_ ?_
 ·by_cases h7 : op = 7
  ·rw [decide_eq_true h7, Bool.true_or];refine tr 4 ?_;refine Lo 0 zD rfl (hat.at_ rfl) ?_;refine yy 9 ?_;exact QR () zu trivial zK
  ·rw [decide_eq_false h7, Bool.false_or];by_cases h1 : name = []
   ·rw [decide_eq_true h1];refine tr 4 ?_;refine Lo 0 zD rfl (hat.at_ rfl) ?_;refine zA 4 ?_;refine Lo 0 ey rfl (hat.at_ rfl) ?_;refine yy 3 ?_;exact QR () zu trivial zK
   ·rw [decide_eq_false h1];refine tr 4 ?_;refine Lo 0 zD rfl (hat.at_ rfl) ?_;refine zA 4 ?_;refine Lo 0 ey rfl (hat.at_ rfl) ?_;refine zA 3 ?_;exact QR () zu trivial zK
 rintro ⟨⟩ -;generalize (decide (op = 7) || decide (name = [])) = z2;refine tr 9 ?_;refine bt (α := Unit) (fun _ => [(0, .pointer (some a)), (3, .bool z1), (4, .bool z2), (6, .bool (decide (op = 8) || (decide (cop = 0) && decide (cwho = 0) && decide (cname = []) && decide (QK cns.length ck.length thn.length els.length = 0))))]) (fun _ => []) (fun _ => True) ?_ ?_
 ·by_cases h8 : op = 8
  ·rw [decide_eq_true h8, Bool.true_or];refine yf (sT [0, 1, 2, 103, 4, 5, 6, 7, 8, 109, 10, 11, 12, 13, 14, 115, 16, 17, 18, 19, 20, 21, 122, 23, 24, 25, 26, 27, 28, 31, 32, 33, 37, 38, 39, 43, 44, 45, 129, 30, 134, 35, 36, 140, 41, 42, 146, 47, 48, 49, 50, 51, 52] .done) mixed zn (fun _ _ _ _ hq => hq) ?_;refine vt 3 ?_;refine Vu 0 rfl (zw zD rfl (hat.at_ rfl)) ?_
   refine Vt 48 rfl (dt (yY rfl rfl) wo) ?_;refine Vm 0 ?_;exact QR () zu trivial zK
  ·rw [decide_eq_false h8, Bool.false_or];by_cases h1 : cop = 0
   ·rw [decide_eq_true h1, Bool.true_and];by_cases h2 : cwho = 0
    ·rw [decide_eq_true h2, Bool.true_and];by_cases h3 : cname = []
     ·rw [decide_eq_true h3, Bool.true_and];by_cases h4 : QK cns.length ck.length thn.length els.length = 0
      ·rw [decide_eq_true h4];unfold QK at h4;refine yf (sT [0, 1, 2, 103, 4, 5, 6, 7, 8, 109, 10, 11, 12, 13, 14, 115, 16, 17, 18, 19, 20, 21, 122, 23, 24, 25, 26, 27, 28, 31, 32, 33, 37, 38, 39, 43, 44, 45, 129, 30, 134, 35, 36, 140, 41, 42, 146, 47, 48, 49, 50, 51, 52] .done) mixed zn (fun _ _ _ _ hq => hq) ?_;refine vt 3 ?_;refine Vu 0 rfl (zw zD rfl (hat.at_ rfl)) ?_
       refine Vt 4 rfl (df (yY rfl rfl) wo) ?_;refine Vu 0 rfl (zw zD rfl (hatc.at_ rfl)) ?_;refine Vt 4 rfl (dt (yY rfl rfl) wo) ?_;refine Vu 0 rfl (zw zD rfl (hatc.at_ rfl)) ?_;refine Vt 5 rfl (dt (yY rfl rfl) wo) ?_;refine Vu 0 rfl (zw ey rfl (hatc.at_ rfl)) ?_;refine Vt 14 rfl (dt (Yd rfl rfl) wo) ?_
       refine Vu 1 rfl (zw wK rfl (hatc.at_ rfl)) ?_;refine Vu 1 rfl (zw kX rfl (hatc.at_ rfl)) ?_;refine Vt 0 rfl (yp rfl rfl rfl) ?_;refine Vu 1 rfl (zw uQ rfl (hat.at_ rfl)) ?_;refine Vt 0 rfl (yp rfl rfl rfl) ?_;refine Vu 1 rfl (zw uQ rfl (hat.at_ rfl)) ?_;refine Vt 0 rfl (yp rfl rfl rfl) ?_;refine Vt 3 rfl (dt (yY rfl rfl) wo) ?_
       refine Vm 0 ?_;exact QR () zu trivial zK
      ·rw [decide_eq_false h4];unfold QK at h4;refine yf (sT [0, 1, 2, 103, 4, 5, 6, 7, 8, 109, 10, 11, 12, 13, 14, 115, 16, 17, 18, 19, 20, 21, 122, 23, 24, 25, 26, 27, 28, 31, 32, 33, 37, 38, 39, 43, 44, 45, 129, 30, 134, 35, 36, 140, 41, 42, 146, 47, 48, 49, 50, 51, 52] .done) mixed zn (fun _ _ _ _ hq => hq) ?_;refine vt 3 ?_;refine Vu 0 rfl (zw zD rfl (hat.at_ rfl)) ?_
       refine Vt 4 rfl (df (yY rfl rfl) wo) ?_;refine Vu 0 rfl (zw zD rfl (hatc.at_ rfl)) ?_;refine Vt 4 rfl (dt (yY rfl rfl) wo) ?_;refine Vu 0 rfl (zw zD rfl (hatc.at_ rfl)) ?_;refine Vt 5 rfl (dt (yY rfl rfl) wo) ?_;refine Vu 0 rfl (zw ey rfl (hatc.at_ rfl)) ?_;refine Vt 14 rfl (dt (Yd rfl rfl) wo) ?_
       refine Vu 1 rfl (zw wK rfl (hatc.at_ rfl)) ?_;refine Vu 1 rfl (zw kX rfl (hatc.at_ rfl)) ?_;refine Vt 0 rfl (yp rfl rfl rfl) ?_;refine Vu 1 rfl (zw uQ rfl (hat.at_ rfl)) ?_;refine Vt 0 rfl (yp rfl rfl rfl) ?_;refine Vu 1 rfl (zw uQ rfl (hat.at_ rfl)) ?_;refine Vt 0 rfl (yp rfl rfl rfl) ?_;refine Vt 3 rfl (df (yY rfl rfl) wo) ?_
       refine Vm 0 ?_;exact QR () zu trivial zK
     ·rw [decide_eq_false h3, Bool.false_and];refine yf (sT [0, 1, 2, 103, 4, 5, 6, 7, 8, 109, 10, 11, 12, 13, 14, 115, 16, 17, 18, 19, 20, 21, 122, 23, 24, 25, 26, 27, 28, 31, 32, 33, 37, 38, 39, 43, 44, 45, 129, 30, 134, 35, 36, 140, 41, 42, 146, 47, 48, 49, 50, 51, 52] .done) mixed zn (fun _ _ _ _ hq => hq) ?_;refine vt 3 ?_;refine Vu 0 rfl (zw zD rfl (hat.at_ rfl)) ?_
      refine Vt 4 rfl (df (yY rfl rfl) wo) ?_;refine Vu 0 rfl (zw zD rfl (hatc.at_ rfl)) ?_;refine Vt 4 rfl (dt (yY rfl rfl) wo) ?_;refine Vu 0 rfl (zw zD rfl (hatc.at_ rfl)) ?_;refine Vt 5 rfl (dt (yY rfl rfl) wo) ?_;refine Vu 0 rfl (zw ey rfl (hatc.at_ rfl)) ?_;refine Vt 29 rfl (df (Yd rfl rfl) wo) ?_;refine Vm 0 ?_
      exact QR () zu trivial zK
    ·rw [decide_eq_false h2, Bool.false_and];refine yf (sT [0, 1, 2, 103, 4, 5, 6, 7, 8, 109, 10, 11, 12, 13, 14, 115, 16, 17, 18, 19, 20, 21, 122, 23, 24, 25, 26, 27, 28, 31, 32, 33, 37, 38, 39, 43, 44, 45, 129, 30, 134, 35, 36, 140, 41, 42, 146, 47, 48, 49, 50, 51, 52] .done) mixed zn (fun _ _ _ _ hq => hq) ?_;refine vt 3 ?_;refine Vu 0 rfl (zw zD rfl (hat.at_ rfl)) ?_
     refine Vt 4 rfl (df (yY rfl rfl) wo) ?_;refine Vu 0 rfl (zw zD rfl (hatc.at_ rfl)) ?_;refine Vt 4 rfl (dt (yY rfl rfl) wo) ?_;refine Vu 0 rfl (zw zD rfl (hatc.at_ rfl)) ?_;refine Vt 36 rfl (df (yY rfl rfl) wo) ?_;refine Vm 0 ?_;exact QR () zu trivial zK
   ·rw [decide_eq_false h1, Bool.false_and];refine yf (sT [0, 1, 2, 103, 4, 5, 6, 7, 8, 109, 10, 11, 12, 13, 14, 115, 16, 17, 18, 19, 20, 21, 122, 23, 24, 25, 26, 27, 28, 31, 32, 33, 37, 38, 39, 43, 44, 45, 129, 30, 134, 35, 36, 140, 41, 42, 146, 47, 48, 49, 50, 51, 52] .done) mixed zn (fun _ _ _ _ hq => hq) ?_;refine vt 3 ?_;refine Vu 0 rfl (zw zD rfl (hat.at_ rfl)) ?_
    refine Vt 4 rfl (df (yY rfl rfl) wo) ?_;refine Vu 0 rfl (zw zD rfl (hatc.at_ rfl)) ?_;refine Vt 42 rfl (df (yY rfl rfl) wo) ?_;refine Vm 0 ?_;exact QR () zu trivial zK
 rintro ⟨⟩ -;generalize (decide (op = 8) || (decide (cop = 0) && decide (cwho = 0) && decide (cname = []) && decide (QK cns.length ck.length thn.length els.length = 0))) = z3;cases z1 with
 | false =>
   refine tr 13 ?_;exact xi zX ⟨rfl, rfl⟩
 | true =>
   cases z2 with
   | false =>
     refine tr 13 ?_;exact xi zX ⟨rfl, rfl⟩
   | true =>
     refine tr 13 ?_;exact xi zX ⟨rfl, rfl⟩
end
section
open Wd Kd
theorem H0 {u : Us} {t : Bool} {d : Nat} {op who : Int} {n : vC} {name : Bt} {c : xO} {a b : List xU} : ax u t d (.mk op who n name c a b) ↔
  (Kn (.mk op who n name c a b) = true /\ (yl op = true -> ej t n)) /\ yj u t op who name = true /\ (op = 8 -> gZ u t c /\ u3 u t (d + 1) a /\ u3 u t (d + 1) b) := by
 constructor
 ·intro h;cases h with
  | mk hz hn hw hc ha hak hb hbk => exact ⟨⟨hz, hn⟩, hw, fun h8 => ⟨hc h8, ⟨(ha h8).1, (ha h8).2, hak h8⟩, ⟨hb h8, (ha h8).2, hbk h8⟩⟩⟩
 ·rintro ⟨⟨hz, hn⟩, hw, h8⟩;exact .mk hz hn hw (fun e => (h8 e).1) (fun e => ⟨(h8 e).2.1.1, (h8 e).2.1.2.1⟩) (fun e => (h8 e).2.1.2.2) (fun e => (h8 e).2.2.1) (fun e => (h8 e).2.2.2.2)
def LC (l : List xU) : Prop := ∀ (m : Mp) (A : Oa) (cap b d : Nat) (ul : List (Bt × Bool)) (t : Bool), jq m A l.length l -> CkR m b ul t -> d <= 9 ->
  CS Tryz.prog 168 [.pointer (some ⟨b, 0, none⟩), .slice A l.length cap, .int .i64 (d : Nat)] m [] (fun v L' => L' = [] /\ ∃ r, v = .bool r /\ (r = true ↔ u3 (jV ul) t d l))
theorem UC {l : List xU} (ih : ∀ (i : Nat) (h : i < l.length) (op who : Int) (n : vC) (name : Bt) (c : xO) (a e : List xU), l[i] = .mk op who n name c a e -> LC a /\ LC e) : LC l := by
 rintro m A cap b d ul t ⟨-, hml, vs, hrd, hvl, hel⟩ hck hd9;have hck0 := hck;obtain ⟨bm, hk0, hk1, hmap⟩ := hck;unfold maxLen at hml;refine zM [.tmp 6] Tryz.func168 rfl rfl rfl ?_;by_cases h16 : l.length <= 16
 rotate_left
 ·refine tr 10 ?_;refine xI 14 ?_;exact xi zX ⟨rfl, false, rfl, fun h => (by cases h), fun h => absurd h.1 h16⟩
 by_cases h8 : d <= 8
 rotate_left
 ·refine tr 10 ?_;refine ym 2 ?_;refine xI 11 ?_;exact xi zX ⟨rfl, false, rfl, fun h => (by cases h), fun h => absurd h.2.1 h8⟩
 refine tr 10 ?_;refine ym 2 ?_;refine ym 15 ?_
 refine zN (α := Nat) (fun i => [(0, .pointer (some ⟨b, 0, none⟩)), (1, .slice A l.length cap), (2, .int .i64 (d : Nat)), (18, .int .i64 (l.length : Nat)), (19, .int .i64 (i : Nat))]) (fun _ => []) (fun i => i <= l.length /\ ∀ (j : Nat) (h : j < l.length), j < i -> ax (jV ul) t d l[j]) (fun i => l.length - i) 0 Kr zu ⟨Nat.zero_le _, fun _ _ h => by cases h⟩ ?_
 rintro i ⟨hi, hdone⟩
 try dsimp only at hi hdone
 try dsimp only
 by_cases hlt : i < l.length
 rotate_left
 ·refine tr 2 ?_;refine ym 6 ?_;refine zh ?_;refine zf ?_;refine qt 7 ?_;exact xi zX ⟨rfl, true, rfl, fun _ => ⟨h16, h8, fun j h => hdone j h ze⟩, fun _ => rfl⟩
 have hA : A.isSome = true := hrd.isSome ze;have hx := hel i hlt;have hat := hrd.elem (i * 14) 14;have hih := ih i hlt;have hfin : ¬ ax (jV ul) t d l[i] -> ¬ u3 (jV ul) t d l := fun h1 h2 => h1 (h2.2.2 i hlt)
 have hnext : ax (jV ul) t d l[i] -> ∀ (j : Nat) (h : j < l.length), j < i + 1 -> ax (jV ul) t d l[j] := fun h1 j h h2 => by
  by_cases hji : j < i
  ·exact hdone j h hji
  ·obtain rfl : j = i := by omega
   exact h1
 generalize l[i] = x at hx hih hfin hnext;generalize (vs.drop (i * 14)).take 14 = cs at hx hat;have hx0 := hx;obtain ⟨op, who, nop, nn, nwho, nA, nlen, nc, name, cop, cwho, cname, cA, cla, cca, cB, clb, ccb, TA, la, ca, EB, lb, cb, n, cond, thn, els, rfl, rfl, -, hn, hc, hthn, hels⟩ := vE.parts hx;obtain ⟨ihT, ihE⟩ := hih _ _ _ _ _ _ _ rfl;have elen := hthn.1;have elen2 := hels.1;subst elen elen2
 rw [H0] at hfin hnext;have hatn := hat.sub 2 4;have hatc := hat.sub 7 5;dsimp only [List.drop, List.take] at hatn hatc;have hzero := fun m1 (hm1 : Le m m1) => Ft (hx0.mono hm1) (hat.mono hm1);generalize Kn (.mk op who n name cond thn els) = z at hfin hnext hzero;clear hx hx0 hdone;refine tr 2 ?_;refine xI 18 ?_;refine pe 4 (zx aa rfl rfl hA ze) ?_
 refine bt (α := Bool) (fun y => [(0, .pointer (some ⟨b, 0, none⟩)), (1, .slice A l.length cap), (2, .int .i64 (d : Nat)), (18, .int .i64 (l.length : Nat)), (19, .int .i64 (i : Nat)), (8, .pointer (some ((sa A).add (i * 14)))), (9, .bool y)]) (fun _ => []) (fun y => y = true ↔ (z = true /\ (yl op = true -> ej t n))) ?_ ?_
 ·refine tr 2 ?_;refine Cr Am rfl (fun m' hm he => (hzero m' hm)) ?_;rintro _ rfl;cases z with
  | false =>
    refine vr 17 ?_;exact QR false zu vM zK
  | true =>
    refine vr 4 ?_;refine Lo 0 zD rfl (hat.at_ rfl) ?_;refine Cr NU rfl (fun m' hm he => (ZQ op)) ?_;rintro _ rfl;cases hcb : yl op with
    | false =>
      refine vr 11 ?_;exact QR true zu vM zK
    | true =>
      refine vr 6 ?_;refine zg ((zr NT rfl (fun m1 hm1 he => TE hn m1 hm1 _ b t (hatn.mono hm1) (yA hm1 hk1)) rfl ?_)) rfl;rintro _ _ ⟨rfl, r, rfl, hrr⟩;refine vr 4 ?_;exact QR r zu (by simp [hrr]) zK
 intro y hy;rw [<- hy] at hfin hnext;clear hzero hy;refine tr 2 ?_
 refine ap (α := Bool) (fun y => [(0, .pointer (some ⟨b, 0, none⟩)), (1, .slice A l.length cap), (2, .int .i64 (d : Nat)), (18, .int .i64 (l.length : Nat)), (19, .int .i64 (i : Nat)), (9, .bool y)]) (fun _ => []) (fun z => z = true ↔ (y = true /\ yj (jV ul) t op who name = true /\ (op = 8 -> gZ (jV ul) t cond /\ u3 (jV ul) t (d + 1) thn /\ u3 (jV ul) t (d + 1) els))) ?_ ?_
 ·refine tr 4 ?_;refine Lo 5 zD rfl (hat.at_ rfl) ?_;by_cases e0 : op = 0
  ·cases y with
   | false =>
     refine tr 1 ?_;refine yy 32 ?_;exact QR false zu (by simp [yj, *]) zK
   | true =>
     refine tr 1 ?_;refine yy 13 ?_;refine Lo 0 zD rfl (hat.at_ rfl) ?_;refine Cr ec rfl (fun m' hm he => (jM who)) ?_;rintro _ rfl;cases hsd : uh who with
     | true =>
       refine vr 17 ?_;exact QR true zu (by simp [yj, *]) zK
     | false =>
       by_cases hw2 : who = 2
       ·have h20 : uh 2 = false := rfl;refine vr 4 ?_;refine Lo 0 zD rfl (hat.at_ rfl) ?_;refine yy 4 ?_;refine Lo 6 O9 rfl hk1 ?_;exact QR t zu (by simp [yj, *]) zK
       ·refine vr 4 ?_;refine Lo 0 zD rfl (hat.at_ rfl) ?_;refine zA 11 ?_;exact QR false zu (by simp [yj, *]) zK
  by_cases e1 : op = 1
  ·cases y with
   | false =>
     refine tr 1 ?_;refine zA 5 ?_;refine yy 29 ?_;exact QR false zu (by simp [yj, *]) zK
   | true =>
     refine tr 1 ?_;refine zA 5 ?_;refine yy 10 ?_;refine Lo 0 zD rfl (hat.at_ rfl) ?_;refine Cr ec rfl (fun m' hm he => (jM who)) ?_;rintro _ rfl;cases hsd : uh who with
     | true =>
       refine vr 17 ?_;exact QR true zu (by simp [yj, *]) zK
     | false =>
       by_cases hw2 : who = 2
       ·have h20 : uh 2 = false := rfl;refine vr 4 ?_;refine Lo 0 zD rfl (hat.at_ rfl) ?_;refine yy 4 ?_;refine Lo 6 O9 rfl hk1 ?_;exact QR t zu (by simp [yj, *]) zK
       ·refine vr 4 ?_;refine Lo 0 zD rfl (hat.at_ rfl) ?_;refine zA 11 ?_;exact QR false zu (by simp [yj, *]) zK
  by_cases e2 : op = 2
  ·cases y with
   | false =>
     refine tr 1 ?_;refine zA 5 ?_;refine zA 7 ?_;refine yy 19 ?_;exact QR false zu (by simp [yj, *]) zK
   | true =>
     refine tr 1 ?_;refine zA 5 ?_;refine zA 7 ?_;refine yy 13 ?_;refine Lo 0 zD rfl (hat.at_ rfl) ?_;refine Cr ec rfl (fun m' hm he => (jM who)) ?_;rintro _ rfl;refine vr 4 ?_;exact QR (uh who) zu (by simp [yj, *]) zK
  by_cases e4 : op = 4
  ·cases y with
   | false =>
     refine tr 1 ?_;refine zA 5 ?_;refine zA 7 ?_;refine zA 6 ?_;refine yy 19 ?_;exact QR false zu (by simp [yj, *]) zK
   | true =>
     refine tr 1 ?_;refine zA 5 ?_;refine zA 7 ?_;refine zA 6 ?_;refine yy 13 ?_;refine Lo 0 zD rfl (hat.at_ rfl) ?_;refine Cr ec rfl (fun m' hm he => (jM who)) ?_;rintro _ rfl;refine vr 4 ?_;exact QR (uh who) zu (by simp [yj, *]) zK
  by_cases e6 : op = 6
  ·cases y with
   | false =>
     refine tr 1 ?_;refine zA 5 ?_;refine zA 7 ?_;refine zA 6 ?_;refine zA 5 ?_;refine yy 16 ?_;exact QR false zu (by simp [yj, *]) zK
   | true =>
     refine tr 1 ?_;refine zA 5 ?_;refine zA 7 ?_;refine zA 6 ?_;refine zA 5 ?_;refine yy 10 ?_;refine Lo 0 zD rfl (hat.at_ rfl) ?_;refine Cr ec rfl (fun m' hm he => (jM who)) ?_;rintro _ rfl;refine vr 4 ?_;exact QR (uh who) zu (by simp [yj, *]) zK
  by_cases e3 : op = 3
  ·cases y with
   | false =>
     refine tr 1 ?_;refine zA 5 ?_;refine zA 7 ?_;refine zA 6 ?_;refine zA 5 ?_;refine zA 7 ?_;refine yy 19 ?_;exact QR false zu (by simp [yj, *]) zK
   | true =>
     by_cases hw0 : who = 0
     ·refine tr 1 ?_;refine zA 5 ?_;refine zA 7 ?_;refine zA 6 ?_;refine zA 5 ?_;refine zA 7 ?_;refine yy 13 ?_;refine Lo 0 zD rfl (hat.at_ rfl) ?_;refine yy 4 ?_;exact QR true zu (by simp [yj, *]) zK
     ·refine tr 1 ?_;refine zA 5 ?_;refine zA 7 ?_;refine zA 6 ?_;refine zA 5 ?_;refine zA 7 ?_;refine yy 13 ?_;refine Lo 0 zD rfl (hat.at_ rfl) ?_;refine zA 4 ?_;exact QR false zu (by simp [yj, *]) zK
  by_cases e5 : op = 5
  ·cases y with
   | false =>
     refine tr 1 ?_;refine zA 5 ?_;refine zA 7 ?_;refine zA 6 ?_;refine zA 5 ?_;refine zA 7 ?_;refine zA 5 ?_;refine yy 16 ?_;exact QR false zu (by simp [yj, *]) zK
   | true =>
     by_cases hw0 : who = 0
     ·refine tr 1 ?_;refine zA 5 ?_;refine zA 7 ?_;refine zA 6 ?_;refine zA 5 ?_;refine zA 7 ?_;refine zA 5 ?_;refine yy 10 ?_;refine Lo 0 zD rfl (hat.at_ rfl) ?_;refine yy 4 ?_;exact QR true zu (by simp [yj, *]) zK
     ·refine tr 1 ?_;refine zA 5 ?_;refine zA 7 ?_;refine zA 6 ?_;refine zA 5 ?_;refine zA 7 ?_;refine zA 5 ?_;refine yy 10 ?_;refine Lo 0 zD rfl (hat.at_ rfl) ?_;refine zA 4 ?_;exact QR false zu (by simp [yj, *]) zK
  by_cases e7 : op = 7
  ·cases y with
   | false =>
     refine tr 1 ?_;refine zA 5 ?_;refine zA 7 ?_;refine zA 6 ?_;refine zA 5 ?_;refine zA 7 ?_;refine zA 5 ?_;refine zA 6 ?_;refine yy 4 ?_;refine yf (sT [0, 1, 2, 3, 4, 105, 6, 7, 8, 9, 10, 11, 13, 14, 15, 112, 116, 117, 18, 19] .done) mixed zn (fun _ _ _ _ hq => hq) ?_;refine vt 20 ?_;refine Vm 1 ?_;exact QR false zu (by simp [yj, *]) zK
   | true =>
     by_cases hw0 : who = 0
     ·have hgu := ZB (s := name) (l := ul);cases hu : jV ul name with
      | none =>
        rw [hu] at hgu;refine tr 1 ?_;refine zA 5 ?_;refine zA 7 ?_;refine zA 6 ?_;refine zA 5 ?_;refine zA 7 ?_;refine zA 5 ?_;refine zA 6 ?_;refine yy 4 ?_;refine yf (sT [0, 1, 2, 3, 4, 105, 6, 7, 8, 9, 10, 11, 13, 14, 15, 112, 116, 117, 18, 19] .done) mixed zn (fun _ _ _ _ hq => hq) ?_;refine vt 5 ?_;refine Vu 0 rfl (zw zD rfl (hat.at_ rfl)) ?_
        refine Vt 8 rfl (dt (yY rfl rfl) wo) ?_;refine Vu 0 rfl (zw Ky rfl hk0) ?_;refine Vu 0 rfl (zw ey rfl (hat.at_ rfl)) ?_;refine Vu 2 rfl (XZ hmap uj rfl rfl gH) ?_;refine Vm 1 ?_;rw [hgu];skip;exact QR false zu (by simp [yj, *]) zK
      | some u =>
        rw [hu] at hgu;refine tr 1 ?_;refine zA 5 ?_;refine zA 7 ?_;refine zA 6 ?_;refine zA 5 ?_;refine zA 7 ?_;refine zA 5 ?_;refine zA 6 ?_;refine yy 4 ?_;refine yf (sT [0, 1, 2, 3, 4, 105, 6, 7, 8, 9, 10, 11, 13, 14, 15, 112, 116, 117, 18, 19] .done) mixed zn (fun _ _ _ _ hq => hq) ?_;refine vt 5 ?_;refine Vu 0 rfl (zw zD rfl (hat.at_ rfl)) ?_
        refine Vt 8 rfl (dt (yY rfl rfl) wo) ?_;refine Vu 0 rfl (zw Ky rfl hk0) ?_;refine Vu 0 rfl (zw ey rfl (hat.at_ rfl)) ?_;refine Vu 2 rfl (XZ hmap uj rfl rfl gH) ?_;refine Vm 1 ?_;rw [hgu];skip;exact QR u zu (by simp [yj, *]) zK
     ·refine tr 1 ?_;refine zA 5 ?_;refine zA 7 ?_;refine zA 6 ?_;refine zA 5 ?_;refine zA 7 ?_;refine zA 5 ?_;refine zA 6 ?_;refine yy 4 ?_;refine yf (sT [0, 1, 2, 3, 4, 105, 6, 7, 8, 9, 10, 11, 13, 14, 15, 112, 116, 117, 18, 19] .done) mixed zn (fun _ _ _ _ hq => hq) ?_;refine vt 5 ?_;refine Vu 0 rfl (zw zD rfl (hat.at_ rfl)) ?_
      refine Vt 13 rfl (df (yY rfl rfl) wo) ?_;refine Vm 1 ?_;exact QR false zu (by simp [yj, *]) zK
  by_cases e8 : op = 8
  ·cases y with
   | false =>
     refine tr 1 ?_;refine zA 5 ?_;refine zA 7 ?_;refine zA 6 ?_;refine zA 5 ?_;refine zA 7 ?_;refine zA 5 ?_;refine zA 6 ?_;refine zA 6 ?_;refine yy 43 ?_;exact QR false zu (by simp [yj, *]) zK
   | true =>
     by_cases hw0 : who = 0
     ·refine tr 1 ?_;refine zA 5 ?_;refine zA 7 ?_;refine zA 6 ?_;refine zA 5 ?_;refine zA 7 ?_;refine zA 5 ?_;refine zA 6 ?_;refine zA 6 ?_;refine yy 10 ?_;refine Lo 0 zD rfl (hat.at_ rfl) ?_;refine yy 6 ?_;refine zg ((zr T4 rfl (fun m1 hm1 he => EY hc m1 hm1 _ b ul t (hatc.mono hm1) (hck0.mono hm1)) rfl ?_)) rfl;rintro _ _ ⟨rfl, r, rfl, hrr⟩;cases r with
      | false =>
        have hno : ¬ gZ (jV ul) t cond := fun h => absurd (hrr.2 h) zK;clear hrr;refine vr 24 ?_;exact QR false zu (by simp [yj, *]) zK
      | true =>
        have hyes := hrr.1 rfl;clear hrr;refine vr 6 ?_;refine Lo 1 uQ rfl (hat.at_ rfl) ?_;refine Pa 0 ?_;refine zg ((zr bT rfl (fun m1 hm1 he => ihT m1 TA ca b (d + 1) ul t (hthn.mono hm1) (hck0.mono hm1) ze) rfl ?_)) rfl;rintro _ _ ⟨rfl, r1, rfl, hr1⟩;cases r1 with
        | false =>
          have hno : ¬ u3 (jV ul) t (d + 1) thn := fun h => absurd (hr1.2 h) zK;clear hr1;refine vr 14 ?_;exact QR false zu (by simp [yj, *]) zK
        | true =>
          have hyes1 := hr1.1 rfl;clear hr1;refine vr 6 ?_;refine Lo 1 uQ rfl (hat.at_ rfl) ?_;refine Pa 0 ?_;refine zg ((zr bT rfl (fun m1 hm1 he => ihE m1 EB cb b (d + 1) ul t (hels.mono hm1) (hck0.mono hm1) ze) rfl ?_)) rfl;rintro _ _ ⟨rfl, r2, rfl, hr2⟩;refine vr 4 ?_;exact QR r2 zu (by simp [yj, *]) zK
     ·refine tr 1 ?_;refine zA 5 ?_;refine zA 7 ?_;refine zA 6 ?_;refine zA 5 ?_;refine zA 7 ?_;refine zA 5 ?_;refine zA 6 ?_;refine zA 6 ?_;refine yy 10 ?_;refine Lo 0 zD rfl (hat.at_ rfl) ?_;refine zA 31 ?_;exact QR false zu (by simp [yj, *]) zK
  refine tr 1 ?_;refine zA 5 ?_;refine zA 7 ?_;refine zA 6 ?_;refine zA 5 ?_;refine zA 7 ?_;refine zA 5 ?_;refine zA 6 ?_;refine zA 6 ?_;refine zA 11 ?_;refine zC ?_;refine zz ?_;refine zU ?_;refine zC ?_;refine zz ?_;refine zU ?_
  exact xi zX ⟨rfl, false, rfl, fun h => (by cases h), fun h => absurd h (hfin (by simp [yj, *]))⟩
 intro z hz;rw [<- hz] at hfin hnext;cases z with
 | false =>
   refine tr 15 ?_;refine zC ?_;refine zz ?_;refine zU ?_;exact xi zX ⟨rfl, false, rfl, fun h => (by cases h), fun h => absurd h (hfin zK)⟩
 | true =>
   refine tr 11 ?_;refine Pa 2 ?_;exact QR (i + 1) zu ⟨hlt, hnext rfl⟩ ze
theorem gM (l : List xU) : LC l := UC fun i h op who n name c a e he => ⟨gM a, gM e⟩
termination_by SizeOf.sizeOf l
decreasing_by
 all_goals
  have h1 := List.sizeOf_lt_of_mem (List.getElem_mem h);rw [he] at h1;simp only [xU.mk.sizeOf_spec] at h1;omega
end
section
open Kd
def KQ : yu -> Addr -> Value
 | .eff _, a => .iface 547 (.agg [.pointer (some a)].toArray)
 | .num _, a => .iface 554 (.agg [.pointer (some a)].toArray)
 | .cond _, a => .iface 638 (.agg [.pointer (some a)].toArray)
def KR (m : Mp) (cs : Lv) : yu -> Prop
 | .eff x => vE m cs x
 | .num x => js m cs x
 | .cond x => ur m cs x
def vI (m : Mp) (v : Value) (p : yu) : Prop := ∃ a cs, v = KQ p a /\ At m a cs /\ KR m cs p
variable {cs : Lv} {m m' : Mp} {p : yu}
theorem KR.mono (h : KR m cs p) (hl : Le m m') : KR m' cs p := by
 cases p with
 | eff x => exact vE.mono h hl
 | num x => exact js.mono h hl
 | cond x => exact ur.mono h hl
theorem vI.mono {v : Value} (h : vI m v p) (hl : Le m m') : vI m' v p := let ⟨a, cs, e, h1, h2⟩ := h; ⟨a, cs, e, h1.mono hl, h2.mono hl⟩
variable {a : Addr}
theorem vI.num {x : vC} (h : At m a cs) (hx : js m cs x) : vI m (.iface 554 (.agg [.pointer (some a)].toArray)) (.num x) := ⟨a, cs, rfl, h, hx⟩
theorem vI.cond {x : xO} (h : At m a cs) (hx : ur m cs x) : vI m (.iface 638 (.agg [.pointer (some a)].toArray)) (.cond x) := ⟨a, cs, rfl, h, hx⟩
theorem vI.eff {x : xU} (h : At m a cs) (hx : vE m cs x) : vI m (.iface 547 (.agg [.pointer (some a)].toArray)) (.eff x) := ⟨a, cs, rfl, h, hx⟩
def vu (m : Mp) (vs : Lv) (ps : List yu) : Prop := vs.length = ps.length /\ ∀ (i : Nat) (w : Value) (q : yu), vs[i]? = some w -> ps[i]? = some q -> vI m w q
theorem vu.nil : vu m [] [] := ⟨rfl, fun i w q h => by simp at h⟩
variable {ps : List yu}
theorem vu.snoc {vs : Lv} {w : Value} {q : yu} (h : vu m vs ps) (hw : vI m w q) : vu m (vs ++ [w]) (ps ++ [q]) := by
 refine ⟨by simp [h.1], fun i w' q' h1 h2 => ?_⟩;by_cases hi : i < vs.length
 ·rw [List.getElem?_append_left hi] at h1;rw [List.getElem?_append_left (by rw [<- h.1]; exact hi)] at h2;exact h.2 i w' q' h1 h2
 ·rw [List.getElem?_append_right ze] at h1;rw [List.getElem?_append_right (by rw [<- h.1]; omega), <- h.1] at h2;cases hj : i - vs.length with
  | zero =>
    rw [hj] at h1 h2
    simp at h1 h2
    subst h1 h2;exact hw
  | succ j =>
    rw [hj] at h1
    simp at h1
def PG (c : xO) (t e : List xU) : Nat -> List yu
 | 0 => [.cond c]
 | 1 => [.cond c] ++ t.map .eff
 | _ => ([.cond c] ++ t.map .eff) ++ e.map .eff
variable {l : List yu}
theorem Nr (h : uH p l) : 1 <= l.length := by cases h; simp
variable {ls : List (List yu)}
theorem US (h : ∀ l ∈ ls, 1 <= l.length) : ls.length <= ls.flatten.length /\ ∀ l ∈ ls, l.length <= ls.flatten.length := by
 induction ls with
 | nil => exact ⟨Nat.le_refl _, fun l h => by cases h⟩
 | cons x r ih =>
   obtain ⟨h1, h2⟩ := ih fun l hl => h l (List.mem_cons_of_mem _ hl);have h3 := h x List.mem_cons_self;refine ⟨by simp only [List.length_cons, List.flatten_cons, List.length_append]; omega, fun l hl => ?_⟩;simp only [List.flatten_cons, List.length_append];rcases List.mem_cons.1 hl with rfl | hl
   ·omega
   ·have := h2 l hl; omega
theorem bg (hl : ls.length = ps.length) (hk : ∀ (i : Nat) (h : i < ps.length), uH ps[i] (ls[i]'(by omega))) : ps.length <= ls.flatten.length /\ ∀ (i : Nat) (h : i < ls.length), ls[i].length <= ls.flatten.length := by
 have h0 : ∀ l ∈ ls, 1 <= l.length := fun l hm => by
  obtain ⟨i, hi, rfl⟩ := List.getElem_of_mem hm;exact Nr (hk i ze)
 obtain ⟨h1, h2⟩ := US h0;exact ⟨by omega, fun i h => h2 _ (List.getElem_mem h)⟩
theorem VP (vs : Lv) (w : Value) : vs.length + 1 = (vs ++ [w]).length := by simp
theorem jX {α : Type} {g : α -> yu} {l : List α} {i : Nat} (h : i < l.length) : (l.take (i + 1)).map g = (l.take i).map g ++ [g l[i]] := by
 rw [List.take_add_one, List.getElem?_eq_getElem h, Option.toList_some, List.map_append]
 rfl
theorem RT {σ : Type} {g : Nat} {q : Lv} {E : σ -> ya} {f : yu -> σ -> σ × Bool} {I : σ -> Prop} (hI : ∀ p s, I s -> (f p s).2 = true -> I (f p s).1) (hcl : z7 Tryz.prog g = true) (hsee : ∀ m', Le m m' -> ∀ v p s, I s -> vI m' v p -> CS Tryz.prog g (([] ++ [v]) ++ q) m' [E s] (fun v' L' => v' = .bool (f p s).2 /\ L' = [E (f p s).1])) {p : yu} {l : List yu} (hF : uH p l) : l.length <= 4000 ->
  ∀ m', Le m m' -> ∀ v, vI m' v p -> ∀ s, I s -> CS Tryz.prog 349 [v, .func (.func g) #[] q.toArray] m' [E s] (fun v' L' => v' = .bool (kC f l s).2 /\ L' = [E (kC f l s).1]) := by
 induction hF with
 | @mk p ls hl hk ih =>
 intro hlen m' hm' v hv s hs;obtain ⟨hkn, hkm⟩ := bg hl hk;simp only [List.length_cons] at hlen;refine zM [.tmp 4] Tryz.func349 rfl rfl rfl ?_;refine tr 10 ?_;refine zg ((Qw (p := []) (q := q) hcl rfl rfl .k0 (fun m1 hm he => hsee m1 (hm'.trans hm) v p s hs (hv.mono hm)) rfl ?_)) rfl;rintro _ _ ⟨rfl, rfl⟩
 have hgo : kC f (p :: ls.flatten) s = if (f p s).2 then kC f ls.flatten (f p s).1 else ((f p s).1, false) := rfl
 cases hfp : (f p s).2 with
 | false =>
   refine vr 11 ?_;exact zB [_] zX [_] .p0 ⟨by rw [hgo, hfp]; rfl, by rw [hgo, hfp]; rfl⟩
 | true =>
   rw [hfp, if_pos rfl] at hgo;rw [hgo];have hs1 := hI p s hs hfp;generalize (f p s).1 = s1 at hs1 ⊢;clear hgo hfp;refine HN 444 1 ?_;refine vr 13 ?_;refine ap (α := Oa × Nat × Lv) (fun y => [(1, .func (.func g) #[] q.toArray), (5, .slice y.1 y.2.2.length y.2.1)]) (fun y => [own 444 1 y.1 y.2.2.length y.2.1 y.2.2, E s1]) (fun y => vu m' y.2.2 (ww p)) ?_ ?_
   ·obtain ⟨a, cs, rfl, hat, hp⟩ := hv;cases p with
    | eff x =>
      obtain ⟨op, who, nop, nn, nwho, nA, nlen, nc, name, cop, cwho, cname, cA, cla, cca, cB, clb, ccb, A, la, ca, B, lb, cb, n, cond, thn, els, rfl, rfl, ho, hn, hc, ht, he⟩ := vE.parts hp;clear hk ih hl hp hkm;unfold KQ;refine tr 7 ?_;refine pe 7 (jH bL bA rfl) ?_;refine Al 0 YC fun b1 => ?_;refine Sg 6 zab .here ?_;refine Lb 2 bE .here ?_
      refine Lo 0 zD rfl (hat.at_ rfl) ?_;refine Cr NU rfl (fun m' hm he => (ZQ op)) ?_;rintro _ rfl;cases hcb : yl op with
      | true =>
        have h8 : ¬ op = 8 := fun e => by subst e; exact absurd hcb zK
        refine vr 6 ?_;refine Lb 2 bE .here ?_;refine pe 0 (zW Km Mw rfl rfl) ?_;refine pe 0 (wu Ur VE rfl) ?_;refine Bs 0 jy fun b2 => ?_;refine zg (xq jy rfl rfl rfl rfl .here (fun _ _ => .h2) rfl rfl (by first | omega | (simp only [maxLen]; omega)) ze rfl (fun A1 c1 => ?_)) rfl;refine vr 6 ?_;refine Lb 2 bE .h1 ?_
        refine Lo 0 zD rfl (hat.at_ rfl) ?_;refine zA 5 ?_;refine QR (A1, c1, [_]) (.cons .h2 .p2) ?_ zK;simp only [ww];rw [hcb, if_pos rfl, if_neg h8];exact vu.nil.snoc (.num (hat.sub 2 4) hn)
      | false =>
        by_cases h8 : op = 8
        ·obtain ⟨ht1, ht2, tvs, ht3, ht4, ht5⟩ := ht;obtain ⟨he1, he2, evs, he3, he4, he5⟩ := he;subst ht1 he1
         have hkl : thn.length + els.length <= 4000 := by
          simp only [ww] at hkn;rw [hcb, if_pos h8] at hkn;simp only [Bool.false_eq_true, if_false, List.nil_append, List.length_cons, List.length_append, List.length_map] at hkn;omega
         clear hkn;refine vr 8 ?_;refine Lb 2 bE .here ?_;refine Lo 0 zD rfl (hat.at_ rfl) ?_;refine yy 7 ?_;refine Lb 2 bE .here ?_;refine pe 0 (zW H9 TB rfl rfl) ?_;refine pe 0 (wu MI Lm rfl) ?_;refine Bs 0 jy fun b2 => ?_
         refine zg (xq jy rfl rfl rfl rfl .here (fun _ _ => .h2) rfl rfl (by first | omega | (simp only [maxLen]; omega)) ze rfl (fun A1 c1 => ?_)) rfl;refine vr 4 ?_;refine yf (sT [0, 5, 11, 101, 2, 3, 104, 106, 7, 8, 109, 10] .done) mixed zn (fun _ _ _ _ hq => hq) ?_;refine vt 3 ?_;refine Vl 2 rfl bE .h1 ?_
         refine Vu 0 rfl (zw uQ rfl (hat.at_ rfl)) ?_;refine Vl 2 rfl bE .h1 ?_;refine Vu 0 rfl (zw uQ rfl (hat.at_ rfl)) ?_;refine Vt 0 rfl (xa N9 D5 rfl rfl) ?_;refine Vm 2 ?_
         refine jm (β := Lv) (fun k A' c' vals => [(1, .func (.func g) #[] q.toArray), (5, .slice A' vals.length c'), (65, .agg [.slice A thn.length ca, .slice B els.length cb].toArray), (66, .int .i64 (k : Nat))]) (fun k A' c' vals => [own 444 1 A' vals.length c' vals, E s1]) (fun k vals => k <= 2 /\ vu m' vals (PG cond thn els k)) (fun k => 2 - k) 0 A1 c1 _ ⟨rfl, rfl, rfl, rfl, trivial⟩ (.cons .h2 .p2) ⟨by decide, vu.nil.snoc (.cond (hat.sub 7 5) hc)⟩ ?_
         rintro k A' c' vals ⟨hk2, hvk⟩
         try dsimp only at hvk
         try dsimp only
         match k, hk2, hvk with
         | 0, _, hvk =>
           refine tr 2 ?_;refine xI 10 ?_;refine pe 11 (yF N9 N7 rfl rfl ze ze rfl) ?_
           refine jm (β := Lv) (fun j A' c' vals => [(1, .func (.func g) #[] q.toArray), (5, .slice A' vals.length c'), (65, .agg [.slice A thn.length ca, .slice B els.length cb].toArray), (66, .int .i64 0), (8, .slice A thn.length ca), (70, .int .i64 (thn.length : Nat)), (71, .int .i64 (j : Nat))]) (fun j A' c' vals => [own 444 1 A' vals.length c' vals, E s1]) (fun j vals => j <= thn.length /\ vu m' vals ([.cond cond] ++ (thn.take j).map .eff)) (fun j => thn.length - j) 0 A' c' vals ⟨rfl, rfl, rfl, rfl, rfl, rfl, rfl, trivial⟩ zu ⟨Nat.zero_le _, by rw [List.take_zero, List.map_nil, List.append_nil]; exact hvk⟩ ?_
           rintro j A' c' vals ⟨hj, hvj⟩
           try dsimp only at hvj
           try dsimp only
           have hvl : vals.length <= 4001 := by
            rw [hvj.1];simp only [PG, List.length_append, List.length_cons, List.length_map, List.length_take, List.length_nil];omega
           by_cases hlt : j < thn.length
           ·have hA : A.isSome = true := ht3.isSome ze;have hel := ht3.elem (j * 14) 14;have hpe := vI.eff hel (ht5 j hlt);refine tr 2 ?_;refine xI 18 ?_;refine pe 0 (zx aa rfl rfl hA ze) ?_;refine pe 0 (zW YC Ul rfl rfl) ?_;refine pe 0 (wu bL bA rfl) ?_;refine Bs 0 jy fun b3 => ?_
            refine zg (xq jy rfl rfl rfl rfl .here (fun _ _ => .h1) rfl rfl (by first | omega | (simp only [maxLen]; omega)) ze rfl (fun A2 c2 => ?_)) rfl;refine vr 5 ?_;refine Pa 2 ?_;rw [VP];refine vA (Le.refl _) (j + 1) A2 c2 _ ⟨rfl, rfl, rfl, rfl, rfl, rfl, rfl, trivial⟩ (.cons .h1 .p1) ⟨hlt, ?_⟩ ze;rw [jX hlt, <- List.append_assoc]
            exact hvj.snoc hpe
           ·have hje : j = thn.length := by omega
            subst hje;refine tr 2 ?_;refine ym 6 ?_;refine xN ?_;refine zf ?_;refine xr ?_;refine qt 2 ?_;refine Pa 2 ?_;refine vA (Le.refl _) 1 A' c' vals ⟨rfl, rfl, rfl, rfl, trivial⟩ zu ⟨by decide, ?_⟩ ze;rw [List.take_length] at hvj;exact hvj
         | 1, _, hvk =>
           refine tr 2 ?_;refine xI 10 ?_;refine pe 11 (yF N9 N7 rfl rfl ze ze rfl) ?_
           refine jm (β := Lv) (fun j A' c' vals => [(1, .func (.func g) #[] q.toArray), (5, .slice A' vals.length c'), (65, .agg [.slice A thn.length ca, .slice B els.length cb].toArray), (66, .int .i64 1), (8, .slice B els.length cb), (70, .int .i64 (els.length : Nat)), (71, .int .i64 (j : Nat))]) (fun j A' c' vals => [own 444 1 A' vals.length c' vals, E s1]) (fun j vals => j <= els.length /\ vu m' vals (PG cond thn els 1 ++ (els.take j).map .eff)) (fun j => els.length - j) 0 A' c' vals ⟨rfl, rfl, rfl, rfl, rfl, rfl, rfl, trivial⟩ zu ⟨Nat.zero_le _, by rw [List.take_zero, List.map_nil, List.append_nil]; exact hvk⟩ ?_
           rintro j A' c' vals ⟨hj, hvj⟩
           try dsimp only at hvj
           try dsimp only
           have hvl : vals.length <= 4001 := by
            rw [hvj.1];simp only [PG, List.length_append, List.length_cons, List.length_map, List.length_take, List.length_nil];omega
           by_cases hlt : j < els.length
           ·have hA : B.isSome = true := he3.isSome ze;have hel := he3.elem (j * 14) 14;have hpe := vI.eff hel (he5 j hlt);refine tr 2 ?_;refine xI 18 ?_;refine pe 0 (zx aa rfl rfl hA ze) ?_;refine pe 0 (zW YC Ul rfl rfl) ?_;refine pe 0 (wu bL bA rfl) ?_;refine Bs 0 jy fun b3 => ?_
            refine zg (xq jy rfl rfl rfl rfl .here (fun _ _ => .h1) rfl rfl (by first | omega | (simp only [maxLen]; omega)) ze rfl (fun A2 c2 => ?_)) rfl;refine vr 5 ?_;refine Pa 2 ?_;rw [VP];refine vA (Le.refl _) (j + 1) A2 c2 _ ⟨rfl, rfl, rfl, rfl, rfl, rfl, rfl, trivial⟩ (.cons .h1 .p1) ⟨hlt, ?_⟩ ze;rw [jX hlt, <- List.append_assoc]
            exact hvj.snoc hpe
           ·have hje : j = els.length := by omega
            subst hje;refine tr 2 ?_;refine ym 6 ?_;refine xN ?_;refine zf ?_;refine xr ?_;refine qt 2 ?_;refine Pa 2 ?_;refine vA (Le.refl _) 2 A' c' vals ⟨rfl, rfl, rfl, rfl, trivial⟩ zu ⟨by decide, ?_⟩ ze;rw [List.take_length] at hvj;exact hvj
         | 2, _, hvk =>
           refine tr 2 ?_;refine ym 6 ?_;refine xN ?_;refine zf ?_;refine xr ?_;refine QR (A', c', vals) zu ?_ zK;simp only [ww];rw [hcb, if_pos h8];exact hvk
        ·refine vr 8 ?_;refine Lb 2 bE .here ?_;refine Lo 0 zD rfl (hat.at_ rfl) ?_;refine zA 5 ?_;refine QR (none, 0, []) (.cons .h1 .p1) ?_ zK;simp only [ww];rw [hcb, if_neg h8];exact vu.nil
    | num x =>
      cases hp with
      | @mk op n who kids A len c vs ho hln hm hr hv hkk =>
      subst hln
      have hkl : kids.length <= 4000 := by
       simp only [ww, List.length_map] at hkn;omega
      clear hk ih hl hkm hkn;unfold KQ;refine tr 7 ?_;refine pe 7 (kU bL bA rfl rfl Tryz.zeroValue547) ?_;refine pe 7 (jH Ur VE rfl) ?_;refine Al 0 Km fun b1 => ?_;refine Sg 5 zaa .here ?_;refine Lb 2 Tt .here ?_;refine Lo 5 wK rfl (hat.at_ rfl) ?_
      refine jm (β := Lv) (fun j A' c' vals => [(1, .func (.func g) #[] q.toArray), (5, .slice A' vals.length c'), (10, .pointer (some ⟨b1, 0, none⟩)), (92, .int .i64 (kids.length : Nat)), (93, .int .i64 (j : Nat))]) (fun j A' c' vals => [own 444 1 A' vals.length c' vals, cel b1 [.pointer (some a)] 554, E s1]) (fun j vals => j <= kids.length /\ vu m' vals ((kids.take j).map .num)) (fun j => kids.length - j) 0 none 0 [] ⟨rfl, rfl, rfl, rfl, rfl, trivial⟩ (.cons .h1 .pp) ⟨Nat.zero_le _, vu.nil⟩ ?_
      rintro j A' c' vals ⟨hj, hvj⟩
      try dsimp only at hvj
      try dsimp only
      have hvl : vals.length <= 4001 := by
       rw [hvj.1];simp only [List.length_append, List.length_cons, List.length_map, List.length_take, List.length_nil];omega
      by_cases hlt : j < kids.length
      ·have hA : A.isSome = true := hr.isSome ze;have hel := hr.elem (j * 4) 4;have hpe := vI.num hel (hkk j hlt);refine tr 2 ?_;refine xI 17 ?_;refine Lb 2 Tt .h1 ?_;refine Lo 1 wK rfl (hat.at_ rfl) ?_;refine pe 0 (zx bR rfl rfl hA ze) ?_;refine pe 0 (zW Km Mw rfl rfl) ?_;refine pe 0 (wu Ur VE rfl) ?_;refine Bs 0 jy fun b2 => ?_
       refine zg (xq jy rfl rfl rfl rfl .here (fun _ _ => .h1) rfl rfl (by first | omega | (simp only [maxLen]; omega)) ze rfl (fun A1 c1 => ?_)) rfl;refine vr 5 ?_;refine Pa 2 ?_;rw [VP];refine vA (Le.refl _) (j + 1) A1 c1 _ ⟨rfl, rfl, rfl, rfl, rfl, trivial⟩ (.cons .h1 (.cons .h1 .p1)) ⟨hlt, ?_⟩ ze;rw [jX hlt];exact hvj.snoc hpe
      ·have hje : j = kids.length := by omega
       subst hje;rw [List.take_length] at hvj;refine tr 2 ?_;refine ym 6 ?_;refine xN ?_;refine zf ?_;refine xr ?_;refine QR (A', c', vals) (.cons .here .p1) ?_ zK;simp only [ww];exact hvj
    | cond x =>
      cases hp with
      | @mk op who name nums kids A B la ca lb cb vs us ho hw hn hla hma hra hva hka hlb hmb hrb hvb hkb =>
      subst hla hlb
      have hkl : nums.length + kids.length <= 4000 := by
       simp only [ww, List.length_map, List.length_append] at hkn;omega
      clear hk ih hl hkm hkn;unfold KQ;refine tr 7 ?_;refine pe 7 (kU bL bA rfl rfl Tryz.zeroValue547) ?_;refine pe 7 (kU Ur VE rfl rfl Tryz.zeroValue554) ?_;refine pe 7 (jH MI Lm rfl) ?_;refine Al 0 H9 fun b1 => ?_;refine Sg 6 A9 .here ?_;refine Lb 2 Kv .here ?_;refine Lo 5 wK rfl (hat.at_ rfl) ?_
      refine jm (β := Lv) (fun j A' c' vals => [(1, .func (.func g) #[] q.toArray), (5, .slice A' vals.length c'), (12, .pointer (some ⟨b1, 0, none⟩)), (117, .int .i64 (nums.length : Nat)), (118, .int .i64 (j : Nat))]) (fun j A' c' vals => [own 444 1 A' vals.length c' vals, cel b1 [.pointer (some a)] 638, E s1]) (fun j vals => j <= nums.length /\ vu m' vals ((nums.take j).map .num)) (fun j => nums.length - j) 0 none 0 [] ⟨rfl, rfl, rfl, rfl, rfl, trivial⟩ (.cons .h1 .pp) ⟨Nat.zero_le _, vu.nil⟩ ?_
      rintro j A' c' vals ⟨hj, hvj⟩
      try dsimp only at hvj
      try dsimp only
      have hvl : vals.length <= 4001 := by
       rw [hvj.1];simp only [List.length_append, List.length_cons, List.length_map, List.length_take, List.length_nil];omega
      by_cases hlt : j < nums.length
      ·have hA : A.isSome = true := hra.isSome ze;have hel := hra.elem (j * 4) 4;have hpe := vI.num hel (hka j hlt);refine tr 2 ?_;refine xI 17 ?_;refine Lb 2 Kv .h1 ?_;refine Lo 1 wK rfl (hat.at_ rfl) ?_;refine pe 0 (zx bR rfl rfl hA ze) ?_;refine pe 0 (zW Km Mw rfl rfl) ?_;refine pe 0 (wu Ur VE rfl) ?_;refine Bs 0 jy fun b2 => ?_
       refine zg (xq jy rfl rfl rfl rfl .here (fun _ _ => .h1) rfl rfl (by first | omega | (simp only [maxLen]; omega)) ze rfl (fun A1 c1 => ?_)) rfl;refine vr 5 ?_;refine Pa 2 ?_;rw [VP];refine vA (Le.refl _) (j + 1) A1 c1 _ ⟨rfl, rfl, rfl, rfl, rfl, trivial⟩ (.cons .h1 (.cons .h1 .p1)) ⟨hlt, ?_⟩ ze;rw [jX hlt];exact hvj.snoc hpe
      ·have hje : j = nums.length := by omega
       subst hje;rw [List.take_length] at hvj;refine tr 2 ?_;refine ym 6 ?_;refine xN ?_;refine zf ?_;refine qt 4 ?_;refine Lb 2 Kv .h1 ?_;refine Lo 5 kX rfl (hat.at_ rfl) ?_
       refine jm (β := Lv) (fun j A' c' vals => [(1, .func (.func g) #[] q.toArray), (5, .slice A' vals.length c'), (12, .pointer (some ⟨b1, 0, none⟩)), (139, .int .i64 (kids.length : Nat)), (140, .int .i64 (j : Nat))]) (fun j A' c' vals => [own 444 1 A' vals.length c' vals, cel b1 [.pointer (some a)] 638, E s1]) (fun j vals => j <= kids.length /\ vu m' vals (nums.map .num ++ (kids.take j).map .cond)) (fun j => kids.length - j) 0 A' c' vals ⟨rfl, rfl, rfl, rfl, rfl, trivial⟩ zu ⟨Nat.zero_le _, by rw [List.take_zero, List.map_nil, List.append_nil]; exact hvj⟩ ?_
       rintro j A' c' vals ⟨hj, hvj⟩
       try dsimp only at hvj
       try dsimp only
       have hvl : vals.length <= 4001 := by
        rw [hvj.1];simp only [List.length_append, List.length_cons, List.length_map, List.length_take, List.length_nil];omega
       by_cases hlt : j < kids.length
       ·have hA : B.isSome = true := hrb.isSome ze;have hel := hrb.elem (j * 5) 5;have hpe := vI.cond hel (hkb j hlt);refine tr 2 ?_;refine xI 17 ?_;refine Lb 2 Kv .h1 ?_;refine Lo 1 kX rfl (hat.at_ rfl) ?_;refine pe 0 (zx Gi rfl rfl hA ze) ?_;refine pe 0 (zW H9 TB rfl rfl) ?_;refine pe 0 (wu MI Lm rfl) ?_;refine Bs 0 jy fun b2 => ?_
        refine zg (xq jy rfl rfl rfl rfl .here (fun _ _ => .h1) rfl rfl (by first | omega | (simp only [maxLen]; omega)) ze rfl (fun A1 c1 => ?_)) rfl;refine vr 5 ?_;refine Pa 2 ?_;rw [VP];refine vA (Le.refl _) (j + 1) A1 c1 _ ⟨rfl, rfl, rfl, rfl, rfl, trivial⟩ (.cons .h1 (.cons .h1 .p1)) ⟨hlt, ?_⟩ ze;rw [jX hlt, <- List.append_assoc];exact hvj.snoc hpe
       ·have hje : j = kids.length := by omega
        subst hje;rw [List.take_length] at hvj;refine tr 2 ?_;refine ym 6 ?_;refine xN ?_;refine zf ?_;refine xr ?_;refine QR (A', c', vals) (.cons .here .p1) ?_ zK;simp only [ww];exact hvj
   rintro ⟨A, c, vs⟩ hvs
   try dsimp only at hvs
   try dsimp only
   have hvl : vs.length = ls.length := by rw [hvs.1, hl]
   refine tr 9 ?_
   refine zN (α := Nat × σ) (fun y => [(1, .func (.func g) #[] q.toArray), (156, .slice A vs.length c), (157, .int .i64 (vs.length : Nat)), (158, .int .i64 (y.1 : Nat))]) (fun y => [own 444 1 A vs.length c vs, E y.2]) (fun y => y.1 <= vs.length /\ kC f (ls.take y.1).flatten s1 = (y.2, true)) (fun y => vs.length - y.1) (0, s1) ⟨rfl, rfl, rfl, rfl, trivial⟩ zu ⟨Nat.zero_le _, rfl⟩ ?_
   rintro ⟨i, s2⟩ ⟨hi, hgi⟩;dsimp only at hi hgi ⊢;by_cases hlt : i < vs.length
   ·obtain ⟨w, hw⟩ : ∃ w, vs[i]? = some w := ⟨_, List.getElem?_eq_getElem hlt⟩;have hpw := hvs.2 i w ((ww p)[i]'(by omega)) hw (List.getElem?_eq_getElem ze);have hgn := cX (f := f) (ls := ls) (i := i) ze s1 (by rw [hgi]);rw [hgi] at hgn;dsimp only at hgn
    have hc := fun m1 (hm : Le m' m1) => ih i ze (by have := hkm i ze; omega) m1 (hm'.trans hm) w (hpw.mono hm) s2 (by have := cY hI (l := (ls.take i).flatten) hs1 (by rw [hgi]); rw [hgi] at this; exact this);generalize hgq : kC f (ls[i]'(by omega)) s2 = gq at hgn hc;obtain ⟨s3, b3⟩ := gq;dsimp only at hc;refine am (vo (A := A) .here ze) (fun hA => ?_)
    refine tr 2 ?_;refine xI 10 ?_;refine pe 0 (yE BD rfl rfl hA ze) ?_;refine lr 7 (kQ CC rfl .here hw) ?_;refine C1 Gr rfl .h1 (fun m1 hm he => hc m1 hm) ?_;rintro _ _ ⟨rfl, rfl⟩;cases b3 with
    | true =>
      refine vr 8 ?_;refine Pa 2 ?_;exact QR (i + 1, s3) (.cons .h1 .p0) ⟨hlt, hgn⟩ jw
    | false =>
      have hst := cV (f := f) (ls := ls) (i := i + 1) s1 (by rw [hgn]);rw [hgn] at hst;refine vr 12 ?_;refine zC ?_;refine zz ?_;refine zU ?_;exact zB [_] zX [_] .p0 ⟨by simp only [hst]; rfl, by simp only [hst]⟩
   ·have hie : i = vs.length := by omega
    subst hie;rw [List.take_of_length_le ze] at hgi;refine tr 2 ?_;refine ym 6 ?_;refine zh ?_;refine zf ?_;refine qt 7 ?_;exact zB [_] zX [_] .p1 ⟨by simp only [hgi]; rfl, by simp only [hgi]⟩
end
section
open Kd
def jf (x : yv) : List yu := x.played.map .eff ++ x.dead.map .eff ++ x.dawn.map .eff
theorem j6 (x : yv) : (jf x).length = x.played.length + x.dead.length + x.dawn.length := by simp [jf]; omega
variable {j : Nat} {x : yv}
theorem Er (h : j < x.played.length) : (jf x)[0 + j]'(by rw [j6]; omega) = .eff x.played[j] := by
 simp only [jf, Nat.zero_add];rw [List.getElem_append_left (by simp; omega), List.getElem_append_left (by simp; omega), List.getElem_map]
theorem Ep (h : j < x.dead.length) : (jf x)[x.played.length + j]'(by rw [j6]; omega) = .eff x.dead[j] := by
 simp only [jf];rw [List.getElem_append_left (by simp; omega), List.getElem_append_right vM, List.getElem_map]
 simp
theorem Eo (h : j < x.dawn.length) : (jf x)[x.played.length + x.dead.length + j]'(by rw [j6]; omega) = .eff x.dawn[j] := by
 simp only [jf];rw [List.getElem_append_right vM, List.getElem_map]
 simp
def Bb (x : yv) : Nat -> Nat
 | 0 => 0
 | 1 => x.played.length
 | 2 => x.played.length + x.dead.length
 | _ => x.played.length + x.dead.length + x.dawn.length
variable {m : Mp}
theorem Dx {σ : Type} {g : Nat} {q : Lv} {E : σ -> ya} {f : yu -> σ -> σ × Bool} {I : σ -> Prop} (hI : ∀ p s, I s -> (f p s).2 = true -> I (f p s).1) (hcl : z7 Tryz.prog g = true) (hsee : ∀ m', Le m m' -> ∀ v p s, I s -> vI m' v p -> CS Tryz.prog g (([] ++ [v]) ++ q) m' [E s] (fun v' L' => v' = .bool (f p s).2 /\ L' = [E (f p s).1])) {l : List yu} (hF : QB (jf x) l) (hlen : l.length <= 3999) {a : Addr} {cs : Lv} (hat : At m a cs) (hx : uO m cs x) (s : σ) (hs : I s) : CS Tryz.prog 269 [.pointer (some a), .func (.func g) #[] q.toArray] m [E s] (fun v' L' => v' = U0 /\ L' = [E (kC f l s).1]) := by
 obtain ⟨ls, hl, hk, rfl⟩ := hF;obtain ⟨hkn, hkm⟩ := bg hl hk;have hE := fun i (h : i < ls.length) => RT hI hcl hsee (hk i ze) (by have := hkm i h; omega);obtain ⟨A, la, ca, B, lb, cb, D, ld, cd, rfl, _, hp, hd, hw, _⟩ := hx;obtain ⟨rfl, hp2, pvs, hp3, hp4, hp5⟩ := hp;obtain ⟨rfl, hd2, dvs, hd3, hd4, hd5⟩ := hd;obtain ⟨rfl, hw2, wvs, hw3, hw4, hw5⟩ := hw;have hkl := j6 x
 clear hsee hcl hk hkm;refine zM [] Tryz.func269 rfl rfl rfl ?_;refine tr 1 ?_;refine yf (sT [0, 1, 2, 4, 5, 6, 8, 9, 10, 13, 103, 107, 111, 12] .done) mixed zn (fun _ _ _ _ hq => hq) ?_;refine vt 10 ?_
 iterate 3 (refine Vu 0 rfl (zw uQ rfl (hat.at_ rfl)) ?_)
 refine Vt 0 rfl (xa GF D7 rfl rfl) ?_;refine Vm 2 ?_
 refine zN (α := Nat × σ) (fun y => [(1, .func (.func g) #[] q.toArray), (19, .agg [.slice A x.played.length ca, .slice B x.dead.length cb, .slice D x.dawn.length cd].toArray), (20, .int .i64 (y.1 : Nat))]) (fun y => [E y.2]) (fun y => y.1 <= 3 /\ kC f (ls.take (Bb x y.1)).flatten s = (y.2, true)) (fun y => 3 - y.1) (0, s) YG zu ⟨by dsimp only; omega, rfl⟩ ?_
 rintro ⟨k, s2⟩ ⟨hk3, hg2⟩;dsimp only at hk3 hg2 ⊢
 match k, hk3, hg2 with
 | 0, _, hg2 =>
   have hg2' : kC f (ls.take (0 + 0)).flatten s = (s2, true) := hg2;refine tr 2 ?_;refine xI 10 ?_;refine pe 11 (yF GF J2 rfl rfl ze ze rfl) ?_
   refine zN (α := Nat × σ) (fun y => [(1, .func (.func g) #[] q.toArray), (19, .agg [.slice A x.played.length ca, .slice B x.dead.length cb, .slice D x.dawn.length cd].toArray), (20, .int .i64 0), (5, .slice A x.played.length ca), (24, .int .i64 (x.played.length : Nat)), (25, .int .i64 (y.1 : Nat))]) (fun y => [E y.2]) (fun y => y.1 <= x.played.length /\ kC f (ls.take (0 + y.1)).flatten s = (y.2, true)) (fun y => x.played.length - y.1) (0, s2) VJ zu ⟨Nat.zero_le _, hg2'⟩ ?_
   rintro ⟨j, s3⟩ ⟨hj, hg3⟩;dsimp only at hj hg3 ⊢;by_cases hlt : j < x.played.length
   ·have hA : A.isSome = true := hp3.isSome ze;have hpe := vI.eff (hp3.elem (j * 14) 14) (hp5 j hlt);rw [<- Er hlt] at hpe;have hgn := cX (f := f) (ls := ls) (i := 0 + j) ze s (by rw [hg3]);rw [hg3] at hgn;dsimp only at hgn
    have hc := fun m1 (hm : Le m m1) => hE (0 + j) ze m1 hm _ (hpe.mono hm) s3 (by have := cY hI (l := (ls.take (0 + j)).flatten) hs (by rw [hg3]); rw [hg3] at this; exact this);generalize hgq : kC f (ls[0 + j]'(by omega)) s3 = gq at hgn hc;obtain ⟨s4, b4⟩ := gq;dsimp only at hc;refine tr 2 ?_;refine xI 18 ?_;refine pe 0 (zx aa rfl rfl hA ze) ?_
    refine pe 0 (zW YC Ul rfl rfl) ?_;refine pe 1 (wu bL bA rfl) ?_;refine C1 Gr rfl .here (fun m1 hm he => hc m1 hm) ?_;rintro _ _ ⟨rfl, rfl⟩;cases b4 with
    | true =>
      refine vr 8 ?_;refine Pa 2 ?_;exact QR (j + 1, s4) zu ⟨hlt, hgn⟩ jw
    | false =>
      have hst := cV (f := f) (ls := ls) (i := 0 + j + 1) s (by rw [hgn]);rw [hgn] at hst;refine vr 7 ?_;refine zC ?_;refine zz ?_;refine zz ?_;refine zU ?_;refine zC ?_;refine zz ?_;exact zB [] trivial [_] zu ⟨rfl, by simp only [hst]⟩
   ·have hje : j = x.played.length := by omega
    subst hje;refine tr 2 ?_;refine ym 6 ?_;refine zh ?_;refine zf ?_;refine xr ?_;refine qt 2 ?_;refine Pa 2 ?_;exact QR (0 + 1, s3) zu ⟨by dsimp only; omega, by rw [Nat.zero_add] at hg3; exact hg3⟩ jw
 | 1, _, hg2 =>
   have hg2' : kC f (ls.take (x.played.length + 0)).flatten s = (s2, true) := hg2;refine tr 2 ?_;refine xI 10 ?_;refine pe 11 (yF GF J2 rfl rfl ze ze rfl) ?_
   refine zN (α := Nat × σ) (fun y => [(1, .func (.func g) #[] q.toArray), (19, .agg [.slice A x.played.length ca, .slice B x.dead.length cb, .slice D x.dawn.length cd].toArray), (20, .int .i64 1), (5, .slice B x.dead.length cb), (24, .int .i64 (x.dead.length : Nat)), (25, .int .i64 (y.1 : Nat))]) (fun y => [E y.2]) (fun y => y.1 <= x.dead.length /\ kC f (ls.take (x.played.length + y.1)).flatten s = (y.2, true)) (fun y => x.dead.length - y.1) (0, s2) VJ zu ⟨Nat.zero_le _, hg2'⟩ ?_
   rintro ⟨j, s3⟩ ⟨hj, hg3⟩;dsimp only at hj hg3 ⊢;by_cases hlt : j < x.dead.length
   ·have hA : B.isSome = true := hd3.isSome ze;have hpe := vI.eff (hd3.elem (j * 14) 14) (hd5 j hlt);rw [<- Ep hlt] at hpe;have hgn := cX (f := f) (ls := ls) (i := x.played.length + j) ze s (by rw [hg3]);rw [hg3] at hgn;dsimp only at hgn
    have hc := fun m1 (hm : Le m m1) => hE (x.played.length + j) ze m1 hm _ (hpe.mono hm) s3 (by have := cY hI (l := (ls.take (x.played.length + j)).flatten) hs (by rw [hg3]); rw [hg3] at this; exact this);generalize hgq : kC f (ls[x.played.length + j]'(by omega)) s3 = gq at hgn hc;obtain ⟨s4, b4⟩ := gq;dsimp only at hc;refine tr 2 ?_;refine xI 18 ?_
    refine pe 0 (zx aa rfl rfl hA ze) ?_;refine pe 0 (zW YC Ul rfl rfl) ?_;refine pe 1 (wu bL bA rfl) ?_;refine C1 Gr rfl .here (fun m1 hm he => hc m1 hm) ?_;rintro _ _ ⟨rfl, rfl⟩;cases b4 with
    | true =>
      refine vr 8 ?_;refine Pa 2 ?_;exact QR (j + 1, s4) zu ⟨hlt, hgn⟩ jw
    | false =>
      have hst := cV (f := f) (ls := ls) (i := x.played.length + j + 1) s (by rw [hgn]);rw [hgn] at hst;refine vr 7 ?_;refine zC ?_;refine zz ?_;refine zz ?_;refine zU ?_;refine zC ?_;refine zz ?_;exact zB [] trivial [_] zu ⟨rfl, by simp only [hst]⟩
   ·have hje : j = x.dead.length := by omega
    subst hje;refine tr 2 ?_;refine ym 6 ?_;refine zh ?_;refine zf ?_;refine xr ?_;refine qt 2 ?_;refine Pa 2 ?_;exact QR (1 + 1, s3) zu ⟨by dsimp only; omega, hg3⟩ jw
 | 2, _, hg2 =>
   have hg2' : kC f (ls.take (x.played.length + x.dead.length + 0)).flatten s = (s2, true) := hg2;refine tr 2 ?_;refine xI 10 ?_;refine pe 11 (yF GF J2 rfl rfl ze ze rfl) ?_
   refine zN (α := Nat × σ) (fun y => [(1, .func (.func g) #[] q.toArray), (19, .agg [.slice A x.played.length ca, .slice B x.dead.length cb, .slice D x.dawn.length cd].toArray), (20, .int .i64 2), (5, .slice D x.dawn.length cd), (24, .int .i64 (x.dawn.length : Nat)), (25, .int .i64 (y.1 : Nat))]) (fun y => [E y.2]) (fun y => y.1 <= x.dawn.length /\ kC f (ls.take (x.played.length + x.dead.length + y.1)).flatten s = (y.2, true)) (fun y => x.dawn.length - y.1) (0, s2) VJ zu ⟨Nat.zero_le _, hg2'⟩ ?_
   rintro ⟨j, s3⟩ ⟨hj, hg3⟩;dsimp only at hj hg3 ⊢;by_cases hlt : j < x.dawn.length
   ·have hA : D.isSome = true := hw3.isSome ze;have hpe := vI.eff (hw3.elem (j * 14) 14) (hw5 j hlt);rw [<- Eo hlt] at hpe;have hgn := cX (f := f) (ls := ls) (i := x.played.length + x.dead.length + j) ze s (by rw [hg3]);rw [hg3] at hgn;dsimp only at hgn
    have hc := fun m1 (hm : Le m m1) => hE (x.played.length + x.dead.length + j) ze m1 hm _ (hpe.mono hm) s3 (by have := cY hI (l := (ls.take (x.played.length + x.dead.length + j)).flatten) hs (by rw [hg3]); rw [hg3] at this; exact this);generalize hgq : kC f (ls[x.played.length + x.dead.length + j]'(by omega)) s3 = gq at hgn hc;obtain ⟨s4, b4⟩ := gq;dsimp only at hc;refine tr 2 ?_
    refine xI 18 ?_;refine pe 0 (zx aa rfl rfl hA ze) ?_;refine pe 0 (zW YC Ul rfl rfl) ?_;refine pe 1 (wu bL bA rfl) ?_;refine C1 Gr rfl .here (fun m1 hm he => hc m1 hm) ?_;rintro _ _ ⟨rfl, rfl⟩;cases b4 with
    | true =>
      refine vr 8 ?_;refine Pa 2 ?_;exact QR (j + 1, s4) zu ⟨hlt, hgn⟩ jw
    | false =>
      have hst := cV (f := f) (ls := ls) (i := x.played.length + x.dead.length + j + 1) s (by rw [hgn]);rw [hgn] at hst;refine vr 7 ?_;refine zC ?_;refine zz ?_;refine zz ?_;refine zU ?_;refine zC ?_;refine zz ?_;exact zB [] trivial [_] zu ⟨rfl, by simp only [hst]⟩
   ·have hje : j = x.dawn.length := by omega
    subst hje;refine tr 2 ?_;refine ym 6 ?_;refine zh ?_;refine zf ?_;refine xr ?_;refine qt 2 ?_;refine Pa 2 ?_;exact QR (2 + 1, s3) zu ⟨by dsimp only; omega, hg3⟩ jw
 | 3, _, hg2 =>
   have hal : Bb x 3 = ls.length := by rw [hl, hkl]; rfl
   rw [hal, List.take_length] at hg2;refine tr 2 ?_;refine ym 6 ?_;refine zh ?_;refine zf ?_;exact zB [] trivial [_] zu ⟨rfl, by simp only [hg2]⟩
theorem BO {b : Nat} {v : Value} {s : Int} (h0 : 0 <= s) (h1 : s <= 4611686018427387904) : CS Tryz.prog 270 [v, .pointer (some ⟨b, 0, none⟩)] m [cel b [iV s] 3] (fun v' L' => v' = .bool (decide (s + 1 < 1073741824)) /\ L' = [cel b [iV (s + 1)] 3]) := by
 refine zM [.tmp 3] Tryz.func270 rfl rfl rfl ?_;by_cases h : s + 1 < 1073741824
 ·refine tr 7 ?_;refine Lb 0 yH .here ?_;refine Pa 0 ?_;refine Sr 4 Yw .here .here ?_;refine Lb 0 yH .here ?_;refine yy 4 ?_;exact zB [_] zX [_] zu ⟨by rw [decide_eq_true h]; rfl, rfl⟩
 ·refine tr 7 ?_;refine Lb 0 yH .here ?_;refine Pa 0 ?_;refine Sr 4 Yw .here .here ?_;refine Lb 0 yH .here ?_;refine zA 4 ?_;exact zB [_] zX [_] zu ⟨by rw [decide_eq_false h]; rfl, rfl⟩
end
section
open Kd
variable {m : Mp} {x : yv}
theorem uO.form {vs : Lv} (h : uO m vs x) : ∃ u a1 a2 a3 a4 a5 a6 A la ca B lb cb D ld cd z, vs = [sV x.name, .bool u, iV a1, iV a2, iV a3, iV a4, iV a5, iV a6, .slice A la ca, .slice B lb cb, .slice D ld cd, iV z] := by
 obtain ⟨A, la, ca, B, lb, cb, D, ld, cd, e, _⟩ := h;exact ⟨_, _, _, _, _, _, _, A, la, ca, B, lb, cb, D, ld, cd, _, e⟩
theorem HL {cs : Lv} (hx : uO m cs x) {l : List yu} (hF : QB (jf x) l) (hlen : l.length <= 3999) : CS Tryz.prog 167 [.agg cs.toArray] m [] (uM (iV l.length)) := by
 have hx0 := hx;obtain ⟨u, a1, a2, a3, a4, a5, a6, A, la, ca, B, lb, cb, D, ld, cd, z, rfl⟩ := uO.form hx;clear hx;refine zM [.tmp 2] Tryz.func167 rfl rfl rfl ?_;refine tr 2 ?_;refine Bx 5 rfl fun b1 => ?_;refine Al 0 zl3 fun b2 => ?_;refine Sr 5 Yw .here .here ?_
 refine C1 Ao rfl .here (fun m1 hm he => Dx (g := 270) (E := fun s : Int => cel b2 [iV s] 3) (f := Qb) (I := fun s => 0 <= s /\ s < 1073741824) NL An (fun m' _ v p s hs _ => BO hs.1 ze) hF hlen (At.blk (GS he)) (hx0.mono hm) 0 ⟨by omega, by omega⟩) ?_;rintro _ _ ⟨rfl, rfl⟩;rw [Gb ze];refine vr 4 ?_;refine Lb 4 yH .here ?_
 exact xi zX ⟨by dsimp only; rw [Int.zero_add]; rfl, rfl⟩
end
end Go.Proofs.YtijakengkacnlaaGreatDoor
namespace Kd
open  Go.Eng
open Go Go.Eng
def qe : vC -> Nat
 | .mk _ _ _ k => 1 + (k.attach.map fun x => qe x.1).sum
termination_by x => SizeOf.sizeOf x
decreasing_by
 have := List.sizeOf_lt_of_mem x.2;simp only [vC.mk.sizeOf_spec];omega
theorem KU (op n who : Int) (k : List vC) : qe (.mk op n who k) = 1 + (k.map qe).sum := by
 rw [qe, List.attach_map_val (f := qe)]
def uD : xO -> Nat
 | .mk _ _ _ ns k => 1 + (ns.map qe).sum + (k.attach.map fun x => uD x.1).sum
termination_by x => SizeOf.sizeOf x
decreasing_by
 have := List.sizeOf_lt_of_mem x.2;simp only [xO.mk.sizeOf_spec];omega
theorem Qa (op who : Int) (name : Bt) (ns : List vC) (k : List xO) : uD (.mk op who name ns k) = 1 + (ns.map qe).sum + (k.map uD).sum := by
 rw [uD, List.attach_map_val (f := uD)]
def kG : xU -> Nat
 | .mk op _ n _ c t e => 1 + (if yl op then qe n else 0) + (if op = 8 then uD c + (t.attach.map fun x => kG x.1).sum + (e.attach.map fun x => kG x.1).sum else 0)
termination_by x => SizeOf.sizeOf x
decreasing_by
 all_goals
  have := List.sizeOf_lt_of_mem x.2;simp only [xU.mk.sizeOf_spec];omega
theorem Gm (op who : Int) (n : vC) (name : Bt) (c : xO) (t e : List xU) : kG (.mk op who n name c t e) = 1 + (if yl op then qe n else 0) + (if op = 8 then uD c + (t.map kG).sum + (e.map kG).sum else 0) := by
 rw [kG, List.attach_map_val (f := kG), List.attach_map_val (f := kG)]
def uL (l : List xU) : Nat := (l.map kG).sum
def gF : yu -> Nat
 | .eff x => kG x
 | .num x => qe x
 | .cond x => uD x
theorem cI (l : List xU) : (l.map yu.eff).map gF = l.map kG := by rw [List.map_map]; rfl
theorem K1 (l : List vC) : (l.map yu.num).map gF = l.map qe := by rw [List.map_map]; rfl
theorem MU (l : List xO) : (l.map yu.cond).map gF = l.map uD := by rw [List.map_map]; rfl
theorem MA (p : yu) : gF p = 1 + ((ww p).map gF).sum := by
 cases p with
 | eff x =>
   obtain ⟨op, who, n, name, c, t, e⟩ := x;show kG _ = _;rw [Gm];unfold ww;rw [List.map_append, List.sum_append]
   have h1 : ((if yl op then [yu.num n] else []).map gF).sum = if yl op then qe n else 0 := by
    split <;> simp [gF]
   have h2 : ((if op = 8 then yu.cond c :: (t.map .eff ++ e.map .eff) else []).map gF).sum = if op = 8 then uD c + (t.map kG).sum + (e.map kG).sum else 0 := by
    split
    ·rw [List.map_cons, List.map_append, cI, cI, List.sum_cons, List.sum_append];show uD c + _ = _;omega
    ·rfl
   rw [h1, h2];omega
 | num x =>
   obtain ⟨op, n, who, k⟩ := x;show qe _ = _;unfold ww;rw [KU, K1]
 | cond x =>
   obtain ⟨op, who, name, ns, k⟩ := x;show uD _ = _;unfold ww;rw [Qa, List.map_append, K1, MU, List.sum_append];omega
variable {l : List yu}
theorem Ns {p : yu} (h : uH p l) : l.length = gF p := by
 induction h with
 | @mk p ls hl hk ih =>
   rw [MA, List.length_cons, List.length_flatten]
   have : ls.map List.length = (ww p).map gF := by
    apply List.ext_getElem
    ·simp [hl]
    ·intro i h1 h2;simp only [List.getElem_map];simp only [List.length_map] at h2;exact ih i h2
   rw [this];omega
theorem Ht {ps : List yu} (h : QB ps l) : l.length = (ps.map gF).sum := by
 obtain ⟨ls, hl, hk, rfl⟩ := h;rw [List.length_flatten]
 congr 1
 apply List.ext_getElem
 ·simp [hl]
 ·intro i h1 h2;simp only [List.getElem_map];simp only [List.length_map] at h2;exact Ns (hk i h2)
theorem eX {α : Type} (f : α -> Nat) {l : List α} {i : Nat} (h : i < l.length) : ((l.take (i + 1)).map f).sum = ((l.take i).map f).sum + f l[i] := by
 rw [List.take_add_one, List.getElem?_eq_getElem h, List.map_append, List.sum_append]
 simp
def wh (n : Nat) : Int := min (n : Int) 1073741824
end Kd
namespace Go.Proofs.YtijakengkacnlaaGreatDoor
open  Go.Eng
section
open Kd
theorem xW (n : Nat) : 0 <= wh n /\ wh n <= 1073741824 := by unfold wh; omega
theorem gR (a b : Nat) : min (wh a + wh b) 1073741824 = wh (a + b) := by unfold wh; omega
variable {cs : Lv} {m0 : Mp}
theorem TF {x : vC} (hx : js m0 cs x) : ∀ m, Le m0 m -> CS Tryz.prog 127 [.agg cs.toArray] m [] (uM (iV (wh (qe x)))) := by
 induction hx with
 | @mk op n who kids A len c vs ho hln hmx hr hv hkk ih =>
 subst hln;intro m hm;unfold maxLen at hmx;refine zM [.tmp 2] Tryz.func127 rfl rfl rfl ?_;refine tr 2 ?_;refine Bx 15 rfl fun b1 => ?_
 refine zN (α := Nat × Int) (fun y => [(1, .pointer (some ⟨b1, 0, none⟩)), (3, iV y.2), (4, .int .i64 (y.1 : Nat))]) (fun _ => [cel b1 [.int .i8 op, .int .i64 n, .int .i8 who, .slice A kids.length c] 257]) (fun y => y.1 <= kids.length /\ y.2 = wh (1 + ((kids.take y.1).map qe).sum)) (fun y => kids.length - y.1) (0, 1) YG zu ⟨Nat.zero_le _, by simp [wh]; omega⟩ ?_
 rintro ⟨i, z⟩ ⟨hi, hz⟩;dsimp only at hi hz;dsimp only;unfold iV;by_cases hlt : i < kids.length
 ·have hA : A.isSome = true := hr.isSome ze;have hc := fun m1 (hm1 : Le m m1) => ih i hlt m1 (hm.trans hm1);have hat := (hr.elem (i * 4) 4).mono hm;have hl4 : ((vs.drop (i * 4)).take 4).length = 4 := (hkk i hlt).len;generalize (vs.drop (i * 4)).take 4 = ks at hc hat hl4;have hnn := xW (qe kids[i]);have hzz : 0 <= z /\ z <= 1073741824 := by rw [hz]; exact xW _
  refine tr 5 ?_;refine Lb 1 wK .here ?_;refine xI 10 ?_;refine Lb 1 wK .here ?_;refine pe 0 (zx bR rfl rfl hA ze) ?_;refine lr 0 ((yg gV rfl hl4 hat)) ?_;skip;refine Cr NW rfl (fun m' hm he => (hc m' hm)) ?_;rintro _ rfl;unfold iV;skip;refine Pa 0 ?_;refine pe 6 (jQ rfl rfl) ?_;refine Pa 2 ?_
  exact QR (i + 1, min (z + wh (qe kids[i])) 1073741824) zu ⟨hlt, by dsimp only; rw [hz, eX _ hlt, gR, Nat.add_assoc]⟩ jw
 ·have hi2 : i = kids.length := by omega
  subst hi2;rw [List.take_length] at hz;subst hz;refine tr 5 ?_;refine Lb 1 wK .here ?_;refine ym 5 ?_;refine zh ?_;refine zf ?_;refine qt 8 ?_;exact xi zX ⟨by rw [KU]; rfl, rfl⟩
theorem EZ {x : xO} (hx : ur m0 cs x) : ∀ m, Le m0 m -> CS Tryz.prog 128 [.agg cs.toArray] m [] (uM (iV (wh (uD x)))) := by
 induction hx with
 | @mk op who name nums kids A B la ca lb cb vs us ho hw hn hla hma hra hva hka hlb hmb hrb hvb hkb ih =>
 subst hla hlb;intro m hm;unfold maxLen at hma hmb;refine zM [.tmp 2] Tryz.func128 rfl rfl rfl ?_;refine tr 2 ?_;refine Bx 15 rfl fun b1 => ?_
 refine zN (α := Nat × Int) (fun y => [(1, .pointer (some ⟨b1, 0, none⟩)), (3, iV y.2), (4, .int .i64 (y.1 : Nat))]) (fun _ => [cel b1 [.int .i8 op, .int .i8 who, .string (bs name), .slice A nums.length ca, .slice B kids.length cb] 260]) (fun y => y.1 <= nums.length /\ y.2 = wh (1 + ((nums.take y.1).map qe).sum)) (fun y => nums.length - y.1) (0, 1) YG zu ⟨Nat.zero_le _, by simp [wh]; omega⟩ ?_
 rintro ⟨i, z⟩ ⟨hi, hz⟩;dsimp only at hi hz;dsimp only;unfold iV;by_cases hlt : i < nums.length
 ·have hA : A.isSome = true := hra.isSome ze;have hc := fun m1 (hm1 : Le m m1) => TF (hka i hlt) m1 (hm.trans hm1);have hat := (hra.elem (i * 4) 4).mono hm;have hl4 : ((vs.drop (i * 4)).take 4).length = 4 := (hka i hlt).len;generalize (vs.drop (i * 4)).take 4 = ks at hc hat hl4;have hnn := xW (qe nums[i]);have hzz : 0 <= z /\ z <= 1073741824 := by rw [hz]; exact xW _
  refine tr 5 ?_;refine Lb 1 wK .here ?_;refine xI 10 ?_;refine Lb 1 wK .here ?_;refine pe 0 (zx bR rfl rfl hA ze) ?_;refine lr 0 ((yg gV rfl hl4 hat)) ?_;skip;refine Cr NW rfl (fun m' hm he => (hc m' hm)) ?_;rintro _ rfl;unfold iV;skip;refine Pa 0 ?_;refine pe 6 (jQ rfl rfl) ?_;refine Pa 2 ?_
  exact QR (i + 1, min (z + wh (qe nums[i])) 1073741824) zu ⟨hlt, by dsimp only; rw [hz, eX _ hlt, gR, Nat.add_assoc]⟩ jw
 ·have hi2 : i = nums.length := by omega
  subst hi2;rw [List.take_length] at hz;refine tr 5 ?_;refine Lb 1 wK .here ?_;refine ym 5 ?_;refine zh ?_;refine zf ?_;refine qt 8 ?_
  refine zN (α := Nat × Int) (fun y => [(1, .pointer (some ⟨b1, 0, none⟩)), (3, iV y.2), (5, .int .i64 (y.1 : Nat))]) (fun _ => [cel b1 [.int .i8 op, .int .i8 who, .string (bs name), .slice A nums.length ca, .slice B kids.length cb] 260]) (fun y => y.1 <= kids.length /\ y.2 = wh (1 + (nums.map qe).sum + ((kids.take y.1).map uD).sum)) (fun y => kids.length - y.1) (0, z) YG zu ⟨Nat.zero_le _, by dsimp only; rw [hz]; simp⟩ ?_
  clear hz hlt hi;rintro ⟨i, z⟩ ⟨hi, hz⟩;dsimp only at hi hz;dsimp only;unfold iV;by_cases hlt : i < kids.length
  ·have hA : B.isSome = true := hrb.isSome ze;have hc := fun m1 (hm1 : Le m m1) => ih i hlt m1 (hm.trans hm1);have hat := (hrb.elem (i * 5) 5).mono hm;have hl4 : ((us.drop (i * 5)).take 5).length = 5 := (hkb i hlt).len;generalize (us.drop (i * 5)).take 5 = ks at hc hat hl4;have hnn := xW (uD kids[i]);have hzz : 0 <= z /\ z <= 1073741824 := by rw [hz]; exact xW _
   refine tr 5 ?_;refine Lb 1 kX .here ?_;refine xI 10 ?_;refine Lb 1 kX .here ?_;refine pe 0 (zx Gi rfl rfl hA ze) ?_;refine lr 0 ((yg XX rfl hl4 hat)) ?_;skip;refine Cr T6 rfl (fun m' hm he => (hc m' hm)) ?_;rintro _ rfl;unfold iV;skip;refine Pa 0 ?_;refine pe 6 (jQ rfl rfl) ?_;refine Pa 2 ?_
   exact QR (i + 1, min (z + wh (uD kids[i])) 1073741824) zu ⟨hlt, by dsimp only; rw [hz, eX _ hlt, gR, Nat.add_assoc]⟩ jw
  ·have hi2 : i = kids.length := by omega
   subst hi2;rw [List.take_length] at hz;subst hz;refine tr 5 ?_;refine Lb 1 kX .here ?_;refine ym 5 ?_;refine zh ?_;refine zf ?_;refine qt 8 ?_;exact xi zX ⟨by rw [Qa]; rfl, rfl⟩
def EW (l : List xU) : Prop := ∀ (m : Mp) (A : Oa) (cap : Nat), jq m A l.length l -> CS Tryz.prog 70 [.slice A l.length cap] m [] (uM (iV (wh (uL l))))
theorem U4 {l : List xU} (ih : ∀ (i : Nat) (h : i < l.length) (op who : Int) (n : vC) (name : Bt) (c : xO) (a e : List xU), l[i] = .mk op who n name c a e -> EW a /\ EW e) : EW l := by
 rintro m A cap ⟨-, hml, vs, hrd, hvl, hel⟩;unfold maxLen at hml;refine zM [.tmp 2] Tryz.func70 rfl rfl rfl ?_;refine tr 17 ?_
 refine zN (α := Nat × Int) (fun y => [(0, .slice A l.length cap), (3, iV y.2), (4, .int .i64 (y.1 : Nat))]) (fun _ => []) (fun y => y.1 <= l.length /\ y.2 = wh ((l.take y.1).map kG).sum) (fun y => l.length - y.1) (0, 0) YG zu ⟨Nat.zero_le _, by simp [wh]; omega⟩ ?_;rintro ⟨i, z⟩ ⟨hi, hz⟩;dsimp only at hi hz;dsimp only;unfold iV;by_cases hlt : i < l.length
 rotate_left
 ·have hi2 : i = l.length := by omega
  subst hi2;rw [List.take_length] at hz;subst hz;refine tr 6 ?_;refine ym 5 ?_;refine zh ?_;refine zf ?_;refine qt 8 ?_;exact xi zX ⟨rfl, rfl⟩
 have hA : A.isSome = true := hrd.isSome ze;have hx := hel i hlt;have hat := hrd.elem (i * 14) 14;have hih := ih i hlt;have hstep := eX kG hlt;generalize l[i] = x at hx hih hstep;generalize (vs.drop (i * 14)).take 14 = cs at hx hat
 obtain ⟨op, who, nop, nn, nwho, nA, nlen, nc, name, cop, cwho, cname, cA, cla, cca, cB, clb, ccb, TA, la, ca, EB, lb, cb, n, cond, thn, els, rfl, rfl, -, hn, hc, hthn, hels⟩ := vE.parts hx;obtain ⟨ihT, ihE⟩ := hih _ _ _ _ _ _ _ rfl;have elen := hthn.1;have elen2 := hels.1;subst elen elen2;have hatn := hat.sub 2 4;have hatc := hat.sub 7 5;dsimp only [List.drop, List.take] at hatn hatc
 have hzz : 0 <= z /\ z <= 1073741824 := by rw [hz]; exact xW _
 have hz1 : min (z + 1) 1073741824 = wh (((l.take i).map kG).sum + 1) := by rw [hz, <- gR]; unfold wh; omega
 rw [Gm] at hstep;clear hx;generalize ((l.take i).map kG).sum = s0 at hstep hz1;generalize hs1 : ((l.take (i + 1)).map kG).sum = s1 at hstep;clear hz ih hel;refine tr 6 ?_;refine xI 10 ?_;refine Pa 0 ?_;refine pe 5 (jQ rfl rfl) ?_;rw [hz1];have hb1 := xW (s0 + 1)
 refine ap (α := Int) (fun z => [(0, .slice A l.length cap), (3, iV z), (4, .int .i64 (i : Nat))]) (fun _ => []) (fun z => z = wh (s0 + 1 + if yl op then qe n else 0)) ?_ ?_
 ·refine tr 3 ?_;refine pe 1 (zx aa rfl rfl hA ze) ?_;refine Lo 0 zD rfl (hat.at_ rfl) ?_;refine Cr AI rfl (fun m' hm he => (NK op)) ?_;rintro _ rfl;cases hcb : yl op with
  | true =>
    have hnn := xW (qe n);have e := gR (s0 + 1) (qe n);refine vr 7 ?_;refine pe 1 (zx aa rfl rfl hA ze) ?_;refine La 0 gV hatn ?_;refine Cr NW rfl (fun m' hm he => (TF hn m' hm)) ?_;rintro _ rfl;unfold iV;skip;refine Pa 0 ?_;refine pe 2 (jQ rfl rfl) ?_
    exact QR (min (wh (s0 + 1) + wh (qe n)) 1073741824) zu (by rw [e, if_pos rfl]) zK
  | false =>
    refine vr 4 ?_;exact QR (wh (s0 + 1)) zu (by rw [if_neg zK, Nat.add_zero]) zK
 rintro _ rfl;generalize hs2 : s0 + 1 + (if yl op then qe n else 0) = s2;have hb2 := xW s2;unfold iV;by_cases h8 : op = 8
 ·rw [if_pos h8] at hstep;have hk1 := xW (uD cond);have hk2 := xW (uL thn);have hk3 := xW (uL els)
  have e : min (wh s2 + wh (uD cond) + wh (uL thn) + wh (uL els)) 1073741824 = wh s1 := by
   have h1 : s1 = s2 + uD cond + uL thn + uL els := by unfold uL; omega
   rw [h1];unfold wh;omega
  refine tr 4 ?_;refine pe 1 (zx aa rfl rfl hA ze) ?_;refine Lo 0 zD rfl (hat.at_ rfl) ?_;refine yy 3 ?_;refine yf (sT [0, 1, 2, 3, 4, 8, 9, 10, 11, 15, 16, 17, 18, 105, 112, 119, 206, 7, 213, 14, 220, 21, 22, 23] .done) mixed zn (fun _ _ _ _ hq => hq) ?_;refine vt 3 ?_;refine Vt 3 rfl (zx aa rfl rfl hA ze) ?_
  refine Vt 3 rfl (zx aa rfl rfl hA ze) ?_;refine Vt 1 rfl (zx aa rfl rfl hA ze) ?_;refine Vu 0 rfl (yg XX rfl rfl hatc) ?_;refine Vu 0 rfl (zw uQ rfl (hat.at_ rfl)) ?_;refine Vu 0 rfl (zw uQ rfl (hat.at_ rfl)) ?_;refine yo rfl (kS T6 rfl (fun m' hm he => (EZ hc m' hm)) rfl ?_) rfl;rintro _ rfl;unfold iV;skip
  refine Vt 0 rfl ((yp rfl rfl (qx ze ze))) ?_;skip;refine yo rfl (kS NP rfl (fun m' hm he => (ihT m' TA ca (hthn.mono hm))) rfl ?_) rfl;rintro _ rfl;unfold iV;skip;refine Vt 0 rfl ((yp rfl rfl (qx ze ze))) ?_;skip;refine yo rfl (kS NP rfl (fun m' hm he => (ihE m' EB cb (hels.mono hm))) rfl ?_) rfl;rintro _ rfl;unfold iV;skip
  refine Vt 0 rfl ((yp rfl rfl (qx ze ze))) ?_;refine Vt 1 rfl (jQ rfl rfl) ?_;refine Vm 4 ?_;refine Pa 2 ?_;rw [e];exact QR (i + 1, wh s1) zu ⟨hlt, by dsimp only; rw [hs1]⟩ jw
 ·rw [if_neg h8] at hstep;have e : s2 = s1 := by omega
  subst e;refine tr 4 ?_;refine pe 1 (zx aa rfl rfl hA ze) ?_;refine Lo 0 zD rfl (hat.at_ rfl) ?_;refine zA 8 ?_;refine Pa 2 ?_;exact QR (i + 1, wh s2) zu ⟨hlt, by dsimp only; rw [hs1]⟩ jw
theorem ZM (l : List xU) : EW l := U4 fun i h op who n name c a e he => ⟨ZM a, ZM e⟩
termination_by SizeOf.sizeOf l
decreasing_by
 all_goals
  have h1 := List.sizeOf_lt_of_mem (List.getElem_mem h);rw [he] at h1;simp only [xU.mk.sizeOf_spec] at h1;omega
def un (x : yv) : Nat := uL x.played + uL x.dead + uL x.dawn
variable {x : yv}
theorem ZV {l : List yu} (h : QB (jf x) l) : l.length = un x := by
 rw [Ht h];unfold jf un uL;rw [List.map_append, List.map_append, cI, cI, cI, List.sum_append, List.sum_append]
theorem SE {m : Mp} (hx : uO m cs x) : CS Tryz.prog 29 [.agg cs.toArray] m [] (uM (iV (wh (un x)))) := by
 obtain ⟨A, la, ca, B, lb, cb, D, ld, cd, rfl, hnl, hP, hD, hW, -⟩ := hx;have e1 := hP.1;have e2 := hD.1;have e3 := hW.1;subst e1 e2 e3;have hk1 := xW (uL x.played);have hk2 := xW (uL x.dead);have hk3 := xW (uL x.dawn)
 have e : min (wh (uL x.played) + wh (uL x.dead) + wh (uL x.dawn)) 1073741824 = wh (un x) := by
  unfold un wh;omega
 refine zM [.tmp 2] Tryz.func29 rfl rfl rfl ?_;refine tr 2 ?_;refine Bx 4 rfl fun b1 => ?_;refine yf (sT [0, 3, 7, 101, 104, 108, 202, 205, 6, 209, 10, 11, 12] .done) mixed zn (fun _ _ _ _ hq => hq) ?_;refine vt 3 ?_
 iterate 3 (refine Vl 0 rfl uQ .here ?_)
 refine yo rfl (kS NP rfl (fun m' hm he => (ZM _ m' A ca (hP.mono hm))) rfl ?_) rfl;rintro _ rfl;skip;refine yo rfl (kS NP rfl (fun m' hm he => (ZM _ m' B cb (hD.mono hm))) rfl ?_) rfl;rintro _ rfl;unfold iV;skip;refine Vt 0 rfl ((yp rfl rfl (qx ze ze))) ?_;skip
 refine yo rfl (kS NP rfl (fun m' hm he => (ZM _ m' D cd (hW.mono hm))) rfl ?_) rfl;rintro _ rfl;unfold iV;skip;refine Vt 0 rfl ((yp rfl rfl (qx ze ze))) ?_;refine Vt 1 rfl (jQ rfl rfl) ?_;refine Vm 2 ?_;rw [e];exact xi zX ⟨rfl, rfl⟩
end
end Go.Proofs.YtijakengkacnlaaGreatDoor
