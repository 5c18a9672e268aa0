/- Parts of the proof: contracts of functions of the program, and plain lemmas. No condition. -/
import Derived.Test.YtijakengkacnlaaGreatDoorEv43
import Derived.Test.YtijakengkacnlaaGreatDoorEng2
set_option linter.all false
set_option maxHeartbeats 64000000
set_option maxRecDepth 100000
namespace Go.Proofs.YtijakengkacnlaaGreatDoor
open Go.Eng
section
variable {m : Mp}
abbrev zV (n : Int) : Value := .int .i64 n
structure Sl where
 A : Oa
 c : Nat
 xs : List Int
abbrev Sl.v (s : Sl) : Value := .slice s.A s.xs.length s.c
abbrev Sl.vs (s : Sl) : Lv := s.xs.map zV
abbrev Sl.own (s : Sl) : ya := Go.Eng.own 3 1 s.A s.xs.length s.c s.vs
def gu (m : Mp) (s : Sl) : Prop := Rd m s.A s.vs /\ s.xs.length <= s.c /\ (s.A = none -> s.c = 0)
variable {s : Sl}
theorem gu.mono {m' : Mp} (h : gu m s) (hl : Le m m') : gu m' s := ⟨h.1.mono hl, h.2⟩
theorem vz (hA : gu m s) (hl : s.xs.length <= 1000000) : CS Tryz.prog 20 [s.v] m [] (fun v L' => ∃ s' : Sl, v = s'.v /\ s'.xs = s.xs /\ L' = [s'.own]) := by
 obtain ⟨A, c, xs⟩ := s;obtain ⟨hr, hc, hn⟩ := hA;dsimp only at hr hc hn hl ⊢;refine zM [.tmp 2] Tryz.func20 rfl rfl rfl ?_;cases A with
 | none =>
   have hx : xs = [] := by
    cases xs with
    | nil => rfl
    | cons x xs => exact absurd (hr 0 _ rfl).1 (by decide)
   subst hx;refine uY 3 1 ?_;refine tr 9 ?_;refine pe 10 ((dG EH rfl)) ?_;exact zB [_] ⟨rfl, trivial⟩ [_] .p0 ⟨⟨none, 0, []⟩, rfl, rfl, rfl⟩
 | some a =>
   refine tr 9 ?_;refine pe 7 ((dG EH rfl)) ?_;refine Bs 1 fO fun b1 => ?_;refine HO (cs := []) (k := 0) (e := 3) (sz := 1) .here rfl (by decide) ?_
   refine zg (up (A2 := some a) (j := xs.length) (c2 := c) (news := xs.map zV) fO rfl rfl rfl rfl (fun _ _ => .here) (fun h hs => hr.mono hs.base) (by simp) (fun u hu => by obtain ⟨s, -, rfl⟩ := List.mem_map.1 hu; rfl) (by simp only [maxLen]; omega) (by omega) rfl (fun A1 c1 => ?_)) rfl;refine vr 4 ?_;rw [Nat.zero_add, List.nil_append]
   exact zB [_] ⟨rfl, trivial⟩ [_] .p0 ⟨⟨A1, c1, xs⟩, rfl, rfl, rfl⟩
theorem NN : CS Tryz.prog 20 [.slice none 0 0] m [] (fun v L' => v = .slice none 0 0 /\ L' = []) := by
 refine zM [.tmp 2] Tryz.func20 rfl rfl rfl ?_;refine tr 9 ?_;refine pe 10 ((dG EH rfl)) ?_;exact zB [_] ⟨rfl, trivial⟩ [] (.nil _) ⟨rfl, rfl⟩
theorem Gq : CS Tryz.prog 57 [.slice none 0 0] m [] (fun v L' => v = .slice none 0 0 /\ L' = []) := by
 refine zM [.tmp 2] Tryz.func57 rfl rfl rfl ?_;refine tr 9 ?_;refine pe 10 ((dG il31 rfl)) ?_;exact zB [_] ⟨rfl, trivial⟩ [] (.nil _) ⟨rfl, rfl⟩
variable {f : FuncId}
theorem UL {q : Lv} (p : Int -> Bool) (hA : gu m s) (hl : s.xs.length <= 1000000000) (hcl : z7 Tryz.prog f = true) (hf : ∀ m', Le m m' -> ∀ x ∈ s.xs, CS Tryz.prog f (zV x :: q) m' [] (fun v L' => v = .bool (p x) /\ L' = [])) : CS Tryz.prog 49 [s.v, .func (.func f) #[] q.toArray] m [] (fun v L' => (∃ i : Int, v = zV i /\ ((0 <= i /\ s.xs.any p = true) \/ (i = -1 /\ s.xs.any p = false))) /\ L' = []) := by
 obtain ⟨A, c, xs⟩ := s;obtain ⟨hr, hc, hn⟩ := hA;dsimp only at hr hc hn hf hl ⊢;refine zM [.tmp 4] Tryz.func49 rfl rfl rfl ?_;refine tr 14 ?_
 refine zN (α := Nat) (fun i => [(0, .slice A xs.length c), (1, .func (.func f) #[] q.toArray), (7, .int .i64 (xs.length : Nat)), (8, .int .i64 (i : Nat))]) (fun _ => []) (fun i => i <= xs.length /\ (xs.take i).any p = false) (fun i => xs.length - i) 0 ⟨rfl, rfl, rfl, rfl, trivial⟩ (.nil _) ⟨Nat.zero_le _, rfl⟩ ?_;rintro i ⟨hi, hno⟩;by_cases h1 : i < xs.length
 ·obtain ⟨x, hx⟩ : ∃ x, xs[i]? = some x := ⟨_, List.getElem?_eq_getElem h1⟩;have hm1 := List.mem_of_getElem? hx;have hel : mc m ((sa A).add i) = some (zV x) := (hr i (zV x) (by rw [List.getElem?_map, hx]; rfl)).2;have hAs : A.isSome = true := (hr i (zV x) (by rw [List.getElem?_map, hx]; rfl)).1;have hno0 := hno;clear hno;refine tr 2 ?_;refine xI 19 ?_
  refine pe 0 (yE ac rfl rfl hAs (by omega)) ?_;refine Lo 0 yH rfl hel ?_;refine zg ((kR (p := []) (q := q) hcl rfl rfl (fun m' hm he => hf m' hm x hm1) rfl ?_)) rfl;rintro _ _ ⟨rfl, rfl⟩;cases hp : p x with
  | true =>
    refine vr 12 ?_;refine zC ?_;refine zz ?_;refine zU ?_;exact zB [_] ⟨rfl, trivial⟩ [] (.nil _) ⟨⟨_, rfl, .inl ⟨Int.natCast_nonneg i, List.any_eq_true.2 ⟨x, hm1, hp⟩⟩⟩, rfl⟩
  | false =>
    refine vr 7 ?_;refine Pa 2 ?_;exact QR (i + 1) (.nil _) ⟨h1, by rw [List.take_add_one, hx, List.any_append, hno0]; simp [hp]⟩ (by omega)
 ·have : i = xs.length := by omega
  subst this;rw [List.take_length] at hno;refine tr 2 ?_;refine ym 6 ?_;refine zh ?_;refine zf ?_;refine qt 7 ?_;exact zB [_] ⟨rfl, trivial⟩ [] (.nil _) ⟨⟨_, rfl, .inr ⟨rfl, hno⟩⟩, rfl⟩
theorem ge {s : Sl} {f : FuncId} {q : Lv} (p : Int -> Bool) (hA : gu m s) (hl : s.xs.length <= 1000000000) (hcl : z7 Tryz.prog f = true) (hf : ∀ m', Le m m' -> ∀ x ∈ s.xs, CS Tryz.prog f (zV x :: q) m' [] (fun v L' => v = .bool (p x) /\ L' = [])) : CS Tryz.prog 17 [s.v, .func (.func f) #[] q.toArray] m [] (fun v L' => v = .bool (s.xs.any p) /\ L' = []) := by
 refine zM [.tmp 4] Tryz.func17 rfl rfl rfl ?_;refine tr 9 ?_;refine zg ((zr cl49 rfl (fun m' hm he => UL (s := s) (f := f) (q := q) p (hA.mono hm) hl hcl fun m2 hm2 => hf m2 (hm.trans hm2)) rfl ?_)) rfl;rintro _ _ ⟨⟨i, rfl, h⟩, rfl⟩
 have hd : decide (0 <= i) = s.xs.any p := by
  rcases h with ⟨h1, h2⟩ | ⟨rfl, h2⟩
  ·rw [h2]; exact decide_eq_true h1
  ·rw [h2]; rfl
 refine pe 4 ((uq rfl rfl)) ?_;rw [hd];exact zB [_] ⟨rfl, trivial⟩ [] (.nil _) ⟨rfl, rfl⟩
variable {q : Lv}
theorem ZR (hA : gu m s) (hl : s.xs.length <= 1000000000) (hcl : z7 Tryz.prog f = true) (hf : ∀ m', Le m m' -> ∀ x ∈ s.xs, CS Tryz.prog f (zV x :: q) m' [] (fun v L' => v = .bool false /\ L' = [])) : CS Tryz.prog 17 [s.v, .func (.func f) #[] q.toArray] m [] (fun v L' => v = .bool false /\ L' = []) := by
 have h := ge (fun _ => false) hA hl hcl hf;rwa [show s.xs.any (fun _ => false) = false from by simp] at h
theorem fd {n : Int} (h1 : -1000000 <= n) (h2 : n <= 1000000) : CS Tryz.prog 101 [zV n] m [] (fun v L' => v = .bool true /\ L' = []) := by
 refine zM [.tmp 2] Tryz.func101 rfl rfl rfl ?_;refine tr 8 ?_;refine yy 2 ?_;refine yy 5 ?_;exact zB [_] ⟨rfl, trivial⟩ [] (.nil _) ⟨rfl, rfl⟩
theorem Dp {x : Int} {nk kc bx bp : Nat} {K : Oa} (h0 : mc m ⟨bx, 0, none⟩ = some (.pointer (some ⟨bp, 0, none⟩))) (h1 : mc m ⟨bp, 0, none⟩ = some (.slice K nk kc)) (hx : 0 <= x /\ x < (nk : Nat)) : CS Tryz.prog 286 [zV x, .pointer (some ⟨bx, 0, none⟩)] m [] (fun v L' => v = .bool false /\ L' = []) := by
 obtain ⟨hx0, hx1⟩ := hx;refine zM [.tmp 3] Tryz.func286 rfl rfl rfl ?_;refine tr 8 ?_;refine ym 2 ?_;refine Lo 2 CF rfl h0 ?_;refine Lo 1 QU rfl h1 ?_;refine ym 5 ?_;exact zB [_] ⟨rfl, trivial⟩ [] (.nil _) ⟨rfl, rfl⟩
end
section
variable {m : Mp}
structure Sd where
 life : Int
 mana : Int
 most : Int
 deck : Sl
 hand : Sl
 grav : Sl
 told : Sl
structure Gs where
 turn : Int
 mov : Int
 ph : Int
 res : Int
 a : Sd
 b : Sd
abbrev xK : Value := .slice none 0 0
abbrev Gs.v (g : Gs) : Lv := [zV g.turn, zV g.mov, .int .i8 g.ph, .bool false, .int .i8 g.res, xK, zV 1, zV g.a.life, zV g.a.mana, zV g.a.most, g.a.deck.v, g.a.hand.v, g.a.grav.v, xK, g.a.told.v, zV g.b.life, zV g.b.mana, zV g.b.most, g.b.deck.v, g.b.hand.v, g.b.grav.v, xK, g.b.told.v]
abbrev Sd.owns (d : Sd) : List ya := [d.told.own, d.grav.own, d.hand.own, d.deck.own]
abbrev Gs.owns (g : Gs) : List ya := g.b.owns ++ g.a.owns
structure vH (m : Mp) (d : Sd) : Prop where
 deck : gu m d.deck
 hand : gu m d.hand
 grav : gu m d.grav
 told : gu m d.told
 l1 : d.deck.xs.length <= 60
 l2 : d.hand.xs.length <= 10
 l3 : d.grav.xs.length <= 1000
 l4 : d.told.xs.length <= 1000
theorem vH.mono {m' : Mp} {d : Sd} (h : vH m d) (hl : Le m m') : vH m' d := ⟨h.deck.mono hl, h.hand.mono hl, h.grav.mono hl, h.told.mono hl, h.l1, h.l2, h.l3, h.l4⟩
def Sd.same (d e : Sd) : Prop := d.life = e.life /\ d.mana = e.mana /\ d.most = e.most /\ d.deck.xs = e.deck.xs /\ d.hand.xs = e.hand.xs /\ d.grav.xs = e.grav.xs /\ d.told.xs = e.told.xs
def Gs.same (g h : Gs) : Prop := g.turn = h.turn /\ g.mov = h.mov /\ g.ph = h.ph /\ g.res = h.res /\ g.a.same h.a /\ g.b.same h.b
abbrev z36 : Lv := [.int .i64 0, .int .i64 0, .int .i8 0, .bool false, .int .i8 0, .slice none 0 0, .int .i64 0, .int .i64 0, .int .i64 0, .int .i64 0, .slice none 0 0, .slice none 0 0, .slice none 0 0, .slice none 0 0, .slice none 0 0, .int .i64 0, .int .i64 0, .int .i64 0, .slice none 0 0, .slice none 0 0, .slice none 0 0, .slice none 0 0, .slice none 0 0]
theorem zR {P : Program} {n : Nat} {env : Env} {dst : Option Tmp} {ty : TypeId} {pos : String} {aft : Array Edge} {gd : Option (Nat × Bool)} {t k e sz b o i : Nat} {x y : Operand} (har : yi P t = some (k, e, sz)) (hx : ev env x = some (.pointer (some ⟨b, o, none⟩))) (hy : ev env y = some (.int .i64 (i : Nat))) (hi : i < k) :
  zP P n ⟨dst, .indexAddr t x y, ty, pos, aft, gd⟩ env (.pointer (some ⟨b, o + i * sz, none⟩)) := by
 have := zQ (P := P) (n := n) (dst := dst) (ty := ty) (pos := pos) (aft := aft) (gd := gd) har hx hy (by omega) (by omega);rwa [Int.toNat_natCast, Addr.add_lit] at this
inductive Cp3 where
 | a
 | b (x : Sd)
 | c (x y : Sd)
theorem jj {g : Gs} (ha : vH m g.a) (hb : vH m g.b) : CS Tryz.prog 23 [.agg g.v.toArray] m [] (fun v L' => ∃ h : Gs, v = .agg h.v.toArray /\ h.same g /\ L' = h.owns) := by
 skip;refine zM [.cell 2 36] Tryz.func23 rfl rfl rfl ?_;refine tr 2 ?_;refine Bx 0 rfl fun b1 => ?_;refine Al 5 qX fun b2 => ?_;refine Lb 0 wg .h1 ?_;refine zg ((zr ah rfl (fun m' hm he => NN) rfl ?_)) rfl;rintro _ _ ⟨rfl, rfl⟩;refine vr 1 ?_;refine Sr 9 jP .h1 .h5 ?_
 refine zN (α := Cp3) (fun y => match y with
   | .a => [(1, .pointer (some ⟨b1, 0, none⟩)), (2, .pointer (some ⟨b2, 0, none⟩)), (9, zV 0)]
   | .b _ => [(1, .pointer (some ⟨b1, 0, none⟩)), (2, .pointer (some ⟨b2, 0, none⟩)), (9, zV 1)]
   | .c _ _ => [(1, .pointer (some ⟨b1, 0, none⟩)), (2, .pointer (some ⟨b2, 0, none⟩)), (9, zV 2)])
  (fun y => match y with
   | .a => [cel b2 z36 36, cel b1 g.v 36]
   | .b x => x.owns ++ [cel b2 z36 36, cel b1 { g with a := x }.v 36]
   | .c x y => y.owns ++ x.owns ++ [cel b2 z36 36, cel b1 { g with a := x, b := y }.v 36])
  (fun y => match y with
   | .a => True
   | .b x => x.same g.a
   | .c x y => x.same g.a /\ y.same g.b) (fun y => match y with
   | .a => 2
   | .b _ => 1
   | .c _ _ => 0) .a ⟨rfl, rfl, rfl, trivial⟩ .pp trivial ?_
 rintro (_ | x | ⟨x, y⟩) hF
 ·have h1 := ha.l1; have h2 := ha.l2; have h3 := ha.l3; have h4 := ha.l4;dsimp only [Gs.v, Sl.v, z36, Sd.owns, List.cons_append, List.nil_append];refine tr 2 ?_;refine xI 18 ?_;refine pe 3 ((zR (i := 0) vO rfl rfl (by decide))) ?_
  refine yf (sT [0, 1, 2, 3, 4, 5, 6, 7, 10, 11, 12, 15, 16, 17, 20, 21, 22, 25, 26, 27, 108, 113, 118, 123, 128, 209, 214, 219, 224, 229, 30, 31, 332, 33, 34, 335, 36, 37, 338, 39, 40, 341, 42, 43, 344] .done) mixed (by kernel_rfl) (fun _ _ _ _ hq => hq) ?_;refine vt 20 ?_
  iterate 4 (refine Vl 0 rfl wg .h1 ?_)
  refine Vl 0 rfl dV .h1 ?_;refine yo rfl ((zr ah rfl (fun m' hm he => vz (s := g.a.deck) (ha.deck.mono hm) (by omega)) rfl ?_)) rfl;rintro _ _ ⟨s1, rfl, hs1, rfl⟩;skip;refine yo rfl ((zr ah rfl (fun m' hm he => vz (s := g.a.hand) (ha.hand.mono hm) (by omega)) rfl ?_)) rfl;rintro _ _ ⟨s2, rfl, hs2, rfl⟩;skip
  refine yo rfl ((zr ah rfl (fun m' hm he => vz (s := g.a.grav) (ha.grav.mono hm) (by omega)) rfl ?_)) rfl;rintro _ _ ⟨s3, rfl, hs3, rfl⟩;skip;refine yo rfl ((zr ah rfl (fun m' hm he => vz (s := g.a.told) (ha.told.mono hm) (by omega)) rfl ?_)) rfl;rintro _ _ ⟨s4, rfl, hs4, rfl⟩;skip;refine yo rfl ((zr BQ rfl (fun m' hm he => Gq) rfl ?_)) rfl
  rintro _ _ ⟨rfl, rfl⟩;refine vt 2 ?_;refine z8 rfl rfl (yx jP rfl rfl rfl .h5 .h10 ?_) rfl;refine vt 2 ?_;refine z8 rfl rfl (yx jP rfl rfl rfl .h5 .h11 ?_) rfl;refine vt 2 ?_;refine z8 rfl rfl (yx jP rfl rfl rfl .h5 .h12 ?_) rfl;refine vt 2 ?_;refine z8 rfl rfl (yx jP rfl rfl rfl .h5 .h14 ?_) rfl;refine vt 2 ?_
  refine z8 rfl rfl (yx BM rfl rfl rfl .h5 .h13 ?_) rfl;refine Vm 3 ?_;refine Pa 2 ?_;exact QR (.b ⟨g.a.life, g.a.mana, g.a.most, s1, s2, s3, s4⟩) (.cons .here (.cons .here (.cons .here (.cons .here .pp)))) ⟨rfl, rfl, rfl, hs1, hs2, hs3, hs4⟩ (Nat.le_refl _)
 ·have h1 := hb.l1; have h2 := hb.l2; have h3 := hb.l3; have h4 := hb.l4;dsimp only [Gs.v, Sl.v, z36, Sd.owns, List.cons_append, List.nil_append];refine tr 2 ?_;refine xI 18 ?_;refine pe 3 ((zR (i := 1) vO rfl rfl (by decide))) ?_
  refine yf (sT [0, 1, 2, 3, 4, 5, 6, 7, 10, 11, 12, 15, 16, 17, 20, 21, 22, 25, 26, 27, 108, 113, 118, 123, 128, 209, 214, 219, 224, 229, 30, 31, 332, 33, 34, 335, 36, 37, 338, 39, 40, 341, 42, 43, 344] .done) mixed (by kernel_rfl) (fun _ _ _ _ hq => hq) ?_;refine vt 20 ?_
  iterate 4 (refine Vl 0 rfl wg .h5 ?_)
  refine Vl 0 rfl dV .h5 ?_;refine yo rfl ((zr ah rfl (fun m' hm he => vz (s := g.b.deck) (hb.deck.mono hm) (by omega)) rfl ?_)) rfl;rintro _ _ ⟨s1, rfl, hs1, rfl⟩;skip;refine yo rfl ((zr ah rfl (fun m' hm he => vz (s := g.b.hand) (hb.hand.mono hm) (by omega)) rfl ?_)) rfl;rintro _ _ ⟨s2, rfl, hs2, rfl⟩;skip
  refine yo rfl ((zr ah rfl (fun m' hm he => vz (s := g.b.grav) (hb.grav.mono hm) (by omega)) rfl ?_)) rfl;rintro _ _ ⟨s3, rfl, hs3, rfl⟩;skip;refine yo rfl ((zr ah rfl (fun m' hm he => vz (s := g.b.told) (hb.told.mono hm) (by omega)) rfl ?_)) rfl;rintro _ _ ⟨s4, rfl, hs4, rfl⟩;skip;refine yo rfl ((zr BQ rfl (fun m' hm he => Gq) rfl ?_)) rfl
  rintro _ _ ⟨rfl, rfl⟩;refine vt 2 ?_;refine z8 rfl rfl (yx jP rfl rfl rfl .h9 (.there (.there .h16)) ?_) rfl;refine vt 2 ?_;refine z8 rfl rfl (yx jP rfl rfl rfl .h9 (.there (.there (.there .h16))) ?_) rfl;refine vt 2 ?_;refine z8 rfl rfl (yx jP rfl rfl rfl .h9 (.there (.there (.there (.there .h16)))) ?_) rfl;refine vt 2 ?_
  refine z8 rfl rfl (yx jP rfl rfl rfl .h9 (.there (.there (.there (.there (.there (.there .h16)))))) ?_) rfl;refine vt 2 ?_;refine z8 rfl rfl (yx BM rfl rfl rfl .h9 (.there (.there (.there (.there (.there .h16))))) ?_) rfl;refine Vm 3 ?_;refine Pa 2 ?_
  exact QR (.c x ⟨g.b.life, g.b.mana, g.b.most, s1, s2, s3, s4⟩) (.cons .here (.cons .here (.cons .here (.cons .here (.cons .here (.cons .here (.cons .here (.cons .here .pp)))))))) ⟨hF, rfl, rfl, rfl, hs1, hs2, hs3, hs4⟩ (Nat.le_refl _)
 ·obtain ⟨hx, hy⟩ := hF;dsimp only [Gs.v, Sl.v, z36, Sd.owns, List.cons_append, List.nil_append];refine tr 2 ?_;refine ym 6 ?_;refine zh ?_;refine zf ?_;refine qt 3 ?_;refine Lc 0 yn .h9 ?_;refine Sg 3 yn .h8 ?_
  exact zB [_] ⟨⟨b2, _, _, _, rfl, .h8, .inr ⟨yn, rfl⟩⟩, trivial⟩ _ (.cons .here (.cons .here (.cons .here (.cons .here (.cons .here (.cons .here .pp)))))) ⟨{ g with a := x, b := y }, rfl, ⟨rfl, rfl, rfl, rfl, hx, hy⟩, rfl⟩
end
section
variable {m : Mp}
structure dj (nk : Nat) (d : Sd) : Prop where
 life1 : -1000000 <= d.life
 life2 : d.life <= 1000000
 mana0 : 0 <= d.mana
 mana2 : d.mana <= 1000000
 most0 : 0 <= d.most
 most2 : d.most <= 10
 deck : ∀ x ∈ d.deck.xs, 0 <= x /\ x < (nk : Nat)
 hand : ∀ x ∈ d.hand.xs, 0 <= x /\ x < (nk : Nat)
 grav : ∀ x ∈ d.grav.xs, 0 <= x /\ x < (nk : Nat)
 told : ∀ x ∈ d.told.xs, 0 <= x /\ x < (nk : Nat)
def fa (m : Mp) (b o : Nat) (l : Lv) : Prop := ∀ i v, l[i]? = some v -> mc m ⟨b, o + i, none⟩ = some v
variable {b : Nat} {l : Lv} {o : Nat}
theorem fa.mono {m' : Mp} (h : fa m b o l) (hl : Le m m') : fa m' b o l := fun i v hv => yA hl (h i v hv)
theorem fa.blk {t : TypeId} {fr : Nat × Nat} (hb : m b = some (.cells l.toArray t fr)) : fa m b 0 l := fun i v hv => by
 rw [Nat.zero_add];exact zy hb (by rw [<- hv, vS])
abbrev Sd.v (d : Sd) : Lv := [zV d.life, zV d.mana, zV d.most, d.deck.v, d.hand.v, d.grav.v, xK, d.told.v]
theorem Jo {nk kc sb k : Nat} {K : Oa} {im : Nat} {d : Sd} (hK : mc m ⟨b, 0, none⟩ = some (.slice K nk kc)) (hS : fa m sb (o + 7 + k * 8) d.v) (hk : k < 2) (hd : vH m d) (ho : dj nk d) :
  CS Tryz.prog 185 [.pointer (some ⟨b, 0, none⟩), .pointer (some ⟨sb, o, none⟩), .int .i64 (k : Nat), .map (some im)] m [] (fun v L' => v = .bool true /\ L' = []) := by
 skip;have e0 := hS 0 _ rfl;have e1 := hS 1 _ rfl;have e2 := hS 2 _ rfl;have e3 := hS 3 _ rfl;have e4 := hS 4 _ rfl;have e5 := hS 5 _ rfl;have e6 := hS 6 _ rfl;have e7 := hS 7 _ rfl;obtain ⟨i1, i2, i3, i4, i5, i6, i7, i8, i9, i10⟩ := ho;refine zM [.tmp 8] Tryz.func185 rfl rfl rfl ?_;refine tr 2 ?_;refine Bx 9 rfl fun b1 => ?_;refine pe 9 ((zR vO rfl rfl hk)) ?_
 refine Lo 0 yH rfl e0 ?_;refine zg ((zr Gw rfl (fun m' hm he => fd i1 i2) rfl ?_)) rfl;rintro _ _ ⟨rfl, rfl⟩;refine vr 5 ?_;refine Lo 0 yH rfl e1 ?_;refine ym 5 ?_;refine Lo 0 yH rfl e1 ?_;refine zg ((zr Gw rfl (fun m' hm he => fd (by omega) i4) rfl ?_)) rfl;rintro _ _ ⟨rfl, rfl⟩;refine vr 6 ?_;refine Lo 0 yH rfl e2 ?_;refine ym 5 ?_
 refine Lo 0 yH rfl e2 ?_;refine ym 5 ?_;refine Lo 1 dV rfl e6 ?_;refine ym 8 ?_;refine Db (sq [0, 1, 2, 3, 4, 5, 6, 7, 8, 9, 10, 11, 12, 13, 14, 15, 16, 17, 18, 19, 20, 21] .done) ?_;refine vB 3 ?_;refine Vr 0 rfl (zw wg rfl e3) ?_;refine Vb 3 rfl (zW Vw KM rfl rfl) ?_;refine Vr 0 rfl (zw wg rfl e4) ?_;refine Vb 3 rfl (zW Vw KM rfl rfl) ?_
 refine Vr 0 rfl (zw wg rfl e5) ?_;refine Vb 3 rfl (zW Vw KM rfl rfl) ?_;refine Vr 0 rfl (zw wg rfl e7) ?_;refine Vb 0 rfl (zW Vw KM rfl rfl) ?_;refine Vb 1 rfl (xa Fc D8 rfl rfl) ?_;refine Vn 2 ?_;have hl1 := hd.l1; have hl2 := hd.l2; have hl3 := hd.l3; have hl4 := hd.l4
 refine zN (α := Nat) (fun i => [(84, .agg [d.deck.v, zV 60, d.hand.v, zV 10, d.grav.v, zV 1000000, d.told.v, zV 1000000].toArray), (85, .int .i64 (i : Nat)), (1, .pointer (some ⟨sb, o, none⟩)), (3, .map (some im)), (4, .pointer (some ⟨b1, 0, none⟩)), (9, .pointer (some ⟨sb, o + 7 + k * 8, none⟩))]) (fun _ => [cel b1 [.pointer (some ⟨b, 0, none⟩)] 121]) (fun i => i <= 4) (fun i => 4 - i) 0 ⟨rfl, rfl, rfl, rfl, rfl, rfl, trivial⟩ (zJ.refl _) (Nat.zero_le _) ?_
 intro i hi;by_cases h4 : i < 4
 ·obtain ⟨s, q, hel, hle, hr, hin⟩ : ∃ (s : Sl) (q : Nat), ([d.deck.v, zV 60, d.hand.v, zV 10, d.grav.v, zV 1000000, d.told.v, zV 1000000].drop (i * 2)).take 2 = [s.v, zV q] /\ s.xs.length <= q /\ gu m s /\ s.xs.length <= 1000000 /\ ∀ x ∈ s.xs, 0 <= x /\ x < (nk : Nat) := by
   match i, h4 with
   | 0, _ => exact ⟨d.deck, 60, rfl, hl1, hd.deck, by omega, i7⟩
   | 1, _ => exact ⟨d.hand, 10, rfl, hl2, hd.hand, by omega, i8⟩
   | 2, _ => exact ⟨d.grav, 1000000, rfl, by omega, hd.grav, by omega, i9⟩
   | 3, _ => exact ⟨d.told, 1000000, rfl, by omega, hd.told, by omega, i10⟩
  obtain ⟨hlen, hin⟩ := hin;refine tr 2 ?_;refine xI 10 ?_;refine pe 0 (Qz Fc Dv rfl rfl (by omega) (by omega)) ?_;refine Al 0 Vw fun b2 => ?_;refine zg (yh (vs := [s.v, zV q]) zad rfl (congrArg (fun l : Lv => some (Value.agg l.toArray)) hel) rfl .here rfl rfl ?_) rfl;refine vr 5 ?_;refine Lb 2 wg .here ?_;refine Lb 0 yH .here ?_;refine ym 2 ?_
  refine Lb 1 wg .here ?_;refine zg ((zr AF rfl (fun m' hm he => ZR (s := s) (f := 286) (q := [.pointer (some ⟨b1, 0, none⟩)]) (hr.mono hm) (by omega) Aa fun m2 hm2 x hx => Dp (yA hm2 (zy (he _ (.tail _ (.head _))) rfl)) (yA (hm.trans hm2) hK) (hin x hx)) rfl ?_)) rfl;rintro _ _ ⟨rfl, rfl⟩;refine vr 8 ?_;refine Pa 2 ?_;exact QR (i + 1) .p1 h4 (by omega)
 ·have : i = 4 := by omega
  subst this;refine tr 2 ?_;refine ym 6 ?_;refine zh ?_;refine zf ?_;refine qt 7 ?_;refine Lo 5 dV rfl e6 ?_;refine zN (α := Unit) (fun _ => [(105, .int .i64 ((0 : Nat) : Int)), (106, .int .i64 0)]) (fun _ => []) (fun _ => True) (fun _ => 0) () ⟨rfl, rfl, trivial⟩ (.nil _) trivial ?_;rintro ⟨⟩ -;refine tr 2 ?_;refine ym 6 ?_;refine zh ?_
  refine zf ?_;refine qt 7 ?_;exact zB [_] ⟨rfl, trivial⟩ [] (.nil _) ⟨rfl, rfl⟩
end
section
variable {m : Mp}
abbrev XE (p : Int) : Lv := [.int .i8 3, zV p, zV 0, zV (-1), xK, xK]
theorem Sv {ab : Nat} {p : Int} (hA : fa m ab 0 (XE p)) : CS Tryz.prog 112 [.pointer (some ⟨ab, 0, none⟩)] m [] (fun v L' => v = .bool true /\ L' = []) := by
 have e0 := hA 0 _ rfl;have e2 := hA 2 _ rfl;have e3 := hA 3 _ rfl;have e4 := hA 4 _ rfl;have e5 := hA 5 _ rfl;refine zM [.tmp 2] Tryz.func112 rfl rfl rfl ?_;refine tr 11 ?_;refine Lo 0 zD rfl e0 ?_;refine xI 4 ?_;refine Lo 0 yH rfl e2 ?_;refine ym 4 ?_;refine Lo 0 yH rfl e3 ?_;refine ym 12 ?_;refine Lo 0 zD rfl e0 ?_;refine ym 4 ?_;refine Lo 1 wg rfl e4 ?_;refine NI 5 ?_
 refine Lo 0 zD rfl e0 ?_;refine ym 4 ?_;refine Lo 1 sg42 rfl e5 ?_;refine NI 6 ?_;exact zB [_] ⟨rfl, trivial⟩ [] (.nil _) ⟨rfl, rfl⟩
variable {g : Gs}
theorem Lj (h1 : g.mov = 0 \/ g.mov = 1) (h2 : g.ph = 0) : CS Tryz.prog 113 [.agg g.v.toArray] m [] (fun v L' => v = zV g.mov /\ L' = []) := by
 obtain ⟨turn, mov, ph, res, a, b⟩ := g;dsimp only at h1 h2;subst h2
 have hb : bits .and .i64 mov 1 = mov := by
  rcases h1 with rfl | rfl <;> decide
 refine zM [.tmp 2] Tryz.func113 rfl rfl rfl ?_;dsimp only [Gs.v, Sl.v];refine tr 2 ?_;refine Bx 7 rfl fun b1 => ?_;refine Lb 0 yH .here ?_;refine pe 6 (kf rfl rfl (by with_reducible assumption)) ?_;refine Lb 5 zD .here ?_;refine NI 13 ?_;exact zB [_] ⟨rfl, trivial⟩ [] (.nil _) ⟨rfl, rfl⟩
abbrev Cn : Lv := [.func (.func 186) #[] #[], .func (.func 187) #[] #[], .func (.func 188) #[] #[], .func (.func 189) #[] #[], .func (.func 190) #[] #[]]
theorem OZ : CS Tryz.prog 114 [] m [] (fun v L' => v = .agg Cn.toArray /\ L' = []) := by
 refine zM [.cell 0 234] Tryz.func114 rfl rfl rfl ?_;refine tr 2 ?_;refine Al 4 Tg fun b1 => ?_;refine pe 0 (xa Fd Tg rfl rfl) ?_;refine Sg 3 zah .here ?_;exact zB [_] ⟨⟨b1, _, _, _, rfl, .here, .inr ⟨rfl, rfl⟩⟩, trivial⟩ [] (.nil _) ⟨rfl, rfl⟩
theorem PM {l : Lv} (hl : l.length = 3) (h1 : l.all uI = true) : CS Tryz.prog 189 [.agg l.toArray] m [] (fun v L' => v = .bool true /\ L' = []) := by
 refine zM [.tmp 2] Tryz.func189 rfl rfl rfl ?_;refine tr 2 ?_;refine Bx 9 rfl fun b1 => ?_;exact zB [_] ⟨rfl, trivial⟩ [] (.nil _) ⟨rfl, rfl⟩
theorem IW {sb o : Nat} (hS : fa m sb o g.v) : CS Tryz.prog 108 [.pointer (some ⟨sb, o, none⟩)] m [] (fun v L' => v = .int .i8 (if g.a.life <= 0 then (if g.b.life <= 0 then 3 else 2) else if g.b.life <= 0 then 1 else 0) /\ L' = []) := by
 skip;have e7 := hS 7 _ rfl;have e15 := hS 15 _ rfl;refine zM [.tmp 2] Tryz.func108 rfl rfl rfl ?_;by_cases h1 : g.a.life <= 0
 ·by_cases h2 : g.b.life <= 0
  ·refine tr 7 ?_;refine Db (sq [0, 1, 2, 3, 4, 5, 6, 7, 8, 9, 10, 11, 12, 13, 14, 15] .done) ?_;refine vB 3 ?_;refine Vb 1 rfl (zQ vO rfl rfl (by omega) (by omega)) ?_;refine Vr 0 rfl (zw yH rfl e7) ?_;refine Vb 3 rfl (dt (qC rfl rfl) (by assumption)) ?_;refine Vb 1 rfl (zQ vO rfl rfl (by omega) (by omega)) ?_;refine Vr 0 rfl (zw yH rfl e15) ?_
   refine Vb 2 rfl (dt (qC rfl rfl) (by assumption)) ?_;refine Vn 20 ?_;exact zB [_] ⟨rfl, trivial⟩ [] (.nil _) ⟨by rw [if_pos h1, if_pos h2]; rfl, rfl⟩
  ·refine tr 7 ?_;refine Db (sq [0, 1, 2, 3, 4, 5, 6, 7, 8, 9, 10, 11, 12, 13, 14, 15] .done) ?_;refine vB 3 ?_;refine Vb 1 rfl (zQ vO rfl rfl (by omega) (by omega)) ?_;refine Vr 0 rfl (zw yH rfl e7) ?_;refine Vb 3 rfl (dt (qC rfl rfl) (by assumption)) ?_;refine Vb 1 rfl (zQ vO rfl rfl (by omega) (by omega)) ?_;refine Vr 0 rfl (zw yH rfl e15) ?_
   refine Vb 2 rfl (df (qC rfl rfl) (by assumption)) ?_;refine Vn 27 ?_;exact zB [_] ⟨rfl, trivial⟩ [] (.nil _) ⟨by rw [if_pos h1, if_neg h2]; rfl, rfl⟩
 ·by_cases h2 : g.b.life <= 0
  ·refine tr 7 ?_;refine Db (sq [0, 1, 2, 3, 4, 5, 6, 7, 8, 9, 10, 11, 12, 13, 14, 15] .done) ?_;refine vB 3 ?_;refine Vb 1 rfl (zQ vO rfl rfl (by omega) (by omega)) ?_;refine Vr 0 rfl (zw yH rfl e7) ?_;refine Vb 3 rfl (df (qC rfl rfl) (by assumption)) ?_;refine Vb 1 rfl (zQ vO rfl rfl (by omega) (by omega)) ?_;refine Vr 0 rfl (zw yH rfl e15) ?_
   refine Vb 2 rfl (dt (qC rfl rfl) (by assumption)) ?_;refine Vn 34 ?_;exact zB [_] ⟨rfl, trivial⟩ [] (.nil _) ⟨by rw [if_neg h1, if_pos h2]; rfl, rfl⟩
  ·refine tr 7 ?_;refine Db (sq [0, 1, 2, 3, 4, 5, 6, 7, 8, 9, 10, 11, 12, 13, 14, 15] .done) ?_;refine vB 3 ?_;refine Vb 1 rfl (zQ vO rfl rfl (by omega) (by omega)) ?_;refine Vr 0 rfl (zw yH rfl e7) ?_;refine Vb 3 rfl (df (qC rfl rfl) (by assumption)) ?_;refine Vb 1 rfl (zQ vO rfl rfl (by omega) (by omega)) ?_;refine Vr 0 rfl (zw yH rfl e15) ?_
   refine Vb 2 rfl (df (qC rfl rfl) (by assumption)) ?_;refine Vn 35 ?_;exact zB [_] ⟨rfl, trivial⟩ [] (.nil _) ⟨by rw [if_neg h1, if_neg h2]; rfl, rfl⟩
variable {qb : Nat}
theorem FV : CS Tryz.prog 103 [.pointer (some ⟨qb, 0, none⟩), xK] m [cel qb [xK] 217] (fun v L' => ∃ A c, L' = [cel qb [.slice A 0 c] 217]) := by
 refine zM [] Tryz.func103 rfl rfl rfl ?_;refine uY 132 3 ?_;refine tr 5 ?_;refine Lb 1 Tv .h1 ?_;refine zg (up (A2 := none) (j := 0) (c2 := 0) (news := []) CB rfl rfl rfl rfl (fun _ _ => .here) (fun h hs => Rd.nil _ _) rfl (fun u hu => by cases hu) (by decide) (by decide) rfl (fun A1 c1 => ?_)) rfl;refine vr 2 ?_;refine Sr 1 BN .h1 .here ?_
 exact zB [] trivial [_] .p1 ⟨A1, c1, rfl⟩
theorem O2 {c : Nat} {A : Oa} (h : mc m ⟨qb, 0, none⟩ = some (.slice A 0 c)) : CS Tryz.prog 109 [.pointer (some ⟨qb, 0, none⟩)] m [] (fun v L' => v = .tuple #[.agg #[zV 0, zV 0, .bool false], .bool false] /\ L' = []) := by
 refine zM [.cell 2 132, .tmp 3] Tryz.func109 rfl rfl rfl ?_;refine tr 2 ?_;refine Al 9 Th fun b1 => ?_;refine Lo 1 Tv rfl h ?_;refine NI 5 ?_;refine Lc 0 Of .here ?_;refine Sg 5 Of .here ?_;exact zB [_, _] ⟨⟨b1, _, _, _, rfl, .here, .inr ⟨rfl, rfl⟩⟩, rfl, trivial⟩ [] (.nil _) ⟨rfl, rfl⟩
end
section
variable {m : Mp}
def vR (m : Mp) (B : Lv) : Prop := ∀ m', Le m m' -> CS Tryz.prog 16 [.agg B.toArray] m' [] (fun v L' => (∃ a, v = .agg #[zV 0, zV a]) /\ L' = [])
theorem vR.mono {m' : Mp} {B : Lv} (h : vR m B) (hl : Le m m') : vR m' B := fun m2 h2 => h m2 (hl.trans h2)
structure qj (nk : Nat) (g : Gs) : Prop where
 t1 : 1 <= g.turn
 t2 : g.turn <= 4096
 mv : g.mov = 0 \/ g.mov = 1
 ph : g.ph = 0
 res : g.res = 0
 a : dj nk g.a
 b : dj nk g.b
abbrev vg (K : Oa) (nk kc : Nat) (F : Oa) (nf fc : Nat) : Lv := [.slice K nk kc, .slice F nf fc]
variable {F K : Oa} {fc : Nat} {g : Gs} {kc nf nk : Nat}
theorem MT {b s : Nat} {bare : Bool} (hB : fa m b 0 (vg K nk kc F nf fc)) (hC : vR m (vg K nk kc F nf fc)) (hS : fa m s 0 g.v) (ha : vH m g.a) (hb : vH m g.b) (hg : qj nk g) :
  CS Tryz.prog 111 [.pointer (some ⟨b, 0, none⟩), .pointer (some ⟨s, 0, none⟩), .bool bare] m [] (fun v L' => v = .bool true /\ L' = []) := by
 skip;have e0 := hS 0 _ rfl;have e1 := hS 1 _ rfl;have e2 := hS 2 _ rfl;have e4 := hS 4 _ rfl;have e5 := hS 5 _ rfl;have e6 := hS 6 _ rfl;have f0 := hB 0 _ rfl
 have hBa : At m ⟨b, 0, none⟩ (vg K nk kc F nf fc) := fun i u hu => by
  rw [Addr.add_lit]; exact hB i u hu
 have hSa : ∀ i v, g.a.v[i]? = some v -> mc m ⟨s, 0 + 7 + 0 * 8 + i, none⟩ = some v := fun i v hv => by
  have hi : i < 8 := (List.getElem?_eq_some_iff.1 hv).1
  have := hS (7 + i) v (by
   match i, hi with
   | 0, _ | 1, _ | 2, _ | 3, _ | 4, _ | 5, _ | 6, _ | 7, _ => exact hv)
  rwa [show 0 + (7 + i) = 0 + 7 + 0 * 8 + i by omega] at this
 have hSb : ∀ i v, g.b.v[i]? = some v -> mc m ⟨s, 0 + 7 + 1 * 8 + i, none⟩ = some v := fun i v hv => by
  have hi : i < 8 := (List.getElem?_eq_some_iff.1 hv).1
  have := hS (15 + i) v (by
   match i, hi with
   | 0, _ | 1, _ | 2, _ | 3, _ | 4, _ | 5, _ | 6, _ | 7, _ => exact hv)
  rwa [show 0 + (15 + i) = 0 + 7 + 1 * 8 + i by omega] at this
 obtain ⟨t1, t2, mv, hp, hr, oa, ob⟩ := hg;refine zM [.tmp 6] Tryz.func111 rfl rfl rfl ?_;have hm0 : 0 <= g.mov := by omega
 have hm1 : g.mov <= 1 := by omega
 rw [hp] at e2;rw [hr] at e4;refine tr 13 ?_;refine Lo 0 yH rfl e0 ?_;refine ym 9 ?_;refine Lo 0 yH rfl e0 ?_;refine ym 9 ?_;refine Lo 0 yH rfl e1 ?_;refine ym 9 ?_;refine Lo 0 yH rfl e1 ?_;refine ym 9 ?_;refine Lo 0 zD rfl e2 ?_;refine ym 9 ?_;refine Lo 0 zD rfl e2 ?_;refine ym 9 ?_;refine Lo 0 zD rfl e4 ?_;refine ym 9 ?_;refine Lo 0 zD rfl e4 ?_;refine ym 5 ?_
 refine Db (sq [0, 1, 2, 3, 4, 5, 6, 7, 8, 9, 10, 11] .done) ?_;refine vB 3 ?_;refine Vr 0 rfl (zw zD rfl e4) ?_;refine Vb 3 rfl (dt (yY rfl rfl) rfl) ?_;refine Vr 0 rfl (zw zD rfl e2) ?_;refine Vb 0 rfl (dt (Qx rfl rfl) (by omega)) ?_;refine Vb 1 rfl (OD bo4 rfl rfl) ?_;refine Vn 7 ?_;refine Lo 0 yH rfl e6 ?_;refine ym 9 ?_;refine Lo 0 yH rfl e6 ?_;refine ym 9 ?_
 refine Lo 1 wg rfl e5 ?_;refine ym 7 ?_;refine La 0 gt hBa ?_;refine zg ((zr E3 rfl (fun m' hm he => hC m' hm) rfl ?_)) rfl;rintro _ _ ⟨⟨a0, rfl⟩, rfl⟩;refine pe 0 (Ye JK JH JI rfl rfl) ?_;refine ym 9 ?_;refine zg (qV rfl (fun b1 => ?_)) rfl;refine vr 10 ?_
 refine zN (α := Nat) (fun i => [(0, .pointer (some ⟨b, 0, none⟩)), (1, .pointer (some ⟨s, 0, none⟩)), (7, .map (some b1)), (89, .int .i64 (i : Nat))]) (fun _ => []) (fun i => i <= 2) (fun i => 2 - i) 0 ⟨rfl, rfl, rfl, rfl, trivial⟩ (.nil _) (Nat.zero_le _) ?_;intro i hi;by_cases h2 : i < 2
 ·obtain ⟨d, hd1, hd2, hd3⟩ : ∃ d : Sd, fa m s (0 + 7 + i * 8) d.v /\ vH m d /\ dj nk d := by
   match i, h2 with
   | 0, _ => exact ⟨g.a, hSa, ha, oa⟩
   | 1, _ => exact ⟨g.b, hSb, hb, ob⟩
  refine tr 2 ?_;refine xI 20 ?_;refine zg ((zr AA rfl (fun m' hm he => Jo (d := d) (yA hm f0) (hd1.mono hm) h2 (hd2.mono hm) hd3) rfl ?_)) rfl;rintro _ _ ⟨rfl, rfl⟩;refine vr 8 ?_;refine Pa 2 ?_;exact QR (i + 1) (.nil _) h2 (by omega)
 ·refine tr 2 ?_;refine ym 6 ?_;refine zh ?_;refine zf ?_;refine qt 7 ?_;refine Lo 0 zD rfl e2 ?_;refine xI 8 ?_;refine Lo 1 wg rfl e5 ?_;refine NI 5 ?_;exact zB [_] ⟨rfl, trivial⟩ [] (.nil _) ⟨rfl, rfl⟩
theorem Gx (hC : vR m (vg K nk kc F nf fc)) (ha : vH m g.a) (hb : vH m g.b) (hg : qj nk g) :
  CS Tryz.prog 55 [.agg (vg K nk kc F nf fc).toArray, .agg g.v.toArray] m [] (fun v L' => v = zV 0 /\ L' = []) := by
 refine zM [.tmp 4] Tryz.func55 rfl rfl rfl ?_;refine tr 2 ?_;refine Bx 0 rfl fun b1 => ?_;refine Bx 6 rfl fun b2 => ?_;refine zg ((zr T7 rfl (fun m' hm he => MT (fa.blk (he _ (.tail _ (.head _)))) (hC.mono hm) (fa.blk (he _ (.head _))) (ha.mono hm) (hb.mono hm) hg) rfl ?_)) rfl;rintro _ _ ⟨rfl, rfl⟩;refine vr 12 ?_;exact zB [_] ⟨rfl, trivial⟩ [] (.nil _) ⟨rfl, rfl⟩
end
section
variable {m : Mp}
theorem Own.rdI {s : Sl} (h : Go.Eng.Own m 3 1 s.A s.xs.length s.c s.vs) : gu m s := by
 refine ⟨h.rd, h.2.1, fun hA => ?_⟩;rcases h.2.2 with ⟨-, h2⟩ | ⟨g, o, cur, h2, -⟩
 ·exact h2
 ·rw [hA] at h2; cases h2
variable {d : Sd}
theorem aH (h : ∀ e ∈ d.owns, e.inv m) (l1 : d.deck.xs.length <= 60) (l2 : d.hand.xs.length <= 10) (l3 : d.grav.xs.length <= 1000) (l4 : d.told.xs.length <= 1000) : vH m d :=
 ⟨Own.rdI (h d.deck.own (by simp)), Own.rdI (h d.hand.own (by simp)), Own.rdI (h d.grav.own (by simp)), Own.rdI (h d.told.own (by simp)), l1, l2, l3, l4⟩
variable {e : Sd}
theorem Sd.same.sdr {m' : Mp} (hs : d.same e) (he : vH m e) (h : ∀ e ∈ d.owns, e.inv m') : vH m' d := by
 obtain ⟨-, -, -, h1, h2, h3, h4⟩ := hs;exact aH h (by rw [h1]; exact he.l1) (by rw [h2]; exact he.l2) (by rw [h3]; exact he.l3) (by rw [h4]; exact he.l4)
variable {nk : Nat}
theorem Sd.same.ok (hs : d.same e) (he : dj nk e) : dj nk d := by
 obtain ⟨h1, h2, h3, h4, h5, h6, h7⟩ := hs;obtain ⟨i1, i2, i3, i4, i5, i6, i7, i8, i9, i10⟩ := he;exact ⟨by rw [h1]; exact i1, by rw [h1]; exact i2, by rw [h2]; exact i3, by rw [h2]; exact i4, by rw [h3]; exact i5, by rw [h3]; exact i6, by rw [h4]; exact i7, by rw [h5]; exact i8, by rw [h6]; exact i9, by rw [h7]; exact i10⟩
variable {g : Gs}
theorem Gs.same.ok {h : Gs} (hs : g.same h) (ho : qj nk h) : qj nk g := by
 obtain ⟨h1, h2, h3, h4, h5, h6⟩ := hs;exact ⟨by rw [h1]; exact ho.t1, by rw [h1]; exact ho.t2, by rw [h2]; exact ho.mv, by rw [h3]; exact ho.ph, by rw [h4]; exact ho.res, h5.ok ho.a, h6.ok ho.b⟩
variable {b : Nat}
theorem DJ {Q : yd} {e : Exit} {env : Env} {l l' : Lv} {t : TypeId} {L : List ya} (h : l = l') (hq : QS Q e env m (cel b l' t :: L)) : QS Q e env m (cel b l t :: L) := h ▸ hq
variable {F K : Oa} {fc kc nf s : Nat}
theorem ZY (hB : fa m b 0 (vg K nk kc F nf fc)) (hC : vR m (vg K nk kc F nf fc)) (hS : fa m s 0 g.v) (ha : vH m g.a) (hb : vH m g.b) (hg : qj nk g) :
  CS Tryz.prog 100 [.pointer (some ⟨b, 0, none⟩), .pointer (some ⟨s, 0, none⟩)] m [] (fun v L' => ∃ (mb : Nat) (h : Gs), v = .pointer (some ⟨mb, 0, none⟩) /\ h.same g /\ L' = cel mb (.pointer (some ⟨b, 0, none⟩) :: h.v) 212 :: h.owns) := by
 have hSa : At m ⟨s, 0, none⟩ g.v := fun i u hu => by
  rw [Addr.add_lit]; exact hS i u hu
 refine zM [.tmp 4] Tryz.func100 rfl rfl rfl ?_;refine tr 10 ?_;refine zg ((zr T7 rfl (fun m' hm he => MT (hB.mono hm) (hC.mono hm) (hS.mono hm) (ha.mono hm) (hb.mono hm) hg) rfl ?_)) rfl;rintro _ _ ⟨rfl, rfl⟩;refine vr 11 ?_;refine La 0 yn hSa ?_;refine zg ((zr ZT rfl (fun m' hm he => jj (ha.mono hm) (hb.mono hm)) rfl ?_)) rfl;rintro _ _ ⟨h, rfl, hs, rfl⟩
 dsimp only [Gs.v, Sl.v];refine pe 0 (zW Cf C5 rfl rfl) ?_;refine Bx 4 rfl fun b1 => ?_;refine DJ (l' := .pointer (some ⟨b, 0, none⟩) :: h.v) (by kernel_rfl) ?_;exact zB [_] ⟨rfl, trivial⟩ (cel b1 (.pointer (some ⟨b, 0, none⟩) :: h.v) 212 :: h.owns) (.cons .here (.cons .here (.cons .here (.cons .here (.cons .here (.cons .here (.cons .here .pp))))))) ⟨b1, h, rfl, hs, rfl⟩
theorem JM (hB : fa m b 0 (vg K nk kc F nf fc)) (hC : vR m (vg K nk kc F nf fc)) (hS : fa m s 0 g.v) (ha : vH m g.a) (hb : vH m g.b) (hg : qj nk g) :
  CS Tryz.prog 52 [.pointer (some ⟨b, 0, none⟩), .pointer (some ⟨s, 0, none⟩)] m [] (fun v L' => v = .bool true /\ L' = []) := by
 skip
 have hSa : At m ⟨s, 0, none⟩ g.v := fun i u hu => by
  rw [Addr.add_lit]; exact hS i u hu
 have hBa : At m ⟨b, 0, none⟩ (vg K nk kc F nf fc) := fun i u hu => by
  rw [Addr.add_lit]; exact hB i u hu
 have e2 := hS 2 _ rfl;have hp := hg.ph;rw [hp] at e2;refine zM [.tmp 4] Tryz.func52 rfl rfl rfl ?_;refine tr 9 ?_;refine La 0 yn hSa ?_;refine Al 0 qX fun b1 => ?_;refine Sg 8 yn .here ?_;refine Lo 0 zD rfl e2 ?_;refine ym 14 ?_;refine yf (sT [0, 1, 102, 103, 204, 5, 6] .done) mixed (by kernel_rfl) (fun _ _ _ _ hq => hq) ?_;refine vt 2 ?_
 refine Vu 0 rfl (yg gt rfl rfl hBa) ?_;refine Vu 0 rfl (aq yn rfl .here rfl) ?_;refine yo rfl ((zr BR rfl (fun m' hm he => Gx (hC.mono hm) (ha.mono hm) (hb.mono hm) hg) rfl ?_)) rfl;rintro _ _ ⟨rfl, rfl⟩;refine Vt 1 rfl (dt (yY rfl rfl) rfl) ?_;refine Vm 2 ?_;exact zB [_] ⟨rfl, trivial⟩ [] (.nil _) ⟨rfl, rfl⟩
end
section
variable {m : Mp}
variable {v : Value}
theorem Fv : ∀ {l : Lv} {i : Nat} {u : Value}, qZ l i = some u -> Go.Eng.USet l i v (l.set i v)
 | [], i, _, h => by rw [<- vS] at h; cases h
 | _ :: _, 0, _, _ => .here
 | _ :: l, i + 1, u, h => .there (Fv (l := l) (i := i) (u := u) h)
theorem VB {l : Lv} {i j : Nat} (h : i ≠ j) : qZ (l.set i v) j = qZ l j := by
 rw [<- vS, <- vS, List.getElem?_set_ne h]
theorem dw {mb o1 o2 c c2 : Nat} {cs : Lv} {a : Addr} {A2 : Oa} {x : Int} {xs ys : List Int} (hr : Rd m (some a) ((x :: xs).map zV)) (hc : xs.length + 1 <= c) (h1 : qZ cs o1 = some (.slice (some a) (xs.length + 1) c)) (h2 : qZ cs o2 = some (.slice A2 ys.length c2)) (hne : o1 ≠ o2) (hl : ys.length <= 2000) :
  CS Tryz.prog 102 [.pointer (some ⟨mb, o1, none⟩), .pointer (some ⟨mb, o2, none⟩)] m [cel mb cs 212, own 3 1 A2 ys.length c2 (ys.map zV)] (fun v L' => v = zV x /\ ∃ A3 c3, L' = [own 3 1 A3 (ys ++ [x]).length c3 ((ys ++ [x]).map zV), cel mb ((cs.set o1 (.slice (xL (some a) 1 c 1) xs.length (c - 1))).set o2 (.slice A3 (ys ++ [x]).length c3)) 212]) := by
 have hA : (some a : Oa).isSome = true := rfl;have hel : mc m ((sa (some a)).add 0) = some (zV x) := (hr 0 (zV x) rfl).2;refine zM [.tmp 4] Tryz.func102 rfl rfl rfl ?_;refine tr 9 ?_;refine lr 0 (au wg rfl .here h1) ?_;refine pe 0 ((we (i := 0) ac rfl rfl hA (by decide) (by omega))) ?_
 refine Lo 8 yH rfl (show mc m ((sa (some a)).add ((0 : Int).toNat * 1)) = some (zV x) from hel) ?_;refine lr 0 (au wg rfl .here h1) ?_;refine pe 0 ((X1 1 ac rfl rfl rfl (by omega))) ?_;rw [Nat.add_sub_cancel];refine vr 1 ?_;refine zg (yx (i := o1) jP rfl rfl rfl .here (Fv h1) ?_) rfl;refine vr 7 ?_;refine lr 1 (au wg rfl .here (VB hne ▸ h2)) ?_
 refine Bs 0 fO fun b1 => ?_;refine zg (xq fO rfl rfl rfl rfl .here (fun _ _ => .h2) rfl rfl (by first | omega | (simp only [maxLen]; omega)) (by omega) rfl (fun A1 c1 => ?_)) rfl;refine vr 1 ?_;refine zg (yx (i := o2) jP rfl rfl rfl .h1 (Fv (VB hne ▸ h2)) ?_) rfl;refine vr 9 ?_
 exact zB [_] ⟨rfl, trivial⟩ [_, _] (.cons .h2 .p1) ⟨rfl, A1, c1, by rw [List.length_append, List.map_append]; rfl⟩
end
section
structure eP where
 life : Int
 mana : Int
 most : Int
 deck : List Int
 hand : List Int
 grav : List Int
 told : List Int
structure bX where
 turn : Int
 mov : Int
 ph : Int
 res : Int
 a : eP
 b : eP
def Sd.n (d : Sd) : eP := ⟨d.life, d.mana, d.most, d.deck.xs, d.hand.xs, d.grav.xs, d.told.xs⟩
def Gs.n (g : Gs) : bX := ⟨g.turn, g.mov, g.ph, g.res, g.a.n, g.b.n⟩
theorem Sd.same_n {d e : Sd} : d.same e ↔ d.n = e.n := by
 unfold Sd.same Sd.n
 constructor
 ·rintro ⟨h1, h2, h3, h4, h5, h6, h7⟩;rw [h1, h2, h3, h4, h5, h6, h7]
 ·intro h
  injection h with h1 h2 h3 h4 h5 h6 h7
  exact ⟨h1, h2, h3, h4, h5, h6, h7⟩
theorem Gs.same_n {g h : Gs} : g.same h ↔ g.n = h.n := by
 unfold Gs.same Gs.n;rw [Sd.same_n, Sd.same_n]
 constructor
 ·rintro ⟨h1, h2, h3, h4, h5, h6⟩;rw [h1, h2, h3, h4, h5, h6]
 ·intro h
  injection h with h1 h2 h3 h4 h5 h6
  exact ⟨h1, h2, h3, h4, h5, h6⟩
def xR (d : eP) : eP × List Int := match d.deck with
 | [] => ({ d with life := d.life - 1 }, [])
 | x :: xs => if 10 <= d.hand.length then ({ d with deck := xs, grav := d.grav ++ [x], told := d.told ++ [x] }, [x]) else ({ d with deck := xs, hand := d.hand ++ [x], told := d.told ++ [x] }, [])
def eP.tell (d : eP) (l : List Int) : eP := { d with told := d.told ++ l }
def vq (g : bX) (p : Nat) : bX := if p = 0 then { g with a := (xR g.a).1, b := g.b.tell (xR g.a).2 } else { g with b := (xR g.b).1, a := g.a.tell (xR g.b).2 }
end
end Go.Proofs.YtijakengkacnlaaGreatDoor
namespace Go.Eng
open  Go.Eng
section
variable {P : Program} {n : Nat} {env : Env} {m : Mp} {L L1 L2 : List ya} {Q : yd}
theorem wH {c : Code} (hT : fQ L L2 L1) (hk : ∀ m', Le m m' -> HE L1 m' -> TS P n c env m' L2 Q) : TS P n c env m L Q := fun h hs => by
 obtain ⟨m', h1, h2, h3, _⟩ := (HS.takes hT hs).part;exact hk m' h1 h2 h h3
end
end Go.Eng
namespace Go.Proofs.YtijakengkacnlaaGreatDoor
open  Go.Eng
section
variable {m : Mp}
theorem S8 {g : Gs} {nk kc nf fc : Nat} {K F : Oa} (hC : vR m (vg K nk kc F nf fc)) (ha : vH m g.a) (hb : vH m g.b) (hg : qj nk g) :
  CS Tryz.prog 105 [.agg (vg K nk kc F nf fc).toArray, .agg g.v.toArray] m [] (fun v L' => v = xK /\ L' = []) := by
 skip;have hmv := hg.mv;refine zM [.tmp 4] Tryz.func105 rfl rfl rfl ?_;refine tr 2 ?_;refine Bx 0 rfl fun b1 => ?_;refine Bx 5 rfl fun b2 => ?_;refine zg ((zr NX rfl (fun m' hm he => ZY (fa.blk (he _ (.tail _ (.head _)))) (hC.mono hm) (fa.blk (he _ (.head _))) (ha.mono hm) (hb.mono hm) hg) rfl ?_)) rfl;rintro _ _ ⟨mb, s, rfl, hs, rfl⟩;refine vr 7 ?_
 refine pe 14 (jp Mu rfl rfl) ?_;refine Lb 1 yH .h9 ?_;refine Lb 0 yH .h9 ?_;refine pe 0 (ke rfl rfl (qx (by omega) (by omega))) ?_;refine pe 4 (xa Qi D9 rfl rfl) ?_
 refine zN (α := Nat) (fun i => [(5, .pointer (some ⟨mb, 0, none⟩)), (6, xK), (21, .agg #[zV g.mov, .int .i64 (1 - g.mov)]), (22, .int .i64 (i : Nat))]) (fun _ => [cel mb (.pointer (some ⟨b1, 0, none⟩) :: s.v) 212]) (fun i => i <= 2) (fun i => 2 - i) 0 ⟨rfl, rfl, rfl, rfl, trivial⟩ .p0 (by decide) ?_;intro i hi;by_cases h2 : i = 2
 ·subst h2;refine tr 2 ?_;refine ym 6 ?_;refine zh ?_;refine zf ?_;refine qt 8 ?_;exact zB [_] ⟨rfl, trivial⟩ [] (.nil _) ⟨rfl, rfl⟩
 ·have h3 : i < 2 := by omega
  obtain rfl | rfl : i = 0 \/ i = 1 := by omega
  ·rcases hmv with h | h
   ·rw [h];refine tr 2 ?_;refine xI 10 ?_;refine pe 10 ((yF (v := zV 0) Qi rfl rfl rfl (by decide) (by decide) rfl)) ?_;refine pe 1 ((zR (i := 0) vO rfl rfl (by decide))) ?_;refine Lb 5 dV .here ?_
    refine zN (α := Unit) (fun _ => [(5, .pointer (some ⟨mb, 0, none⟩)), (6, xK), (21, .agg #[zV 0, .int .i64 (1 - 0)]), (22, .int .i64 (0 : Nat)), (33, zV 0), (34, zV 0)]) (fun _ => [cel mb (.pointer (some ⟨b1, 0, none⟩) :: s.v) 212]) (fun _ => True) (fun _ => 0) () ⟨rfl, rfl, rfl, rfl, rfl, rfl, trivial⟩ .p0 trivial ?_;intro _ _;refine tr 2 ?_;refine ym 6 ?_;refine zh ?_
    refine zf ?_;refine xr ?_;refine qt 2 ?_;refine Pa 2 ?_;exact QR 1 .p0 (by decide) (by decide)
   ·rw [h];refine tr 2 ?_;refine xI 10 ?_;refine pe 10 ((yF (v := zV 1) Qi rfl rfl rfl (by decide) (by decide) rfl)) ?_;refine pe 1 ((zR (i := 1) vO rfl rfl (by decide))) ?_;refine Lb 5 dV .here ?_
    refine zN (α := Unit) (fun _ => [(5, .pointer (some ⟨mb, 0, none⟩)), (6, xK), (21, .agg #[zV 1, .int .i64 (1 - 1)]), (22, .int .i64 (0 : Nat)), (33, zV 0), (34, zV 0)]) (fun _ => [cel mb (.pointer (some ⟨b1, 0, none⟩) :: s.v) 212]) (fun _ => True) (fun _ => 0) () ⟨rfl, rfl, rfl, rfl, rfl, rfl, trivial⟩ .p0 trivial ?_;intro _ _;refine tr 2 ?_;refine ym 6 ?_;refine zh ?_
    refine zf ?_;refine xr ?_;refine qt 2 ?_;refine Pa 2 ?_;exact QR 1 .p0 (by decide) (by decide)
  ·rcases hmv with h | h
   ·rw [h];refine tr 2 ?_;refine xI 10 ?_;refine pe 10 ((yF (v := .int .i64 (1 - 0)) Qi rfl rfl rfl (by decide) (by decide) rfl)) ?_;refine pe 1 ((zR (i := 1) vO rfl rfl (by decide))) ?_;refine Lb 5 dV .here ?_
    refine zN (α := Unit) (fun _ => [(5, .pointer (some ⟨mb, 0, none⟩)), (6, xK), (21, .agg #[zV 0, .int .i64 (1 - 0)]), (22, .int .i64 (1 : Nat)), (33, zV 0), (34, zV 0)]) (fun _ => [cel mb (.pointer (some ⟨b1, 0, none⟩) :: s.v) 212]) (fun _ => True) (fun _ => 0) () ⟨rfl, rfl, rfl, rfl, rfl, rfl, trivial⟩ .p0 trivial ?_;intro _ _;refine tr 2 ?_;refine ym 6 ?_;refine zh ?_
    refine zf ?_;refine xr ?_;refine qt 2 ?_;refine Pa 2 ?_;exact QR 2 .p0 (by decide) (by decide)
   ·rw [h];refine tr 2 ?_;refine xI 10 ?_;refine pe 10 ((yF (v := .int .i64 (1 - 1)) Qi rfl rfl rfl (by decide) (by decide) rfl)) ?_;refine pe 1 ((zR (i := 0) vO rfl rfl (by decide))) ?_;refine Lb 5 dV .here ?_
    refine zN (α := Unit) (fun _ => [(5, .pointer (some ⟨mb, 0, none⟩)), (6, xK), (21, .agg #[zV 1, .int .i64 (1 - 1)]), (22, .int .i64 (1 : Nat)), (33, zV 0), (34, zV 0)]) (fun _ => [cel mb (.pointer (some ⟨b1, 0, none⟩) :: s.v) 212]) (fun _ => True) (fun _ => 0) () ⟨rfl, rfl, rfl, rfl, rfl, rfl, trivial⟩ .p0 trivial ?_;intro _ _;refine tr 2 ?_;refine ym 6 ?_;refine zh ?_
    refine zf ?_;refine xr ?_;refine qt 2 ?_;refine Pa 2 ?_;exact QR 2 .p0 (by decide) (by decide)
end
section
variable {m : Mp}
abbrev BF (k p x q : Int) : Lv := [.int .i8 k, zV p, zV x, zV 0, zV 0, zV q, xK]
theorem S5 {g : Gs} {r : Int} {nk kc nf fc : Nat} {K F : Oa} (hC : vR m (vg K nk kc F nf fc)) (ha : vH m g.a) (hb : vH m g.b) (hg : qj nk g) (r1 : 1 <= r) (r3 : r <= 3) :
  CS Tryz.prog 110 [.agg (vg K nk kc F nf fc).toArray, .agg g.v.toArray, .int .i8 r] m [] (fun v L' => ∃ (h : Gs) (q : Int), v = .tuple #[.agg h.v.toArray, .agg (BF 15 0 0 q).toArray] /\ h.n = { g.n with ph := 2, res := r } /\ L' = h.owns) := by
 skip;have hph := hg.ph;refine zM [.cell 6 36, .cell 7 127] Tryz.func110 rfl rfl rfl ?_;refine tr 2 ?_;refine Bx 0 rfl fun b1 => ?_;refine Bx 0 rfl fun b2 => ?_;refine Al 0 qX fun b3 => ?_;refine Al 4 uw fun b4 => ?_;refine Lc 0 yn .h2 ?_;refine zg ((zr ZT rfl (fun m' hm he => jj (ha.mono hm) (hb.mono hm)) rfl ?_)) rfl;rintro _ _ ⟨h, rfl, hs, rfl⟩
 refine Al 0 qX fun b5 => ?_;refine Sg 6 yn .here ?_;refine ym 2 ?_;refine ym 3 ?_;refine Lb 0 zD .h11 ?_;refine ym 2 ?_
 refine zg ((zr E1 rfl (fun m' hm he => JM (fa.blk (he _ (.tail _ (.tail _ (.tail _ (.tail _ (.tail _ (.tail _ (.tail _ (.tail _ (.tail _ (.tail _ (.tail _ (.tail _ (.head _))))))))))))))) (hC.mono hm) (fa.blk (he _ (.tail _ (.tail _ (.tail _ (.tail _ (.tail _ (.tail _ (.tail _ (.tail _ (.tail _ (.tail _ (.tail _ (.head _)))))))))))))) (ha.mono hm) (hb.mono hm) hg) rfl ?_)) rfl
 rintro _ _ ⟨rfl, rfl⟩;obtain ⟨st, sm, sp, sr, ⟨l1, ma1, mo1, ⟨Ad, cd, xd⟩, ⟨Ah, ch, xh⟩, ⟨Ag, cg, xg⟩, ⟨At1, ct1, xt1⟩⟩, ⟨l2, ma2, mo2, ⟨Ad2, cd2, xd2⟩, ⟨Ah2, ch2, xh2⟩, ⟨Ag2, cg2, xg2⟩, ⟨At2, ct2, xt2⟩⟩⟩ := h;dsimp only [Gs.v, Sl.v, Gs.owns, Sd.owns, Sl.own, Sl.vs, List.cons_append, List.nil_append];refine vr 11 ?_;refine Sr 1 RX .here .h2 ?_;refine Sr 1 jP .here .h5 ?_
 refine Sr 4 RX .here .h4 ?_;refine Lc 1 yn .here ?_;refine pe 0 (yr dQ Nj rfl (qx (by omega) (by omega))) ?_;refine pe 0 (zW uw bJ rfl rfl) ?_;refine Sg 0 yn .h10 ?_;refine Sg 3 xS .h9 ?_
 refine zB [.agg (Gs.v ⟨st, sm, 2, r, ⟨l1, ma1, mo1, ⟨Ad, cd, xd⟩, ⟨Ah, ch, xh⟩, ⟨Ag, cg, xg⟩, ⟨At1, ct1, xt1⟩⟩, ⟨l2, ma2, mo2, ⟨Ad2, cd2, xd2⟩, ⟨Ah2, ch2, xh2⟩, ⟨Ag2, cg2, xg2⟩, ⟨At2, ct2, xt2⟩⟩⟩).toArray, _] ⟨⟨b3, _, _, _, rfl, .h10, .inr ⟨yn, rfl⟩⟩, ⟨b4, _, _, _, rfl, .h9, .inr ⟨xS, rfl⟩⟩, trivial⟩ _ (.cons .h1 (.cons .h1 (.cons .h1 (.cons .h1 (.cons .h1 (.cons .h1 (.cons .h1 .p1))))))) ⟨⟨st, sm, 2, r, ⟨l1, ma1, mo1, ⟨Ad, cd, xd⟩, ⟨Ah, ch, xh⟩, ⟨Ag, cg, xg⟩, ⟨At1, ct1, xt1⟩⟩, ⟨l2, ma2, mo2, ⟨Ad2, cd2, xd2⟩, ⟨Ah2, ch2, xh2⟩, ⟨Ag2, cg2, xg2⟩, ⟨At2, ct2, xt2⟩⟩⟩, _, rfl, ?_, rfl⟩
 rw [<- Gs.same_n.1 hs]
 rfl
end
section
variable {m : Mp}
theorem Az : z7 Tryz.prog 189 = true := by kernel_rfl
variable {a b : Int}
theorem F9 (hb : 0 < b) (hb2 : b < 1000000000) : (IntKind.wrap .i64 (a.tmod b + b)).tmod b = a % b := by
 have h1 := Int.tmod_lt_of_pos a hb;have h2 := Int.lt_tmod_of_pos a hb;rw [qx (by omega) (by omega), Int.tmod_eq_emod_of_nonneg (by omega), Int.tmod_def, show a - b * a.tdiv b + b = a + b * (1 - a.tdiv b) by rw [Int.mul_sub, Int.mul_one]; omega, Int.add_mul_emod_self_left]
variable {g : Gs}
theorem Bj {b s ab : Nat} (hS : fa m s 0 g.v) (hA : fa m ab 0 (XE g.mov)) (h1 : g.mov = 0 \/ g.mov = 1) (h2 : g.ph = 0) :
  CS Tryz.prog 56 [.pointer (some ⟨b, 0, none⟩), .pointer (some ⟨s, 0, none⟩), .pointer (some ⟨ab, 0, none⟩)] m [] (fun v L' => v = zV 0 /\ L' = []) := by
 skip
 have hSa : At m ⟨s, 0, none⟩ g.v := fun i u hu => by
  rw [Addr.add_lit]; exact hS i u hu
 have e0 := hA 0 _ rfl;have e1 := hA 1 _ rfl;refine zM [.tmp 6] Tryz.func56 rfl rfl rfl ?_;refine tr 13 ?_;refine Lo 0 yH rfl e1 ?_;refine ym 9 ?_;refine Lo 0 yH rfl e1 ?_;refine ym 9 ?_;refine Lo 0 zD rfl e0 ?_;refine ym 9 ?_;refine Lo 0 zD rfl e0 ?_;refine ym 6 ?_;refine zg ((zr AL rfl (fun m' hm he => Sv (hA.mono hm)) rfl ?_)) rfl;rintro _ _ ⟨rfl, rfl⟩
 refine vr 7 ?_;refine Db (sq [0, 1, 2, 3, 4, 5, 6, 7, 8, 9, 10, 11, 12, 113, 14, 15, 16] .done) ?_;refine vB 3 ?_;refine Vr 0 rfl (zw zD rfl e0) ?_;refine Vb 4 rfl (dt (Qx rfl rfl) (by omega)) ?_;refine Vr 2 rfl (zw yH rfl e1) ?_;refine Vr 0 rfl (yg yn rfl rfl hSa) ?_;refine zO rfl ((zr AK rfl (fun m' hm he => Lj h1 h2) rfl ?_)) rfl;rintro _ _ ⟨rfl, rfl⟩
 refine Vb 2 rfl (df (Qx rfl rfl) (by omega)) ?_;refine Vn 2 ?_;refine Db (sq [1, 2, 3, 4, 6, 7, 8, 9, 100, 5, 110, 11, 12] .done) ?_;refine vB 3 ?_;refine Vr 3 rfl (zw zD rfl e0) ?_;refine Vb 0 rfl (zW Cd C3 rfl rfl) ?_;refine zO rfl ((zr AJ rfl (fun m' hm he => OZ) rfl ?_)) rfl;rintro _ _ ⟨rfl, rfl⟩
 refine Vb 0 rfl (yF Fd Dr rfl rfl (by omega) (by omega) rfl) ?_;refine zO rfl ((kR Az rfl rfl (fun m' hm he => PM (l := [.pointer (some ⟨b, 0, none⟩), .pointer (some ⟨s, 0, none⟩), .pointer (some ⟨ab, 0, none⟩)]) rfl rfl) rfl ?_)) rfl;rintro _ _ ⟨rfl, rfl⟩;refine vB 2 ?_;refine Vn 11 ?_;exact zB [_] ⟨rfl, trivial⟩ [] (.nil _) ⟨rfl, rfl⟩
theorem Bh (ha : -1000000000 < a) (ha2 : a < 1000000000) (hb : 0 < b) (hb2 : b < 1000000000) : CS Tryz.prog 50 [zV a, zV b] m [] (fun v L' => v = zV (a % b) /\ L' = []) := by
 refine zM [.tmp 4] Tryz.func50 rfl rfl rfl ?_;refine tr 9 ?_;refine pe 1 (GO rfl rfl (by omega) rfl) ?_;refine pe 1 (yp rfl rfl rfl) ?_;refine pe 4 (GO rfl rfl (by omega) rfl) ?_;rw [F9 hb hb2];exact zB [_] ⟨rfl, trivial⟩ [] (.nil _) ⟨rfl, rfl⟩
theorem zao {nk kc nf fc : Nat} {K F : Oa} (hC : vR m (vg K nk kc F nf fc)) (ha : vH m g.a) (hb : vH m g.b) (hg : qj nk g) :
  CS Tryz.prog 22 [.agg (vg K nk kc F nf fc).toArray, .agg g.v.toArray, .agg (XE g.mov).toArray] m [] (fun v L' => v = zV 0 /\ L' = []) := by
 skip;have hph := hg.ph;refine zM [.tmp 6] Tryz.func22 rfl rfl rfl ?_;refine tr 2 ?_;refine Bx 0 rfl fun b1 => ?_;refine Bx 0 rfl fun b2 => ?_;refine Bx 7 rfl fun b3 => ?_;refine Lc 0 gt .h2 ?_;refine Lc 0 yn .h1 ?_;refine zg ((zr BR rfl (fun m' hm he => Gx (hC.mono hm) (ha.mono hm) (hb.mono hm) hg) rfl ?_)) rfl;rintro _ _ ⟨rfl, rfl⟩;refine ym 7 ?_;refine Lb 0 zD .h1 ?_
 refine ym 9 ?_;refine zg ((zr cl56 rfl (fun m' hm he => Bj (fa.blk (he _ (.tail _ (.head _)))) (fa.blk (he _ (.head _))) hg.mv hg.ph) rfl ?_)) rfl;rintro _ _ ⟨rfl, rfl⟩;refine vr 4 ?_;exact zB [_] ⟨rfl, trivial⟩ [] (.nil _) ⟨rfl, rfl⟩
end
section
variable {m : Mp}
abbrev PK (B : Lv) (g : Gs) (p : Int) (Ae : Oa) (ne ce : Nat) (fu : Int) : Lv := B ++ (g.v ++ (XE p ++ [.slice Ae ne ce, zV fu]))
theorem FA {pb nk kc nf fc ne ce n2 c2 : Nat} {K F Ae A2 : Oa} {g h : Gs} {p fu : Int} {es news : Lv} (hr : Rd m A2 news) (hn : news.length = n2 * 7) (h3 : ∀ u ∈ news, uI u = true) (h1 : ne <= 100000) (h2 : n2 <= 100000) :
  CS Tryz.prog 62 [.pointer (some ⟨pb, 0, none⟩), .agg h.v.toArray, .slice A2 n2 c2, zV 0] m [cel pb (PK (vg K nk kc F nf fc) g p Ae ne ce fu) 86, own 127 7 Ae ne ce es] (fun v L' => v = zV 0 /\ ∃ A' c', L' = [own 127 7 A' (ne + n2) c' (es ++ news), cel pb (PK (vg K nk kc F nf fc) h p A' (ne + n2) c' fu) 86]) := by
 obtain ⟨st, sm, sp, sr, ⟨l1, ma1, mo1, ⟨Ad, cd, xd⟩, ⟨Ah, ch, xh⟩, ⟨Ag, cg, xg⟩, ⟨At1, ct1, xt1⟩⟩, ⟨l2, ma2, mo2, ⟨Ad2, cd2, xd2⟩, ⟨Ah2, ch2, xh2⟩, ⟨Ag2, cg2, xg2⟩, ⟨At2, ct2, xt2⟩⟩⟩ := g;dsimp only [PK, Gs.v, Sl.v, List.cons_append, List.nil_append];skip;refine zM [.tmp 8] Tryz.func62 rfl rfl rfl ?_;refine tr 2 ?_;refine Bx 7 rfl fun b1 => ?_;refine NI 3 ?_
 refine yf (sT [0, 1, 3, 4, 5, 7, 106] (.fork (sT [202, 308, 9, 10, 311, 12, 13, 314] .done) (sT [308, 102, 9, 10, 311, 12, 13, 314] .done))) mixed (by kernel_rfl) (fun _ _ _ _ hq => hq) ?_;refine vt 6 ?_;refine Vl 0 rfl Pb .h1 ?_;refine Ok ?_ ?_;refine HM rfl (aq yn rfl .here rfl) rfl rfl rfl ?_
 ·first | refine z8 rfl rfl (up (A := Ae) (k := ne) (c := ce) (A2 := A2) (j := n2) (c2 := c2) (news := news) VQ rfl rfl rfl rfl (fun _ _ => .h2) (fun h hs => hr.mono hs.base) hn h3 (by simp only [maxLen]; omega) (by omega) rfl (fun A' c' => ?_)) rfl | refine yo rfl (up (A := Ae) (k := ne) (c := ce) (A2 := A2) (j := n2) (c2 := c2) (news := news) VQ rfl rfl rfl rfl (fun _ _ => .h2) (fun h hs => hr.mono hs.base) hn h3 (by simp only [maxLen]; omega) (by omega) rfl (fun A' c' => ?_)) rfl
  refine vt 2 ?_;refine z8 rfl rfl (jG yn rfl rfl rfl .h1 (.there (.there (.cons (.cons (.cons (.cons (.cons (.cons (.cons (.cons (.cons (.cons (.cons (.cons (.cons (.cons (.cons (.cons (.cons (.cons (.cons (.cons (.cons (.cons (.cons .nil))))))))))))))))))))))))) rfl ?_) rfl;refine vt 2 ?_
  refine z8 rfl rfl (yx BK rfl rfl rfl .h1 (.there (.there (.there (.there (.there (.there (.there (.there (.there (.there (.there (.there (.there (.there (.there .h16))))))))))))))) ?_) rfl;refine Vm 8 ?_;exact zB [_] ⟨rfl, trivial⟩ [_, _] (.cons .h2 .p1) ⟨rfl, A', c', rfl⟩
 ·first | refine z8 rfl rfl (up (A := Ae) (k := ne) (c := ce) (A2 := A2) (j := n2) (c2 := c2) (news := news) VQ rfl rfl rfl rfl (fun _ _ => .h2) (fun h hs => hr.mono hs.base) hn h3 (by simp only [maxLen]; omega) (by omega) rfl (fun A' c' => ?_)) rfl | refine yo rfl (up (A := Ae) (k := ne) (c := ce) (A2 := A2) (j := n2) (c2 := c2) (news := news) VQ rfl rfl rfl rfl (fun _ _ => .h2) (fun h hs => hr.mono hs.base) hn h3 (by simp only [maxLen]; omega) (by omega) rfl (fun A' c' => ?_)) rfl
  refine Vu 2 rfl (aq yn rfl .here rfl) ?_;refine z8 rfl rfl (jG yn rfl rfl rfl .h1 (.there (.there (.cons (.cons (.cons (.cons (.cons (.cons (.cons (.cons (.cons (.cons (.cons (.cons (.cons (.cons (.cons (.cons (.cons (.cons (.cons (.cons (.cons (.cons (.cons .nil))))))))))))))))))))))))) rfl ?_) rfl;refine vt 2 ?_
  refine z8 rfl rfl (yx BK rfl rfl rfl .h1 (.there (.there (.there (.there (.there (.there (.there (.there (.there (.there (.there (.there (.there (.there (.there .h16))))))))))))))) ?_) rfl;refine Vm 8 ?_;exact zB [_] ⟨rfl, trivial⟩ [_, _] (.cons .h2 .p1) ⟨rfl, A', c', rfl⟩
end
section
variable {m : Mp}
abbrev d5 (a b : Int) : Int := if a <= 0 then (if b <= 0 then 3 else 2) else if b <= 0 then 1 else 0
def KE (g : bX) : bX := if d5 g.a.life g.b.life = 0 then g else { g with ph := 2, res := d5 g.a.life g.b.life }
theorem IX {s : Gs} {r : Int} (h : d5 s.a.life s.b.life = r) (hr : ¬ r = 0) : KE s.n = { s.n with ph := 2, res := r } := by
 subst h;exact if_neg hr
theorem Q4 (a b : Int) : 0 <= d5 a b /\ d5 a b <= 3 := by
 unfold d5
 constructor <;> (repeat' split) <;> decide
theorem DG {g : Gs} {nk kc nf fc : Nat} {K F : Oa} (hC : vR m (vg K nk kc F nf fc)) (ha : vH m g.a) (hb : vH m g.b) (hg : qj nk g) :
  CS Tryz.prog 54 [.agg (vg K nk kc F nf fc).toArray, .agg g.v.toArray, xK, zV 1000] m [] (fun v L' => ∃ (h : Gs) (A : Oa) (n c : Nat) (es : Lv), v = .tuple #[.agg h.v.toArray, .slice A n c, zV 1000, zV 0] /\ h.n = KE g.n /\ es.length = n * 7 /\ (∀ u ∈ es, uI u = true) /\ n <= 1 /\ L' = own 127 7 A n c es :: h.owns) := by
 skip;have hph := hg.ph;refine zM [.cell 8 36, .tmp 9, .tmp 10, .tmp 11] Tryz.func54 rfl rfl rfl ?_;refine tr 2 ?_;refine Bx 0 rfl fun b1 => ?_;refine Bx 0 rfl fun b2 => ?_;refine Bx 0 rfl fun b3 => ?_;refine Al 5 qX fun b4 => ?_;refine Qt ?_;refine tr 2 ?_;refine Lb 0 yH .h1 ?_;refine pe 0 (Kg rfl rfl) ?_;refine pe 0 (dH rfl rfl) ?_;refine Sr 7 Yw .h1 .here ?_;refine ym 1 ?_
 refine zg ((zr E1 rfl (fun m' hm he => JM (fa.blk (he _ (.tail _ (.tail _ (.tail _ (.head _)))))) (hC.mono hm) (fa.blk (he _ (.tail _ (.tail _ (.head _))))) (ha.mono hm) (hb.mono hm) hg) rfl ?_)) rfl;rintro _ _ ⟨rfl, rfl⟩;refine vr 16 ?_
 refine zN (α := Unit) (fun _ => [(0, .agg (vg K nk kc F nf fc).toArray), (2, xK), (4, .pointer (some ⟨b1, 0, none⟩)), (5, .pointer (some ⟨b2, 0, none⟩)), (7, .pointer (some ⟨b3, 0, none⟩)), (8, .pointer (some ⟨b4, 0, none⟩)), (45, zV 0), (46, zV 0)]) (fun _ => [cel b4 z36 36, cel b3 [zV 1000] 3, cel b2 g.v 36, cel b1 (vg K nk kc F nf fc) 25]) (fun _ => True) (fun _ => 0) () ⟨rfl, rfl, rfl, rfl, rfl, rfl, rfl, rfl, trivial⟩ (zJ.refl _) trivial ?_
 intro _ _;refine tr 2 ?_;refine ym 6 ?_;refine zh ?_;refine zf ?_;refine qt 3 ?_;refine Lc 0 yn .h2 ?_;refine zg ((zr ZT rfl (fun m' hm he => jj (ha.mono hm) (hb.mono hm)) rfl ?_)) rfl;rintro _ _ ⟨s, rfl, hs, rfl⟩;have hsp : s.ph = 0 := hs.2.2.1.trans hph;have hso : qj nk s := hs.ok hg;refine Sg 4 yn .h10 ?_;refine Al 6 zl37 fun b5 => ?_
 refine Lb 0 zD .h11 ?_;refine ym 7 ?_;refine pe 0 (zW Ce C4 rfl rfl) ?_;refine Bx 7 rfl fun b6 => ?_;refine zg ((fH AR rfl .k0 (fun m' hm he => FV) rfl ?_)) rfl;rintro _ _ ⟨A, c, rfl⟩;refine vr 14 ?_;refine Qu ?_;refine qt 3 ?_;refine wH (.cons .h2 (.cons .h2 (.cons .h2 (.cons .h2 (.cons .h2 (.cons .h2 (.cons .h2 (.cons .h2 .k2)))))))) (fun m' hm he => ?_)
 refine uY 127 7 ?_;have hQ : mc m' ⟨b6, 0, none⟩ = some (.slice A 0 c) := zy (he _ (.head _)) rfl;have h5 : mc m' ⟨b5, 0, none⟩ = some xK := zy (he _ (.tail _ (.head _))) rfl;have h3 : mc m' ⟨b3, 0, none⟩ = some (zV 1000) := zy (he _ (.tail _ (.tail _ (.head _)))) rfl;have h2 : At m' ⟨b2, 0, none⟩ s.v := At.blk (he _ (.tail _ (.tail _ (.tail _ (.head _)))))
 have hS : fa m' b2 0 s.v := fa.blk (he _ (.tail _ (.tail _ (.tail _ (.head _)))));have h1 : At m' ⟨b1, 0, none⟩ (vg K nk kc F nf fc) := At.blk (he _ (.tail _ (.tail _ (.tail _ (.tail _ (.head _))))))
 refine zN (α := Unit) (fun _ => [(4, .pointer (some ⟨b1, 0, none⟩)), (5, .pointer (some ⟨b2, 0, none⟩)), (7, .pointer (some ⟨b3, 0, none⟩)), (8, .pointer (some ⟨b4, 0, none⟩)), (14, .pointer (some ⟨b5, 0, none⟩)), (15, .pointer (some ⟨b6, 0, none⟩))]) (fun _ => own 127 7 none 0 0 [] :: (s.owns ++ [cel b4 z36 36])) (fun _ => True) (fun _ => 0) () ⟨rfl, rfl, rfl, rfl, rfl, rfl, trivial⟩ (zJ.refl _) trivial ?_
 intro _ _;refine tr 4 ?_;refine La 0 gt h1 ?_;refine La 0 yn h2 ?_;have sa : ∀ m2, (∀ x ∈ s.a.owns, x.inv m2) -> vH m2 s.a := fun m2 h => hs.2.2.2.2.1.sdr ha h;have sb : ∀ m2, (∀ x ∈ s.b.owns, x.inv m2) -> vH m2 s.b := fun m2 h => hs.2.2.2.2.2.sdr hb h
 refine zg ((zr AQ rfl (fun m2 hm2 he2 => S8 (hC.mono (hm.trans hm2)) (sa m2 fun x hx => he2 x (.tail _ (List.mem_append_left [_] (List.mem_append_right s.b.owns hx)))) (sb m2 fun x hx => he2 x (.tail _ (List.mem_append_left [_] (List.mem_append_left s.a.owns hx)))) hso) rfl ?_)) rfl;rintro _ _ ⟨rfl, rfl⟩;refine vr 4 ?_
 refine zN (α := Unit) (fun _ => [(4, .pointer (some ⟨b1, 0, none⟩)), (5, .pointer (some ⟨b2, 0, none⟩)), (7, .pointer (some ⟨b3, 0, none⟩)), (8, .pointer (some ⟨b4, 0, none⟩)), (14, .pointer (some ⟨b5, 0, none⟩)), (15, .pointer (some ⟨b6, 0, none⟩)), (18, xK)]) (fun _ => own 127 7 none 0 0 [] :: (s.owns ++ [cel b4 z36 36])) (fun _ => True) (fun _ => 0) () ⟨rfl, rfl, rfl, rfl, rfl, rfl, rfl, trivial⟩ (zJ.refl _) trivial ?_
 intro _ _;refine tr 5 ?_;refine ym 5 ?_;refine zh ?_;refine zf ?_;refine qt 4 ?_;refine zg ((zr AP rfl (fun m2 hm2 he2 => IW (hS.mono hm2)) rfl ?_)) rfl;rintro _ _ ⟨rfl, rfl⟩;by_cases hr : d5 s.a.life s.b.life = 0
 ·rw [show (if s.a.life <= 0 then if s.b.life <= 0 then (3 : Int) else 2 else if s.b.life <= 0 then 1 else 0) = 0 from hr];refine vr 6 ?_;refine ym 8 ?_;refine zg ((zr AN rfl (fun m2 hm2 he2 => O2 (yA hm2 hQ)) rfl ?_)) rfl;rintro _ _ ⟨rfl, rfl⟩;refine vr 3 ?_;refine Al 0 Th fun b7 => ?_;refine Sg 12 Of .here ?_;refine Db (sq [0, 1, 2, 103, 4, 5, 6] .done) ?_
  refine Vr 0 rfl (yg yn rfl rfl h2) ?_;refine Vr 0 rfl (zw Pb rfl h5) ?_;refine Vr 0 rfl (zw yH rfl h3) ?_;refine zO rfl (yh yn rfl rfl rfl .h10 rfl rfl ?_) rfl;refine vB 3 ?_;refine Vn 4 ?_;refine zC ?_;refine zz ?_;refine zU ?_;refine qO ?_
  exact wJ hm [_, _, _, _] ⟨⟨b4, _, _, _, rfl, .h10, .inr ⟨yn, rfl⟩⟩, rfl, rfl, rfl, trivial⟩ (own 127 7 none 0 0 [] :: s.owns) (.cons .h1 (.cons .h1 (.cons .h1 (.cons .h1 (.cons .h1 (.cons .h1 (.cons .h1 (.cons .h1 .p1)))))))) ⟨s, none, 0, 0, [], rfl, by rw [<- Gs.same_n.1 hs]; exact (if_pos hr).symm, rfl, (fun u hu => by cases hu), by decide, rfl⟩
 ·have hrg := Q4 s.a.life s.b.life;generalize hrr : (if s.a.life <= 0 then if s.b.life <= 0 then (3 : Int) else 2 else if s.b.life <= 0 then 1 else 0) = r;have hr0 : d5 s.a.life s.b.life = r := hrr;rw [hr0] at hr hrg;have hr1 : 1 <= r := by omega
  have hr3 : r <= 3 := hrg.2;refine vr 6 ?_;refine yy 6 ?_;refine zh ?_;refine zf ?_;refine qt 3 ?_;refine La 0 gt h1 ?_;refine La 1 yn h2 ?_
  refine zg ((zr AM rfl (fun m2 hm2 he2 => S5 (hC.mono (hm.trans hm2)) (sa m2 fun x hx => he2 x (.tail _ (List.mem_append_left [_] (List.mem_append_right s.b.owns hx)))) (sb m2 fun x hx => he2 x (.tail _ (List.mem_append_left [_] (List.mem_append_left s.a.owns hx)))) hso hr1 hr3) rfl ?_)) rfl;rintro _ _ ⟨h, q, rfl, hh, rfl⟩;refine vr 3 ?_;refine Al 0 qX fun b7 => ?_
  refine Al 0 uw fun b8 => ?_;refine Sg 0 yn .h1 ?_;refine Sg 3 xS .here ?_;refine wH (L2 := own 127 7 none 0 0 [] :: (h.owns ++ [cel b4 z36 36])) (.cons .h10 (.cons .h2 (.cons .h2 (.cons .h2 (.cons .h2 (.cons .h2 (.cons .h2 (.cons .h2 (.cons .h2 .k10))))))))) (fun m3 hm3 he3 => ?_);have k8 : At m3 ⟨b8, 0, none⟩ (BF 15 0 0 q) := At.blk (he3 _ (.head _))
  have k7 : At m3 ⟨b7, 0, none⟩ h.v := At.blk (he3 _ (.tail _ (.head _)));have k5 := yA hm3 h5;have k3 := yA hm3 h3;refine Db (sq [0, 1, 2, 5, 103, 104, 106, 7, 8, 9] .done) ?_;refine Vr 0 rfl (yg yn rfl rfl k7) ?_;refine Vr 0 rfl (zw Pb rfl k5) ?_;refine Vr 0 rfl (yg xS rfl rfl k8) ?_;refine Vr 0 rfl (zw yH rfl k3) ?_
  refine zO rfl (wb VQ rfl rfl rfl rfl (fun b9 => ?_)) rfl;refine zO rfl (xq VQ rfl rfl rfl rfl .here (fun _ _ => .h1) rfl rfl (by first | omega | (simp only [maxLen]; omega)) (by omega) rfl (fun A1 c1 => ?_)) rfl;refine zO rfl (yh yn rfl rfl rfl .h10 rfl rfl ?_) rfl;refine vB 3 ?_;refine Vn 2 ?_;refine qO ?_
  exact wJ (hm.trans hm3) [_, _, _, _] ⟨⟨b4, _, _, _, rfl, .h10, .inr ⟨yn, rfl⟩⟩, rfl, rfl, rfl, trivial⟩ (own 127 7 A1 1 c1 (BF 15 0 0 q) :: h.owns) (.cons .h1 (.cons .h1 (.cons .h1 (.cons .h1 (.cons .h1 (.cons .h1 (.cons .h1 (.cons .h1 .p1)))))))) ⟨h, A1, 1, c1, BF 15 0 0 q, rfl, by rw [hh, Gs.same_n.1 hs, <- Gs.same_n.1 hs]; exact (IX hr0 hr).symm, rfl, (fun u hu => List.all_eq_true.1 (show (BF 15 0 0 q).all uI = true from rfl) u hu), by decide, rfl⟩
end
section
structure Vd (nk G T : Nat) (d : eP) : Prop where
 life1 : -1000000 <= d.life
 life2 : d.life <= 1000000
 mana0 : 0 <= d.mana
 mana2 : d.mana <= 1000000
 most0 : 0 <= d.most
 most2 : d.most <= 10
 deck : ∀ x ∈ d.deck, 0 <= x /\ x < (nk : Nat)
 hand : ∀ x ∈ d.hand, 0 <= x /\ x < (nk : Nat)
 grav : ∀ x ∈ d.grav, 0 <= x /\ x < (nk : Nat)
 told : ∀ x ∈ d.told, 0 <= x /\ x < (nk : Nat)
 l1 : d.deck.length <= 60
 l2 : d.hand.length <= 10
 l3 : d.grav.length <= G
 l4 : d.told.length <= T
variable {nk G T : Nat}
theorem dj.p {d : Sd} (h : dj nk d) (l1 : d.deck.xs.length <= 60) (l2 : d.hand.xs.length <= 10) (l3 : d.grav.xs.length <= G) (l4 : d.told.xs.length <= T) : Vd nk G T d.n :=
 ⟨h.life1, h.life2, h.mana0, h.mana2, h.most0, h.most2, h.deck, h.hand, h.grav, h.told, l1, l2, l3, l4⟩
theorem Vd.ok {d : Sd} (h : Vd nk G T d.n) : dj nk d := ⟨h.life1, h.life2, h.mana0, h.mana2, h.most0, h.most2, h.deck, h.hand, h.grav, h.told⟩
variable {l : List Int}
theorem ak {x : Int} {p : Int -> Prop} (h : ∀ y ∈ l, p y) (hx : p x) : ∀ y ∈ l ++ [x], p y := by
 intro y hy;rcases List.mem_append.1 hy with h1 | h1
 ·exact h y h1
 ·rw [List.mem_singleton.1 h1]; exact hx
def eP.ready (d : eP) : eP := { d with most := min (d.most + 1) 10, mana := min (d.most + 1) 10 }
def vn (g : bX) : bX := if g.mov = 0 then { g with a := g.a.ready } else { g with b := g.b.ready }
def qy (g : bX) : bX := KE (vq (vn g) g.mov.toNat)
variable {d : eP}
theorem Vd.rdy (h : Vd nk G T d) : Vd nk G T d.ready := by
 have := h.most0;have := h.most2;exact ⟨h.life1, h.life2, by simp only [eP.ready]; omega, by simp only [eP.ready]; omega, by simp only [eP.ready]; omega, by simp only [eP.ready]; omega, h.deck, h.hand, h.grav, h.told, h.l1, h.l2, h.l3, h.l4⟩
theorem Vd.draw (h : Vd nk G T d) (hl : 1 <= d.life) : Vd nk (G + 1) (T + 1) (xR d).1 /\ (∀ x ∈ (xR d).2, 0 <= x /\ x < (nk : Nat)) /\ (xR d).2.length <= 1 := by
 obtain ⟨li, ma, mo, deck, hand, grav, told⟩ := d;obtain ⟨a1, a2, a3, a4, a5, a6, a7, a8, a9, a10, b1, b2, b3, b4⟩ := h;dsimp only at *;cases deck with
 | nil => exact ⟨⟨by simp only [xR]; omega, by simp only [xR]; omega, a3, a4, a5, a6, a7, a8, a9, a10, b1, b2, by simp only [xR]; omega, by simp only [xR]; omega⟩, (fun x hx => by cases hx), Nat.zero_le _⟩
 | cons x xs =>
   have hx := a7 x (by simp);have hxs : ∀ y ∈ xs, 0 <= y /\ y < (nk : Nat) := fun y hy => a7 y (.tail _ hy);rw [List.length_cons] at b1;unfold xR;dsimp only
   split
   ·exact ⟨⟨a1, a2, a3, a4, a5, a6, hxs, a8, ak a9 hx, ak a10 hx, by dsimp only; omega, b2, by simp; omega, by simp; omega⟩, (fun y hy => by rw [List.mem_singleton.1 hy]; exact hx), Nat.le_refl _⟩
   ·exact ⟨⟨a1, a2, a3, a4, a5, a6, hxs, ak a8 hx, a9, ak a10 hx, by dsimp only; omega, by simp; omega, by dsimp only; omega, by simp; omega⟩, (fun x hx => by cases hx), Nat.zero_le _⟩
theorem Vd.tell (h : Vd nk G T d) (hl : ∀ x ∈ l, 0 <= x /\ x < (nk : Nat)) (h1 : l.length <= 1) : Vd nk (G + 1) (T + 1) (d.tell l) :=
 ⟨h.life1, h.life2, h.mana0, h.mana2, h.most0, h.most2, h.deck, h.hand, h.grav, fun x hx => (List.mem_append.1 hx).elim (h.told x) (hl x), h.l1, h.l2, Nat.le_succ_of_le h.l3, by simp only [eP.tell, List.length_append]; have := h.l4; omega⟩
structure GT (nk G T : Nat) (g : bX) : Prop where
 t1 : 1 <= g.turn
 t2 : g.turn <= 4096
 mv : g.mov = 0 \/ g.mov = 1
 ph : g.ph = 0
 res : g.res = 0
 a : Vd nk G T g.a
 b : Vd nk G T g.b
variable {g : Gs}
theorem GT.ok (h : GT nk G T g.n) : qj nk g := ⟨h.t1, h.t2, h.mv, h.ph, h.res, h.a.ok, h.b.ok⟩
theorem qj.p (h : qj nk g) {m : Go.Eng.Mp} (ha : vH m g.a) (hb : vH m g.b) (ht : g.a.told.xs.length <= T /\ g.b.told.xs.length <= T) (hr : g.a.grav.xs.length <= G /\ g.b.grav.xs.length <= G) : GT nk G T g.n :=
 ⟨h.t1, h.t2, h.mv, h.ph, h.res, h.a.p ha.l1 ha.l2 hr.1 ht.1, h.b.p hb.l1 hb.l2 hr.2 ht.2⟩
theorem GT.rdy {g : bX} (h : GT nk G T g) : GT nk G T (vn g) := by
 unfold vn
 split
 ·exact ⟨h.t1, h.t2, h.mv, h.ph, h.res, h.a.rdy, h.b⟩
 ·exact ⟨h.t1, h.t2, h.mv, h.ph, h.res, h.a, h.b.rdy⟩
theorem GT.draw {g : bX} {p : Nat} (h : GT nk G T g) (hl : 1 <= g.a.life /\ 1 <= g.b.life) : GT nk (G + 1) (T + 1) (vq g p) := by
 unfold vq
 split
 ·obtain ⟨h1, h2, h3⟩ := h.a.draw hl.1;exact ⟨h.t1, h.t2, h.mv, h.ph, h.res, h1, h.b.tell h2 h3⟩
 ·obtain ⟨h1, h2, h3⟩ := h.b.draw hl.2;exact ⟨h.t1, h.t2, h.mv, h.ph, h.res, h.a.tell h2 h3, h1⟩
end
section
variable {m : Mp}
theorem ND {g : Gs} {nk kc nf fc : Nat} {K F : Oa} (hC : vR m (vg K nk kc F nf fc)) (ha : vH m g.a) (hb : vH m g.b) (hg : qj nk g) (hl : -1000000 < g.a.life) (ht1 : g.a.told.xs.length <= 900) (ht2 : g.b.told.xs.length <= 900) (hgr : g.a.grav.xs.length <= 900) :
  CS Tryz.prog 53 [.agg (vg K nk kc F nf fc).toArray, .agg g.v.toArray, .int .i64 (0 : Nat)] m [] (fun v L' => ∃ (h : Gs) (ev : Lv), ev.length = 7 /\ ev.all uI = true /\ v = .tuple #[.agg h.v.toArray, .agg ev.toArray, zV 0] /\ h.n = vq g.n 0 /\ L' = h.owns) := by
 skip;refine zM [.cell 6 36, .cell 7 127, .tmp 8] Tryz.func53 rfl rfl rfl ?_;refine tr 2 ?_;refine Bx 0 rfl fun b1 => ?_;refine Bx 0 rfl fun b2 => ?_;refine Al 0 qX fun b3 => ?_;refine Al 5 uw fun b4 => ?_
 refine zg ((zr NX rfl (fun m' hm he => ZY (fa.blk (he _ (.tail _ (.tail _ (.tail _ (.head _)))))) (hC.mono hm) (fa.blk (he _ (.tail _ (.tail _ (.head _))))) (ha.mono hm) (hb.mono hm) hg) rfl ?_)) rfl;rintro _ _ ⟨mb, s, rfl, hs, rfl⟩;refine vr 8 ?_;refine pe 7 (jp Mu rfl rfl) ?_;refine ym 2 ?_;refine ym 15 ?_
 refine pe 0 ((zR (i := 0) vO rfl rfl (by decide))) ?_;obtain ⟨st, sm, sp, sr, ⟨l1, ma1, mo1, ⟨Ad, cd, xd⟩, ⟨Ah, ch, xh⟩, ⟨Ag, cg, xg⟩, ⟨At1, ct1, xt1⟩⟩, ⟨l2, ma2, mo2, ⟨Ad2, cd2, xd2⟩, ⟨Ah2, ch2, xh2⟩, ⟨Ag2, cg2, xg2⟩, ⟨At2, ct2, xt2⟩⟩⟩ := s;dsimp only [Gs.v, Sl.v, Gs.owns, Sd.owns, Sl.own, Sl.vs, List.cons_append, List.nil_append]
 obtain ⟨hs1, hs2, hs3, hs4, ⟨q1, q2, q3, q4, q5, q6, q7⟩, ⟨r1, r2, r3, r4, r5, r6, r7⟩⟩ := hs;dsimp only at hs1 hs2 hs3 hs4 q1 q2 q3 q4 q5 q6 q7 r1 r2 r3 r4 r5 r6 r7;have hlo : -1000000 < l1 := by rw [q1]; exact hl
 have hhi : l1 <= 1000000 := by rw [q1]; exact hg.a.life2
 have e1 : xd.length <= 60 := by rw [q4]; exact ha.l1
 have e2 : xh.length <= 10 := by rw [q5]; exact ha.l2
 have e3 : xg.length <= 1000 := by rw [q6]; exact ha.l3
 have e4 : xt1.length <= 1000 := by rw [q7]; exact ha.l4
 have e6 : xt1.length <= 900 := by rw [q7]; exact ht1
 have e7 : xt2.length <= 900 := by rw [r7]; exact ht2
 have e8 : xg.length <= 900 := by rw [q6]; exact hgr
 have e5 : xt2.length <= 1000 := by rw [r7]; exact hb.l4
 cases xd with
 | nil =>
   refine vr 6 ?_;refine pe 0 (zW uw bJ rfl rfl) ?_;refine Al 0 uw fun b5 => ?_;refine Sg 9 xS .here ?_;refine Lb 1 wg .h1 ?_;refine NI 7 ?_;refine Sr 7 Yw .here .h2 ?_;refine Lb 0 yH .h1 ?_;refine pe 2 (ke rfl rfl (qx (by omega) (by omega))) ?_;refine Sr 7 Yw .h1 .h8 ?_;refine Lb 0 yH .h1 ?_
   refine zg ((zr Gw rfl (fun m' hm he => fd (by omega) (by omega)) rfl ?_)) rfl;rintro _ _ ⟨rfl, rfl⟩;refine vr 8 ?_;refine wH (.cons .h10 .k10) (fun m' hm he => ?_)
   have hM : At m' ⟨mb, 0 + 1, none⟩ (Gs.v ⟨st, sm, sp, sr, ⟨l1 - 1, ma1, mo1, ⟨Ad, cd, []⟩, ⟨Ah, ch, xh⟩, ⟨Ag, cg, xg⟩, ⟨At1, ct1, xt1⟩⟩, ⟨l2, ma2, mo2, ⟨Ad2, cd2, xd2⟩, ⟨Ah2, ch2, xh2⟩, ⟨Ag2, cg2, xg2⟩, ⟨At2, ct2, xt2⟩⟩⟩) := by
    have := (At.blk (he _ (.tail _ (.head _)))).sub 1 23;rwa [Addr.add_lit] at this
   have hE := At.blk (he _ (.head _))
   have hd2 : vH m' ⟨l1 - 1, ma1, mo1, ⟨Ad, cd, []⟩, ⟨Ah, ch, xh⟩, ⟨Ag, cg, xg⟩, ⟨At1, ct1, xt1⟩⟩ := ⟨Own.rdI (s := ⟨Ad, cd, []⟩) (he (own 3 1 Ad ([] : List Int).length cd (([] : List Int).map zV)) (by simp)), Own.rdI (s := ⟨Ah, ch, xh⟩) (he (own 3 1 Ah (xh : List Int).length ch ((xh : List Int).map zV)) (by simp)), Own.rdI (s := ⟨Ag, cg, xg⟩) (he (own 3 1 Ag (xg : List Int).length cg ((xg : List Int).map zV)) (by simp)), Own.rdI (s := ⟨At1, ct1, xt1⟩) (he (own 3 1 At1 (xt1 : List Int).length ct1 ((xt1 : List Int).map zV)) (by simp)), Nat.zero_le _, e2, e3, e4⟩
   have hd3 : vH m' ⟨l2, ma2, mo2, ⟨Ad2, cd2, xd2⟩, ⟨Ah2, ch2, xh2⟩, ⟨Ag2, cg2, xg2⟩, ⟨At2, ct2, xt2⟩⟩ := ⟨Own.rdI (s := ⟨Ad2, cd2, xd2⟩) (he (own 3 1 Ad2 (xd2 : List Int).length cd2 ((xd2 : List Int).map zV)) (by simp)), Own.rdI (s := ⟨Ah2, ch2, xh2⟩) (he (own 3 1 Ah2 (xh2 : List Int).length ch2 ((xh2 : List Int).map zV)) (by simp)), Own.rdI (s := ⟨Ag2, cg2, xg2⟩) (he (own 3 1 Ag2 (xg2 : List Int).length cg2 ((xg2 : List Int).map zV)) (by simp)), Own.rdI (s := ⟨At2, ct2, xt2⟩) (he (own 3 1 At2 (xt2 : List Int).length ct2 ((xt2 : List Int).map zV)) (by simp)), by rw [r4]; exact hb.l1, by rw [r5]; exact hb.l2, by rw [r6]; exact hb.l3, e5⟩
   skip;refine Db (sq [0, 1, 2, 3, 5, 104, 106, 107, 8] .done) ?_;refine vB 3 ?_;refine Vr 0 rfl (yg yn rfl rfl hM) ?_;refine Vr 0 rfl (yg xS rfl rfl hE) ?_
   refine zO rfl ((zr ZT rfl (fun m2 hm2 he2 => jj (g := ⟨st, sm, sp, sr, ⟨l1 - 1, ma1, mo1, ⟨Ad, cd, []⟩, ⟨Ah, ch, xh⟩, ⟨Ag, cg, xg⟩, ⟨At1, ct1, xt1⟩⟩, ⟨l2, ma2, mo2, ⟨Ad2, cd2, xd2⟩, ⟨Ah2, ch2, xh2⟩, ⟨Ag2, cg2, xg2⟩, ⟨At2, ct2, xt2⟩⟩⟩) (hd2.mono hm2) (hd3.mono hm2)) rfl ?_)) rfl;rintro _ _ ⟨h, rfl, hh, rfl⟩;refine zO rfl (yh yn rfl rfl rfl .h9 rfl rfl ?_) rfl
   refine zO rfl (yh xS rfl rfl rfl .h8 rfl rfl ?_) rfl;refine vB 1 ?_;refine Vn 2 ?_
   exact wJ hm [_, _, _] ⟨⟨b3, _, _, _, rfl, .h9, .inr ⟨yn, rfl⟩⟩, ⟨b4, _, _, _, rfl, .h8, .inr ⟨xS, rfl⟩⟩, rfl, trivial⟩ _ (.cons .here (.cons .here (.cons .here (.cons .here (.cons .here (.cons .here .pp)))))) ⟨h, _, rfl, rfl, rfl, by
    rw [Gs.same_n.1 hh]
    simp [Gs.n, Sd.n, vq, xR, eP.tell, hs1, hs2, hs3, hs4, q1, q2, q3, q4.symm, q5, q6, q7, r1, r2, r3, r4, r5, r6, r7], rfl⟩
 | cons x xs =>
   skip;have hlen : (x :: xs).length = xs.length + 1 := rfl;refine dD (vo (A := Ad) .h8 (by rw [List.length_map]; exact Nat.succ_pos _)) (fun hA => ?_)
   obtain ⟨ad, rfl⟩ : ∃ ad, Ad = some ad := by cases Ad with
    | none => cases hA
    | some a => exact ⟨a, rfl⟩
   by_cases h10 : 10 <= xh.length
   ·refine vr 6 ?_;refine pe 0 (zW uw bJ rfl rfl) ?_;refine Al 0 uw fun b5 => ?_;refine Sg 9 xS .here ?_;refine Lb 1 wg .h1 ?_;refine ym 9 ?_;refine Lb 1 wg .h1 ?_;refine xI 7 ?_;refine Sr 3 RX .here .here ?_;refine yf (sT [0, 1, 2, 3, 4, 5, 306, 7, 308] .done) mixed (by kernel_rfl) (fun _ _ _ _ hq => hq) ?_;refine vt 6 ?_
    refine z8 rfl rfl ((fH Gv rfl (.cons .h1 .k6) (fun m' hm he => dw (o1 := 11) (o2 := 13) (xs := xs) (ys := xg) (he _ (.tail _ (.tail _ (.tail _ (.tail _ (.tail _ (.tail _ (.tail _ (.head _))))))))).rd (he _ (.tail _ (.tail _ (.tail _ (.tail _ (.tail _ (.tail _ (.tail _ (.head _))))))))).2.1 rfl rfl (by decide) (by omega)) rfl ?_)) rfl;rintro _ _ ⟨rfl, A3, c3, rfl⟩
    refine vt 1 ?_;refine z8 rfl rfl (yx Yw rfl rfl rfl .h2 .h2 ?_) rfl;refine Vm 7 ?_
    refine zN (α := Nat × Sl × Sl) (fun y => [(6, .pointer (some ⟨b3, 0, none⟩)), (7, .pointer (some ⟨b4, 0, none⟩)), (9, .pointer (some ⟨mb, 0, none⟩)), (11, .pointer (some ⟨b5, 0, none⟩)), (94, .int .i64 (y.1 : Nat))])
     (fun y => [own 3 1 A3 (xg ++ [x]).length c3 ((xg ++ [x]).map zV), cel mb [.pointer (some ⟨b1, 0, none⟩), zV st, zV sm, .int .i8 sp, .bool false, .int .i8 sr, xK, zV 1, zV l1, zV ma1, zV mo1, .slice (xL (some ad) 1 cd 1) xs.length (cd - 1), .slice Ah xh.length ch, .slice A3 (xg ++ [x]).length c3, xK, .slice y.2.1.A y.2.1.xs.length y.2.1.c, zV l2, zV ma2, zV mo2, .slice Ad2 xd2.length cd2, .slice Ah2 xh2.length ch2, .slice Ag2 xg2.length cg2, xK, .slice y.2.2.A y.2.2.xs.length y.2.2.c] 212, cel b5 [.int .i8 4, .int .i64 ((0 : Nat) : Int), zV x, zV 0, zV 0, zV 0, xK] 127, own 3 1 y.2.2.A y.2.2.xs.length y.2.2.c (y.2.2.xs.map zV), own 3 1 Ag2 xg2.length cg2 (xg2.map zV), own 3 1 Ah2 xh2.length ch2 (xh2.map zV), own 3 1 Ad2 xd2.length cd2 (xd2.map zV), own 3 1 y.2.1.A y.2.1.xs.length y.2.1.c (y.2.1.xs.map zV), own 3 1 Ah xh.length ch (xh.map zV), own 3 1 (some ad) (x :: xs).length cd ((x :: xs).map zV), cel b4 [.int .i8 0, .int .i64 0, .int .i64 0, .int .i64 0, .int .i64 0, .int .i64 0, .slice none 0 0] 127, cel b3 z36 36])
     (fun y => (y.1 = 0 /\ y.2.1.xs = xt1 /\ y.2.2.xs = xt2) \/ (y.1 = 1 /\ y.2.1.xs = xt1 ++ [x] /\ y.2.2.xs = xt2) \/ (y.1 = 2 /\ y.2.1.xs = xt1 ++ [x] /\ y.2.2.xs = xt2 ++ [x])) (fun y => 2 - y.1) (0, ⟨At1, ct1, xt1⟩, ⟨At2, ct2, xt2⟩) ⟨rfl, rfl, rfl, rfl, rfl, trivial⟩ (.cons .here (.cons .here (.cons .here (.cons .here (.cons .here (.cons .here (.cons .here (.cons .here (.cons .here (.cons .here .pp)))))))))) (.inl ⟨rfl, rfl, rfl⟩) ?_
    rintro ⟨i, ⟨B1, d1, ys1⟩, ⟨B2, d2, ys2⟩⟩ hF;dsimp only at hF ⊢;rcases hF with ⟨rfl, h1, h2⟩ | ⟨rfl, h1, h2⟩ | ⟨rfl, h1, h2⟩
    ·have e9 : ys1.length <= 900 := by rw [h1]; exact e6
     refine tr 2 ?_;refine xI 14 ?_;refine yf (sT [0, 1, 2, 3, 4, 5, 6, 7, 8, 10, 14, 15, 16, 109, 111, 212, 313, 17, 18, 319] .done) mixed (by kernel_rfl) (fun _ _ _ _ hq => hq) ?_;refine vt 7 ?_;refine Vt 5 rfl ((zR (i := 0) vO rfl rfl (by decide))) ?_;refine Vl 0 rfl wg .h1 ?_;refine Vl 0 rfl yH .h2 ?_;refine yo rfl (wb fO rfl rfl rfl rfl (fun b6 => ?_)) rfl
     refine z8 rfl rfl (xq fO rfl rfl rfl rfl .here (fun _ _ => .h8) rfl rfl (by first | omega | (simp only [maxLen]; omega)) (by omega) rfl (fun A1 c1 => ?_)) rfl;refine Vt 1 rfl ((zR (i := 0) vO rfl rfl (by decide))) ?_;refine z8 rfl rfl (yx jP rfl rfl rfl .h2 .h15 ?_) rfl;refine Vm 3 ?_;refine Pa 2 ?_
     rw [show ys1.length + 1 = (ys1 ++ [x]).length by simp, show List.map zV ys1 ++ eE (jc (if 1 * 1 = 0 then [] else [Value.int IntKind.i64 0]) (1 * 1)) (0 * 1) (zV x).cells.toList = List.map zV (ys1 ++ [x]) by rw [List.map_append]; rfl]
     exact QR ((1, ⟨A1, c1, ys1 ++ [x]⟩, ⟨B2, d2, ys2⟩) : Nat × Sl × Sl) (.cons .h1 (.cons .h1 (.cons .h1 (.cons .h1 (.cons .h1 (.cons .h1 (.cons .h1 (.cons .h1 (.cons .h1 (.cons .h1 (.cons .h1 .p1))))))))))) (.inr (.inl ⟨rfl, by rw [h1], h2⟩)) (show 1 < 2 by decide)
    ·have e9 : ys2.length <= 900 := by rw [h2]; exact e7
     refine tr 2 ?_;refine xI 14 ?_;refine yf (sT [0, 1, 2, 3, 4, 5, 6, 7, 8, 10, 14, 15, 16, 109, 111, 212, 313, 17, 18, 319] .done) mixed (by kernel_rfl) (fun _ _ _ _ hq => hq) ?_;refine vt 7 ?_;refine Vt 5 rfl ((zR (i := 1) vO rfl rfl (by decide))) ?_;refine Vl 0 rfl wg .h1 ?_;refine Vl 0 rfl yH .h2 ?_;refine yo rfl (wb fO rfl rfl rfl rfl (fun b6 => ?_)) rfl
     refine z8 rfl rfl (xq fO rfl rfl rfl rfl .here (fun _ _ => .h4) rfl rfl (by first | omega | (simp only [maxLen]; omega)) (by omega) rfl (fun A1 c1 => ?_)) rfl;refine Vt 1 rfl ((zR (i := 1) vO rfl rfl (by decide))) ?_;refine z8 rfl rfl (yx jP rfl rfl rfl .h2 (.there (.there (.there (.there (.there (.there (.there .h16))))))) ?_) rfl;refine Vm 3 ?_
     refine Pa 2 ?_;rw [show ys2.length + 1 = (ys2 ++ [x]).length by simp, show List.map zV ys2 ++ eE (jc (if 1 * 1 = 0 then [] else [Value.int IntKind.i64 0]) (1 * 1)) (0 * 1) (zV x).cells.toList = List.map zV (ys2 ++ [x]) by rw [List.map_append]; rfl]
     exact QR ((2, ⟨B1, d1, ys1⟩, ⟨A1, c1, ys2 ++ [x]⟩) : Nat × Sl × Sl) (.cons .h1 (.cons .h1 (.cons .h1 (.cons .h1 (.cons .h1 (.cons .h1 (.cons .h1 (.cons .h1 (.cons .h1 (.cons .h1 (.cons .h1 .p1))))))))))) (.inr (.inr ⟨rfl, h1, by rw [h2]⟩)) (show 0 < 1 by decide)
    ·subst h1 h2;refine tr 2 ?_;refine ym 6 ?_;refine zh ?_;refine zf ?_;refine xr ?_;refine qt 2 ?_;refine wH (.cons .h10 .k10) (fun m' hm he => ?_)
     have hM : At m' ⟨mb, 0 + 1, none⟩ (Gs.v ⟨st, sm, sp, sr, ⟨l1, ma1, mo1, ⟨xL (some ad) 1 cd 1, cd - 1, xs⟩, ⟨Ah, ch, xh⟩, ⟨A3, c3, xg ++ [x]⟩, ⟨B1, d1, xt1 ++ [x]⟩⟩, ⟨l2, ma2, mo2, ⟨Ad2, cd2, xd2⟩, ⟨Ah2, ch2, xh2⟩, ⟨Ag2, cg2, xg2⟩, ⟨B2, d2, xt2 ++ [x]⟩⟩⟩) := by
      have := (At.blk (he _ (.tail _ (.head _)))).sub 1 23;rwa [Addr.add_lit] at this
     have hE := At.blk (he _ (.tail _ (.tail _ (.head _))))
     have hdk := Own.cut (l := 1) (k := xs.length) (mm := cd) (he (own 3 1 (some ad) (x :: xs).length cd ((x :: xs).map zV)) (.tail _ (.tail _ (.tail _ (.tail _ (.tail _ (.tail _ (.tail _ (.tail _ (.tail _ (.head _))))))))))) (by omega) (by have := (he (own 3 1 (some ad) (x :: xs).length cd ((x :: xs).map zV)) (.tail _ (.tail _ (.tail _ (.tail _ (.tail _ (.tail _ (.tail _ (.tail _ (.tail _ (.head _))))))))))).2.1; omega) (Nat.le_refl _)
     rw [show (((x :: xs).map zV).drop (1 * 1)).take (xs.length * 1) = xs.map zV from by rw [Nat.mul_one, Nat.mul_one]; exact List.take_of_length_le (Nat.le_of_eq (List.length_map ..))] at hdk
     have hd2 : vH m' ⟨l1, ma1, mo1, ⟨xL (some ad) 1 cd 1, cd - 1, xs⟩, ⟨Ah, ch, xh⟩, ⟨A3, c3, xg ++ [x]⟩, ⟨B1, d1, xt1 ++ [x]⟩⟩ := ⟨Own.rdI (s := ⟨xL (some ad) 1 cd 1, cd - 1, xs⟩) hdk, Own.rdI (s := ⟨Ah, ch, xh⟩) (he _ (.tail _ (.tail _ (.tail _ (.tail _ (.tail _ (.tail _ (.tail _ (.tail _ (.head _)))))))))), Own.rdI (s := ⟨A3, c3, xg ++ [x]⟩) (he _ (.head _)), Own.rdI (s := ⟨B1, d1, xt1 ++ [x]⟩) (he _ (.tail _ (.tail _ (.tail _ (.tail _ (.tail _ (.tail _ (.tail _ (.head _))))))))), by dsimp only; omega, e2, by simp; omega, by simp; omega⟩
     have hd3 : vH m' ⟨l2, ma2, mo2, ⟨Ad2, cd2, xd2⟩, ⟨Ah2, ch2, xh2⟩, ⟨Ag2, cg2, xg2⟩, ⟨B2, d2, xt2 ++ [x]⟩⟩ := ⟨Own.rdI (s := ⟨Ad2, cd2, xd2⟩) (he _ (.tail _ (.tail _ (.tail _ (.tail _ (.tail _ (.tail _ (.head _)))))))), Own.rdI (s := ⟨Ah2, ch2, xh2⟩) (he _ (.tail _ (.tail _ (.tail _ (.tail _ (.tail _ (.head _))))))), Own.rdI (s := ⟨Ag2, cg2, xg2⟩) (he _ (.tail _ (.tail _ (.tail _ (.tail _ (.head _)))))), Own.rdI (s := ⟨B2, d2, xt2 ++ [x]⟩) (he _ (.tail _ (.tail _ (.tail _ (.head _))))), by rw [r4]; exact hb.l1, by rw [r5]; exact hb.l2, by rw [r6]; exact hb.l3, by simp; omega⟩
     skip;refine Db (sq [0, 1, 2, 3, 5, 104, 106, 107, 8] .done) ?_;refine vB 3 ?_;refine Vr 0 rfl (yg yn rfl rfl hM) ?_;refine Vr 0 rfl (yg xS rfl rfl hE) ?_
     refine zO rfl ((zr ZT rfl (fun m2 hm2 he2 => jj (g := ⟨st, sm, sp, sr, ⟨l1, ma1, mo1, ⟨xL (some ad) 1 cd 1, cd - 1, xs⟩, ⟨Ah, ch, xh⟩, ⟨A3, c3, xg ++ [x]⟩, ⟨B1, d1, xt1 ++ [x]⟩⟩, ⟨l2, ma2, mo2, ⟨Ad2, cd2, xd2⟩, ⟨Ah2, ch2, xh2⟩, ⟨Ag2, cg2, xg2⟩, ⟨B2, d2, xt2 ++ [x]⟩⟩⟩) (hd2.mono hm2) (hd3.mono hm2)) rfl ?_)) rfl;rintro _ _ ⟨h, rfl, hh, rfl⟩
     refine zO rfl (yh yn rfl rfl rfl .h9 rfl rfl ?_) rfl;refine zO rfl (yh xS rfl rfl rfl .h8 rfl rfl ?_) rfl;refine vB 1 ?_;refine Vn 2 ?_
     exact wJ hm [_, _, _] ⟨⟨b3, _, _, _, rfl, .h9, .inr ⟨yn, rfl⟩⟩, ⟨b4, _, _, _, rfl, .h8, .inr ⟨xS, rfl⟩⟩, rfl, trivial⟩ _ (.cons .here (.cons .here (.cons .here (.cons .here (.cons .here (.cons .here .pp)))))) ⟨h, _, rfl, rfl, rfl, by
      rw [Gs.same_n.1 hh]
      simp [Gs.n, Sd.n, vq, xR, eP.tell, hs1, hs2, hs3, hs4, q1, q2, q3, q4.symm, q6, q7, r1, r2, r3, r4, r5, r6, r7, <- q5, h10], rfl⟩
   ·skip;refine vr 6 ?_;refine pe 0 (zW uw bJ rfl rfl) ?_;refine Al 0 uw fun b5 => ?_;refine Sg 9 xS .here ?_;refine Lb 1 wg .h1 ?_;refine ym 9 ?_;refine Lb 1 wg .h1 ?_;refine ym 5 ?_;refine yf (sT [0, 1, 2, 3, 4, 5, 306, 7, 308] .done) mixed (by kernel_rfl) (fun _ _ _ _ hq => hq) ?_;refine vt 6 ?_
    refine z8 rfl rfl ((fH Gv rfl (.cons .h1 .k7) (fun m' hm he => dw (o1 := 11) (o2 := 12) (xs := xs) (ys := xh) (he _ (.tail _ (.tail _ (.tail _ (.tail _ (.tail _ (.tail _ (.tail _ (.head _))))))))).rd (he _ (.tail _ (.tail _ (.tail _ (.tail _ (.tail _ (.tail _ (.tail _ (.head _))))))))).2.1 rfl rfl (by decide) (by omega)) rfl ?_)) rfl;rintro _ _ ⟨rfl, A3, c3, rfl⟩
    refine vt 1 ?_;refine z8 rfl rfl (yx Yw rfl rfl rfl .h2 .h2 ?_) rfl;refine Vm 1 ?_;refine yf (sT [0, 1, 2, 3, 5, 104, 106, 207, 308, 9, 10, 311] .done) mixed (by kernel_rfl) (fun _ _ _ _ hq => hq) ?_;refine vt 5 ?_;refine Vl 0 rfl wg .h1 ?_;refine Vl 0 rfl yH .h2 ?_;refine yo rfl (wb fO rfl rfl rfl rfl (fun b6 => ?_)) rfl
    refine z8 rfl rfl (xq fO rfl rfl rfl rfl .here (fun _ _ => .h8) rfl rfl (by first | omega | (simp only [maxLen]; omega)) (by omega) rfl (fun A1 c1 => ?_)) rfl;refine vt 2 ?_;refine z8 rfl rfl (yx jP rfl rfl rfl .h2 .h15 ?_) rfl;refine Vm 3 ?_;rw [show xt1.length + 1 = (xt1 ++ [x]).length by simp];refine wH (.cons .h11 .k11) (fun m' hm he => ?_)
    have hM : At m' ⟨mb, 0 + 1, none⟩ (Gs.v ⟨st, sm, sp, sr, ⟨l1, ma1, mo1, ⟨xL (some ad) 1 cd 1, cd - 1, xs⟩, ⟨A3, c3, xh ++ [x]⟩, ⟨Ag, cg, xg⟩, ⟨A1, c1, xt1 ++ [x]⟩⟩, ⟨l2, ma2, mo2, ⟨Ad2, cd2, xd2⟩, ⟨Ah2, ch2, xh2⟩, ⟨Ag2, cg2, xg2⟩, ⟨At2, ct2, xt2⟩⟩⟩) := by
     have := (At.blk (he _ (.tail _ (.tail _ (.head _))))).sub 1 23;rwa [Addr.add_lit] at this
    have hE := At.blk (he _ (.tail _ (.tail _ (.tail _ (.head _)))))
    have hdk := Own.cut (l := 1) (k := xs.length) (mm := cd) (he (own 3 1 (some ad) (x :: xs).length cd ((x :: xs).map zV)) (.tail _ (.tail _ (.tail _ (.tail _ (.tail _ (.tail _ (.tail _ (.tail _ (.tail _ (.tail _ (.head _)))))))))))) (by omega) (by have := (he (own 3 1 (some ad) (x :: xs).length cd ((x :: xs).map zV)) (.tail _ (.tail _ (.tail _ (.tail _ (.tail _ (.tail _ (.tail _ (.tail _ (.tail _ (.tail _ (.head _)))))))))))).2.1; omega) (Nat.le_refl _)
    rw [show (((x :: xs).map zV).drop (1 * 1)).take (xs.length * 1) = xs.map zV from by rw [Nat.mul_one, Nat.mul_one]; exact List.take_of_length_le (Nat.le_of_eq (List.length_map ..))] at hdk
    have htl : Go.Eng.Own m' 3 1 A1 (xt1 ++ [x]).length c1 ((xt1 ++ [x]).map zV) := by
     have := he _ (.tail _ (.tail _ (.tail _ (.tail _ (.tail _ (.tail _ (.tail _ (.tail _ (.head _)))))))));rw [List.map_append];exact this
    have hd2 : vH m' ⟨l1, ma1, mo1, ⟨xL (some ad) 1 cd 1, cd - 1, xs⟩, ⟨A3, c3, xh ++ [x]⟩, ⟨Ag, cg, xg⟩, ⟨A1, c1, xt1 ++ [x]⟩⟩ := ⟨Own.rdI (s := ⟨xL (some ad) 1 cd 1, cd - 1, xs⟩) hdk, Own.rdI (s := ⟨A3, c3, xh ++ [x]⟩) (he _ (.tail _ (.head _))), Own.rdI (s := ⟨Ag, cg, xg⟩) (he _ (.tail _ (.tail _ (.tail _ (.tail _ (.tail _ (.tail _ (.tail _ (.tail _ (.tail _ (.head _))))))))))), Own.rdI (s := ⟨A1, c1, xt1 ++ [x]⟩) htl, by dsimp only; omega, by simp; omega, e3, by simp; omega⟩
    have hd3 : vH m' ⟨l2, ma2, mo2, ⟨Ad2, cd2, xd2⟩, ⟨Ah2, ch2, xh2⟩, ⟨Ag2, cg2, xg2⟩, ⟨At2, ct2, xt2⟩⟩ := ⟨Own.rdI (s := ⟨Ad2, cd2, xd2⟩) (he _ (.tail _ (.tail _ (.tail _ (.tail _ (.tail _ (.tail _ (.tail _ (.head _))))))))), Own.rdI (s := ⟨Ah2, ch2, xh2⟩) (he _ (.tail _ (.tail _ (.tail _ (.tail _ (.tail _ (.tail _ (.head _)))))))), Own.rdI (s := ⟨Ag2, cg2, xg2⟩) (he _ (.tail _ (.tail _ (.tail _ (.tail _ (.tail _ (.head _))))))), Own.rdI (s := ⟨At2, ct2, xt2⟩) (he _ (.tail _ (.tail _ (.tail _ (.tail _ (.head _)))))), by rw [r4]; exact hb.l1, by rw [r5]; exact hb.l2, by rw [r6]; exact hb.l3, e5⟩
    skip;refine Db (sq [0, 1, 2, 3, 5, 104, 106, 107, 8] .done) ?_;refine vB 3 ?_;refine Vr 0 rfl (yg yn rfl rfl hM) ?_;refine Vr 0 rfl (yg xS rfl rfl hE) ?_
    refine zO rfl ((zr ZT rfl (fun m2 hm2 he2 => jj (g := ⟨st, sm, sp, sr, ⟨l1, ma1, mo1, ⟨xL (some ad) 1 cd 1, cd - 1, xs⟩, ⟨A3, c3, xh ++ [x]⟩, ⟨Ag, cg, xg⟩, ⟨A1, c1, xt1 ++ [x]⟩⟩, ⟨l2, ma2, mo2, ⟨Ad2, cd2, xd2⟩, ⟨Ah2, ch2, xh2⟩, ⟨Ag2, cg2, xg2⟩, ⟨At2, ct2, xt2⟩⟩⟩) (hd2.mono hm2) (hd3.mono hm2)) rfl ?_)) rfl;rintro _ _ ⟨h, rfl, hh, rfl⟩
    refine zO rfl (yh yn rfl rfl rfl .h9 rfl rfl ?_) rfl;refine zO rfl (yh xS rfl rfl rfl .h8 rfl rfl ?_) rfl;refine vB 1 ?_;refine Vn 2 ?_
    exact wJ hm [_, _, _] ⟨⟨b3, _, _, _, rfl, .h9, .inr ⟨yn, rfl⟩⟩, ⟨b4, _, _, _, rfl, .h8, .inr ⟨xS, rfl⟩⟩, rfl, trivial⟩ _ (.cons .here (.cons .here (.cons .here (.cons .here (.cons .here (.cons .here .pp)))))) ⟨h, _, rfl, rfl, rfl, by
     rw [Gs.same_n.1 hh]
     simp [Gs.n, Sd.n, vq, xR, eP.tell, hs1, hs2, hs3, hs4, q1, q2, q3, q4.symm, q6, q7, r1, r2, r3, r4, r5, r6, r7, <- q5, h10], rfl⟩
end
section
variable {m : Mp}
theorem NC {g : Gs} {nk kc nf fc : Nat} {K F : Oa} (hC : vR m (vg K nk kc F nf fc)) (ha : vH m g.a) (hb : vH m g.b) (hg : qj nk g) (hl : -1000000 < g.b.life) (ht1 : g.a.told.xs.length <= 900) (ht2 : g.b.told.xs.length <= 900) (hgr : g.b.grav.xs.length <= 900) :
  CS Tryz.prog 53 [.agg (vg K nk kc F nf fc).toArray, .agg g.v.toArray, .int .i64 (1 : Nat)] m [] (fun v L' => ∃ (h : Gs) (ev : Lv), ev.length = 7 /\ ev.all uI = true /\ v = .tuple #[.agg h.v.toArray, .agg ev.toArray, zV 0] /\ h.n = vq g.n 1 /\ L' = h.owns) := by
 skip;refine zM [.cell 6 36, .cell 7 127, .tmp 8] Tryz.func53 rfl rfl rfl ?_;refine tr 2 ?_;refine Bx 0 rfl fun b1 => ?_;refine Bx 0 rfl fun b2 => ?_;refine Al 0 qX fun b3 => ?_;refine Al 5 uw fun b4 => ?_
 refine zg ((zr NX rfl (fun m' hm he => ZY (fa.blk (he _ (.tail _ (.tail _ (.tail _ (.head _)))))) (hC.mono hm) (fa.blk (he _ (.tail _ (.tail _ (.head _))))) (ha.mono hm) (hb.mono hm) hg) rfl ?_)) rfl;rintro _ _ ⟨mb, s, rfl, hs, rfl⟩;refine vr 8 ?_;refine pe 7 (jp Mu rfl rfl) ?_;refine ym 2 ?_;refine ym 15 ?_
 refine pe 0 ((zR (i := 1) vO rfl rfl (by decide))) ?_;obtain ⟨st, sm, sp, sr, ⟨l2, ma2, mo2, ⟨Ad2, cd2, xd2⟩, ⟨Ah2, ch2, xh2⟩, ⟨Ag2, cg2, xg2⟩, ⟨At2, ct2, xt2⟩⟩, ⟨l1, ma1, mo1, ⟨Ad, cd, xd⟩, ⟨Ah, ch, xh⟩, ⟨Ag, cg, xg⟩, ⟨At1, ct1, xt1⟩⟩⟩ := s;dsimp only [Gs.v, Sl.v, Gs.owns, Sd.owns, Sl.own, Sl.vs, List.cons_append, List.nil_append]
 obtain ⟨hs1, hs2, hs3, hs4, ⟨r1, r2, r3, r4, r5, r6, r7⟩, ⟨q1, q2, q3, q4, q5, q6, q7⟩⟩ := hs;dsimp only at hs1 hs2 hs3 hs4 q1 q2 q3 q4 q5 q6 q7 r1 r2 r3 r4 r5 r6 r7;have hlo : -1000000 < l1 := by rw [q1]; exact hl
 have hhi : l1 <= 1000000 := by rw [q1]; exact hg.b.life2
 have e1 : xd.length <= 60 := by rw [q4]; exact hb.l1
 have e2 : xh.length <= 10 := by rw [q5]; exact hb.l2
 have e3 : xg.length <= 1000 := by rw [q6]; exact hb.l3
 have e4 : xt1.length <= 1000 := by rw [q7]; exact hb.l4
 have e6 : xt1.length <= 900 := by rw [q7]; exact ht2
 have e7 : xt2.length <= 900 := by rw [r7]; exact ht1
 have e8 : xg.length <= 900 := by rw [q6]; exact hgr
 have e5 : xt2.length <= 1000 := by rw [r7]; exact ha.l4
 cases xd with
 | nil =>
   refine vr 6 ?_;refine pe 0 (zW uw bJ rfl rfl) ?_;refine Al 0 uw fun b5 => ?_;refine Sg 9 xS .here ?_;refine Lb 1 wg .h1 ?_;refine NI 7 ?_;refine Sr 7 Yw .here .h2 ?_;refine Lb 0 yH .h1 ?_;refine pe 2 (ke rfl rfl (qx (by omega) (by omega))) ?_;refine Sr 7 Yw .h1 .h16 ?_;refine Lb 0 yH .h1 ?_
   refine zg ((zr Gw rfl (fun m' hm he => fd (by omega) (by omega)) rfl ?_)) rfl;rintro _ _ ⟨rfl, rfl⟩;refine vr 8 ?_;refine wH (.cons .h10 .k10) (fun m' hm he => ?_)
   have hM : At m' ⟨mb, 0 + 1, none⟩ (Gs.v ⟨st, sm, sp, sr, ⟨l2, ma2, mo2, ⟨Ad2, cd2, xd2⟩, ⟨Ah2, ch2, xh2⟩, ⟨Ag2, cg2, xg2⟩, ⟨At2, ct2, xt2⟩⟩, ⟨l1 - 1, ma1, mo1, ⟨Ad, cd, []⟩, ⟨Ah, ch, xh⟩, ⟨Ag, cg, xg⟩, ⟨At1, ct1, xt1⟩⟩⟩) := by
    have := (At.blk (he _ (.tail _ (.head _)))).sub 1 23;rwa [Addr.add_lit] at this
   have hE := At.blk (he _ (.head _))
   have hd2 : vH m' ⟨l1 - 1, ma1, mo1, ⟨Ad, cd, []⟩, ⟨Ah, ch, xh⟩, ⟨Ag, cg, xg⟩, ⟨At1, ct1, xt1⟩⟩ := ⟨Own.rdI (s := ⟨Ad, cd, []⟩) (he (own 3 1 Ad ([] : List Int).length cd (([] : List Int).map zV)) (by simp)), Own.rdI (s := ⟨Ah, ch, xh⟩) (he (own 3 1 Ah (xh : List Int).length ch ((xh : List Int).map zV)) (by simp)), Own.rdI (s := ⟨Ag, cg, xg⟩) (he (own 3 1 Ag (xg : List Int).length cg ((xg : List Int).map zV)) (by simp)), Own.rdI (s := ⟨At1, ct1, xt1⟩) (he (own 3 1 At1 (xt1 : List Int).length ct1 ((xt1 : List Int).map zV)) (by simp)), Nat.zero_le _, e2, e3, e4⟩
   have hd3 : vH m' ⟨l2, ma2, mo2, ⟨Ad2, cd2, xd2⟩, ⟨Ah2, ch2, xh2⟩, ⟨Ag2, cg2, xg2⟩, ⟨At2, ct2, xt2⟩⟩ := ⟨Own.rdI (s := ⟨Ad2, cd2, xd2⟩) (he (own 3 1 Ad2 (xd2 : List Int).length cd2 ((xd2 : List Int).map zV)) (by simp)), Own.rdI (s := ⟨Ah2, ch2, xh2⟩) (he (own 3 1 Ah2 (xh2 : List Int).length ch2 ((xh2 : List Int).map zV)) (by simp)), Own.rdI (s := ⟨Ag2, cg2, xg2⟩) (he (own 3 1 Ag2 (xg2 : List Int).length cg2 ((xg2 : List Int).map zV)) (by simp)), Own.rdI (s := ⟨At2, ct2, xt2⟩) (he (own 3 1 At2 (xt2 : List Int).length ct2 ((xt2 : List Int).map zV)) (by simp)), by rw [r4]; exact ha.l1, by rw [r5]; exact ha.l2, by rw [r6]; exact ha.l3, e5⟩
   skip;refine Db (sq [0, 1, 2, 3, 5, 104, 106, 107, 8] .done) ?_;refine vB 3 ?_;refine Vr 0 rfl (yg yn rfl rfl hM) ?_;refine Vr 0 rfl (yg xS rfl rfl hE) ?_
   refine zO rfl ((zr ZT rfl (fun m2 hm2 he2 => jj (g := ⟨st, sm, sp, sr, ⟨l2, ma2, mo2, ⟨Ad2, cd2, xd2⟩, ⟨Ah2, ch2, xh2⟩, ⟨Ag2, cg2, xg2⟩, ⟨At2, ct2, xt2⟩⟩, ⟨l1 - 1, ma1, mo1, ⟨Ad, cd, []⟩, ⟨Ah, ch, xh⟩, ⟨Ag, cg, xg⟩, ⟨At1, ct1, xt1⟩⟩⟩) (hd3.mono hm2) (hd2.mono hm2)) rfl ?_)) rfl;rintro _ _ ⟨h, rfl, hh, rfl⟩;refine zO rfl (yh yn rfl rfl rfl .h9 rfl rfl ?_) rfl
   refine zO rfl (yh xS rfl rfl rfl .h8 rfl rfl ?_) rfl;refine vB 1 ?_;refine Vn 2 ?_
   exact wJ hm [_, _, _] ⟨⟨b3, _, _, _, rfl, .h9, .inr ⟨yn, rfl⟩⟩, ⟨b4, _, _, _, rfl, .h8, .inr ⟨xS, rfl⟩⟩, rfl, trivial⟩ _ (.cons .here (.cons .here (.cons .here (.cons .here (.cons .here (.cons .here .pp)))))) ⟨h, _, rfl, rfl, rfl, by
    rw [Gs.same_n.1 hh]
    simp [Gs.n, Sd.n, vq, xR, eP.tell, hs1, hs2, hs3, hs4, q1, q2, q3, q4.symm, q5, q6, q7, r1, r2, r3, r4, r5, r6, r7], rfl⟩
 | cons x xs =>
   skip;have hlen : (x :: xs).length = xs.length + 1 := rfl;refine dD (vo (A := Ad) .h4 (by rw [List.length_map]; exact Nat.succ_pos _)) (fun hA => ?_)
   obtain ⟨ad, rfl⟩ : ∃ ad, Ad = some ad := by cases Ad with
    | none => cases hA
    | some a => exact ⟨a, rfl⟩
   by_cases h10 : 10 <= xh.length
   ·refine vr 6 ?_;refine pe 0 (zW uw bJ rfl rfl) ?_;refine Al 0 uw fun b5 => ?_;refine Sg 9 xS .here ?_;refine Lb 1 wg .h1 ?_;refine ym 9 ?_;refine Lb 1 wg .h1 ?_;refine xI 7 ?_;refine Sr 3 RX .here .here ?_;refine yf (sT [0, 1, 2, 3, 4, 5, 306, 7, 308] .done) mixed (by kernel_rfl) (fun _ _ _ _ hq => hq) ?_;refine vt 6 ?_
    refine z8 rfl rfl ((fH Gv rfl (.cons .h1 .k2) (fun m' hm he => dw (o1 := 19) (o2 := 21) (xs := xs) (ys := xg) (he _ (.tail _ (.tail _ (.tail _ (.head _))))).rd (he _ (.tail _ (.tail _ (.tail _ (.head _))))).2.1 rfl rfl (by decide) (by omega)) rfl ?_)) rfl;rintro _ _ ⟨rfl, A3, c3, rfl⟩;refine vt 1 ?_;refine z8 rfl rfl (yx Yw rfl rfl rfl .h2 .h2 ?_) rfl
    refine Vm 7 ?_
    refine zN (α := Nat × Sl × Sl) (fun y => [(6, .pointer (some ⟨b3, 0, none⟩)), (7, .pointer (some ⟨b4, 0, none⟩)), (9, .pointer (some ⟨mb, 0, none⟩)), (11, .pointer (some ⟨b5, 0, none⟩)), (94, .int .i64 (y.1 : Nat))])
     (fun y => [own 3 1 A3 (xg ++ [x]).length c3 ((xg ++ [x]).map zV), cel mb [.pointer (some ⟨b1, 0, none⟩), zV st, zV sm, .int .i8 sp, .bool false, .int .i8 sr, xK, zV 1, zV l2, zV ma2, zV mo2, .slice Ad2 xd2.length cd2, .slice Ah2 xh2.length ch2, .slice Ag2 xg2.length cg2, xK, .slice y.2.1.A y.2.1.xs.length y.2.1.c, zV l1, zV ma1, zV mo1, .slice (xL (some ad) 1 cd 1) xs.length (cd - 1), .slice Ah xh.length ch, .slice A3 (xg ++ [x]).length c3, xK, .slice y.2.2.A y.2.2.xs.length y.2.2.c] 212, cel b5 [.int .i8 4, .int .i64 ((1 : Nat) : Int), zV x, zV 0, zV 0, zV 0, xK] 127, own 3 1 y.2.2.A y.2.2.xs.length y.2.2.c (y.2.2.xs.map zV), own 3 1 Ah xh.length ch (xh.map zV), own 3 1 (some ad) (x :: xs).length cd ((x :: xs).map zV), own 3 1 y.2.1.A y.2.1.xs.length y.2.1.c (y.2.1.xs.map zV), own 3 1 Ag2 xg2.length cg2 (xg2.map zV), own 3 1 Ah2 xh2.length ch2 (xh2.map zV), own 3 1 Ad2 xd2.length cd2 (xd2.map zV), cel b4 [.int .i8 0, .int .i64 0, .int .i64 0, .int .i64 0, .int .i64 0, .int .i64 0, .slice none 0 0] 127, cel b3 z36 36])
     (fun y => (y.1 = 0 /\ y.2.1.xs = xt2 /\ y.2.2.xs = xt1) \/ (y.1 = 1 /\ y.2.1.xs = xt2 ++ [x] /\ y.2.2.xs = xt1) \/ (y.1 = 2 /\ y.2.1.xs = xt2 ++ [x] /\ y.2.2.xs = xt1 ++ [x])) (fun y => 2 - y.1) (0, ⟨At2, ct2, xt2⟩, ⟨At1, ct1, xt1⟩) ⟨rfl, rfl, rfl, rfl, rfl, trivial⟩ (.cons .here (.cons .here (.cons .here (.cons .here (.cons .here (.cons .here (.cons .here (.cons .here (.cons .here (.cons .here .pp)))))))))) (.inl ⟨rfl, rfl, rfl⟩) ?_
    rintro ⟨i, ⟨B1, d1, ys1⟩, ⟨B2, d2, ys2⟩⟩ hF;dsimp only at hF ⊢;rcases hF with ⟨rfl, h1, h2⟩ | ⟨rfl, h1, h2⟩ | ⟨rfl, h1, h2⟩
    ·have e9 : ys1.length <= 900 := by rw [h1]; exact e7
     refine tr 2 ?_;refine xI 14 ?_;refine yf (sT [0, 1, 2, 3, 4, 5, 6, 7, 8, 10, 14, 15, 16, 109, 111, 212, 313, 17, 18, 319] .done) mixed (by kernel_rfl) (fun _ _ _ _ hq => hq) ?_;refine vt 7 ?_;refine Vt 5 rfl ((zR (i := 0) vO rfl rfl (by decide))) ?_;refine Vl 0 rfl wg .h1 ?_;refine Vl 0 rfl yH .h2 ?_;refine yo rfl (wb fO rfl rfl rfl rfl (fun b6 => ?_)) rfl
     refine z8 rfl rfl (xq fO rfl rfl rfl rfl .here (fun _ _ => .h7) rfl rfl (by first | omega | (simp only [maxLen]; omega)) (by omega) rfl (fun A1 c1 => ?_)) rfl;refine Vt 1 rfl ((zR (i := 0) vO rfl rfl (by decide))) ?_;refine z8 rfl rfl (yx jP rfl rfl rfl .h2 .h15 ?_) rfl;refine Vm 3 ?_;refine Pa 2 ?_
     rw [show ys1.length + 1 = (ys1 ++ [x]).length by simp, show List.map zV ys1 ++ eE (jc (if 1 * 1 = 0 then [] else [Value.int IntKind.i64 0]) (1 * 1)) (0 * 1) (zV x).cells.toList = List.map zV (ys1 ++ [x]) by rw [List.map_append]; rfl]
     exact QR ((1, ⟨A1, c1, ys1 ++ [x]⟩, ⟨B2, d2, ys2⟩) : Nat × Sl × Sl) (.cons .h1 (.cons .h1 (.cons .h1 (.cons .h1 (.cons .h1 (.cons .h1 (.cons .h1 (.cons .h1 (.cons .h1 (.cons .h1 (.cons .h1 .p1))))))))))) (.inr (.inl ⟨rfl, by rw [h1], h2⟩)) (show 1 < 2 by decide)
    ·have e9 : ys2.length <= 900 := by rw [h2]; exact e6
     refine tr 2 ?_;refine xI 14 ?_;refine yf (sT [0, 1, 2, 3, 4, 5, 6, 7, 8, 10, 14, 15, 16, 109, 111, 212, 313, 17, 18, 319] .done) mixed (by kernel_rfl) (fun _ _ _ _ hq => hq) ?_;refine vt 7 ?_;refine Vt 5 rfl ((zR (i := 1) vO rfl rfl (by decide))) ?_;refine Vl 0 rfl wg .h1 ?_;refine Vl 0 rfl yH .h2 ?_;refine yo rfl (wb fO rfl rfl rfl rfl (fun b6 => ?_)) rfl
     refine z8 rfl rfl (xq fO rfl rfl rfl rfl .here (fun _ _ => .h4) rfl rfl (by first | omega | (simp only [maxLen]; omega)) (by omega) rfl (fun A1 c1 => ?_)) rfl;refine Vt 1 rfl ((zR (i := 1) vO rfl rfl (by decide))) ?_;refine z8 rfl rfl (yx jP rfl rfl rfl .h2 (.there (.there (.there (.there (.there (.there (.there .h16))))))) ?_) rfl;refine Vm 3 ?_
     refine Pa 2 ?_;rw [show ys2.length + 1 = (ys2 ++ [x]).length by simp, show List.map zV ys2 ++ eE (jc (if 1 * 1 = 0 then [] else [Value.int IntKind.i64 0]) (1 * 1)) (0 * 1) (zV x).cells.toList = List.map zV (ys2 ++ [x]) by rw [List.map_append]; rfl]
     exact QR ((2, ⟨B1, d1, ys1⟩, ⟨A1, c1, ys2 ++ [x]⟩) : Nat × Sl × Sl) (.cons .h1 (.cons .h1 (.cons .h1 (.cons .h1 (.cons .h1 (.cons .h1 (.cons .h1 (.cons .h1 (.cons .h1 (.cons .h1 (.cons .h1 .p1))))))))))) (.inr (.inr ⟨rfl, h1, by rw [h2]⟩)) (show 0 < 1 by decide)
    ·subst h1 h2;refine tr 2 ?_;refine ym 6 ?_;refine zh ?_;refine zf ?_;refine xr ?_;refine qt 2 ?_;refine wH (.cons .h10 .k10) (fun m' hm he => ?_)
     have hM : At m' ⟨mb, 0 + 1, none⟩ (Gs.v ⟨st, sm, sp, sr, ⟨l2, ma2, mo2, ⟨Ad2, cd2, xd2⟩, ⟨Ah2, ch2, xh2⟩, ⟨Ag2, cg2, xg2⟩, ⟨B1, d1, xt2 ++ [x]⟩⟩, ⟨l1, ma1, mo1, ⟨xL (some ad) 1 cd 1, cd - 1, xs⟩, ⟨Ah, ch, xh⟩, ⟨A3, c3, xg ++ [x]⟩, ⟨B2, d2, xt1 ++ [x]⟩⟩⟩) := by
      have := (At.blk (he _ (.tail _ (.head _)))).sub 1 23;rwa [Addr.add_lit] at this
     have hE := At.blk (he _ (.tail _ (.tail _ (.head _))))
     have hdk := Own.cut (l := 1) (k := xs.length) (mm := cd) (he (own 3 1 (some ad) (x :: xs).length cd ((x :: xs).map zV)) (.tail _ (.tail _ (.tail _ (.tail _ (.tail _ (.head _))))))) (by omega) (by have := (he (own 3 1 (some ad) (x :: xs).length cd ((x :: xs).map zV)) (.tail _ (.tail _ (.tail _ (.tail _ (.tail _ (.head _))))))).2.1; omega) (Nat.le_refl _)
     rw [show (((x :: xs).map zV).drop (1 * 1)).take (xs.length * 1) = xs.map zV from by rw [Nat.mul_one, Nat.mul_one]; exact List.take_of_length_le (Nat.le_of_eq (List.length_map ..))] at hdk
     have hd2 : vH m' ⟨l1, ma1, mo1, ⟨xL (some ad) 1 cd 1, cd - 1, xs⟩, ⟨Ah, ch, xh⟩, ⟨A3, c3, xg ++ [x]⟩, ⟨B2, d2, xt1 ++ [x]⟩⟩ := ⟨Own.rdI (s := ⟨xL (some ad) 1 cd 1, cd - 1, xs⟩) hdk, Own.rdI (s := ⟨Ah, ch, xh⟩) (he _ (.tail _ (.tail _ (.tail _ (.tail _ (.head _)))))), Own.rdI (s := ⟨A3, c3, xg ++ [x]⟩) (he _ (.head _)), Own.rdI (s := ⟨B2, d2, xt1 ++ [x]⟩) (he _ (.tail _ (.tail _ (.tail _ (.head _))))), by dsimp only; omega, e2, by simp; omega, by simp; omega⟩
     have hd3 : vH m' ⟨l2, ma2, mo2, ⟨Ad2, cd2, xd2⟩, ⟨Ah2, ch2, xh2⟩, ⟨Ag2, cg2, xg2⟩, ⟨B1, d1, xt2 ++ [x]⟩⟩ := ⟨Own.rdI (s := ⟨Ad2, cd2, xd2⟩) (he _ (.tail _ (.tail _ (.tail _ (.tail _ (.tail _ (.tail _ (.tail _ (.tail _ (.tail _ (.head _))))))))))), Own.rdI (s := ⟨Ah2, ch2, xh2⟩) (he _ (.tail _ (.tail _ (.tail _ (.tail _ (.tail _ (.tail _ (.tail _ (.tail _ (.head _)))))))))), Own.rdI (s := ⟨Ag2, cg2, xg2⟩) (he _ (.tail _ (.tail _ (.tail _ (.tail _ (.tail _ (.tail _ (.tail _ (.head _))))))))), Own.rdI (s := ⟨B1, d1, xt2 ++ [x]⟩) (he _ (.tail _ (.tail _ (.tail _ (.tail _ (.tail _ (.tail _ (.head _)))))))), by rw [r4]; exact ha.l1, by rw [r5]; exact ha.l2, by rw [r6]; exact ha.l3, by simp; omega⟩
     skip;refine Db (sq [0, 1, 2, 3, 5, 104, 106, 107, 8] .done) ?_;refine vB 3 ?_;refine Vr 0 rfl (yg yn rfl rfl hM) ?_;refine Vr 0 rfl (yg xS rfl rfl hE) ?_
     refine zO rfl ((zr ZT rfl (fun m2 hm2 he2 => jj (g := ⟨st, sm, sp, sr, ⟨l2, ma2, mo2, ⟨Ad2, cd2, xd2⟩, ⟨Ah2, ch2, xh2⟩, ⟨Ag2, cg2, xg2⟩, ⟨B1, d1, xt2 ++ [x]⟩⟩, ⟨l1, ma1, mo1, ⟨xL (some ad) 1 cd 1, cd - 1, xs⟩, ⟨Ah, ch, xh⟩, ⟨A3, c3, xg ++ [x]⟩, ⟨B2, d2, xt1 ++ [x]⟩⟩⟩) (hd3.mono hm2) (hd2.mono hm2)) rfl ?_)) rfl;rintro _ _ ⟨h, rfl, hh, rfl⟩
     refine zO rfl (yh yn rfl rfl rfl .h9 rfl rfl ?_) rfl;refine zO rfl (yh xS rfl rfl rfl .h8 rfl rfl ?_) rfl;refine vB 1 ?_;refine Vn 2 ?_
     exact wJ hm [_, _, _] ⟨⟨b3, _, _, _, rfl, .h9, .inr ⟨yn, rfl⟩⟩, ⟨b4, _, _, _, rfl, .h8, .inr ⟨xS, rfl⟩⟩, rfl, trivial⟩ _ (.cons .here (.cons .here (.cons .here (.cons .here (.cons .here (.cons .here .pp)))))) ⟨h, _, rfl, rfl, rfl, by
      rw [Gs.same_n.1 hh]
      simp [Gs.n, Sd.n, vq, xR, eP.tell, hs1, hs2, hs3, hs4, q1, q2, q3, q4.symm, q6, q7, r1, r2, r3, r4, r5, r6, r7, <- q5, h10], rfl⟩
   ·skip;refine vr 6 ?_;refine pe 0 (zW uw bJ rfl rfl) ?_;refine Al 0 uw fun b5 => ?_;refine Sg 9 xS .here ?_;refine Lb 1 wg .h1 ?_;refine ym 9 ?_;refine Lb 1 wg .h1 ?_;refine ym 5 ?_;refine yf (sT [0, 1, 2, 3, 4, 5, 306, 7, 308] .done) mixed (by kernel_rfl) (fun _ _ _ _ hq => hq) ?_;refine vt 6 ?_
    refine z8 rfl rfl ((fH Gv rfl (.cons .h1 .k3) (fun m' hm he => dw (o1 := 19) (o2 := 20) (xs := xs) (ys := xh) (he _ (.tail _ (.tail _ (.tail _ (.head _))))).rd (he _ (.tail _ (.tail _ (.tail _ (.head _))))).2.1 rfl rfl (by decide) (by omega)) rfl ?_)) rfl;rintro _ _ ⟨rfl, A3, c3, rfl⟩;refine vt 1 ?_;refine z8 rfl rfl (yx Yw rfl rfl rfl .h2 .h2 ?_) rfl
    refine Vm 1 ?_;refine yf (sT [0, 1, 2, 3, 5, 104, 106, 207, 308, 9, 10, 311] .done) mixed (by kernel_rfl) (fun _ _ _ _ hq => hq) ?_;refine vt 5 ?_;refine Vl 0 rfl wg .h1 ?_;refine Vl 0 rfl yH .h2 ?_;refine yo rfl (wb fO rfl rfl rfl rfl (fun b6 => ?_)) rfl
    refine z8 rfl rfl (xq fO rfl rfl rfl rfl .here (fun _ _ => .h4) rfl rfl (by first | omega | (simp only [maxLen]; omega)) (by omega) rfl (fun A1 c1 => ?_)) rfl;refine vt 2 ?_;refine z8 rfl rfl (yx jP rfl rfl rfl .h2 (.there (.there (.there (.there (.there (.there (.there .h16))))))) ?_) rfl;refine Vm 3 ?_;rw [show xt1.length + 1 = (xt1 ++ [x]).length by simp]
    refine wH (.cons .h11 .k11) (fun m' hm he => ?_)
    have hM : At m' ⟨mb, 0 + 1, none⟩ (Gs.v ⟨st, sm, sp, sr, ⟨l2, ma2, mo2, ⟨Ad2, cd2, xd2⟩, ⟨Ah2, ch2, xh2⟩, ⟨Ag2, cg2, xg2⟩, ⟨At2, ct2, xt2⟩⟩, ⟨l1, ma1, mo1, ⟨xL (some ad) 1 cd 1, cd - 1, xs⟩, ⟨A3, c3, xh ++ [x]⟩, ⟨Ag, cg, xg⟩, ⟨A1, c1, xt1 ++ [x]⟩⟩⟩) := by
     have := (At.blk (he _ (.tail _ (.tail _ (.head _))))).sub 1 23;rwa [Addr.add_lit] at this
    have hE := At.blk (he _ (.tail _ (.tail _ (.tail _ (.head _)))))
    have hdk := Own.cut (l := 1) (k := xs.length) (mm := cd) (he (own 3 1 (some ad) (x :: xs).length cd ((x :: xs).map zV)) (.tail _ (.tail _ (.tail _ (.tail _ (.tail _ (.tail _ (.head _)))))))) (by omega) (by have := (he (own 3 1 (some ad) (x :: xs).length cd ((x :: xs).map zV)) (.tail _ (.tail _ (.tail _ (.tail _ (.tail _ (.tail _ (.head _)))))))).2.1; omega) (Nat.le_refl _)
    rw [show (((x :: xs).map zV).drop (1 * 1)).take (xs.length * 1) = xs.map zV from by rw [Nat.mul_one, Nat.mul_one]; exact List.take_of_length_le (Nat.le_of_eq (List.length_map ..))] at hdk
    have htl : Go.Eng.Own m' 3 1 A1 (xt1 ++ [x]).length c1 ((xt1 ++ [x]).map zV) := by
     have := he _ (.tail _ (.tail _ (.tail _ (.tail _ (.head _)))));rw [List.map_append];exact this
    have hd2 : vH m' ⟨l1, ma1, mo1, ⟨xL (some ad) 1 cd 1, cd - 1, xs⟩, ⟨A3, c3, xh ++ [x]⟩, ⟨Ag, cg, xg⟩, ⟨A1, c1, xt1 ++ [x]⟩⟩ := ⟨Own.rdI (s := ⟨xL (some ad) 1 cd 1, cd - 1, xs⟩) hdk, Own.rdI (s := ⟨A3, c3, xh ++ [x]⟩) (he _ (.tail _ (.head _))), Own.rdI (s := ⟨Ag, cg, xg⟩) (he _ (.tail _ (.tail _ (.tail _ (.tail _ (.tail _ (.head _))))))), Own.rdI (s := ⟨A1, c1, xt1 ++ [x]⟩) htl, by dsimp only; omega, by simp; omega, e3, by simp; omega⟩
    have hd3 : vH m' ⟨l2, ma2, mo2, ⟨Ad2, cd2, xd2⟩, ⟨Ah2, ch2, xh2⟩, ⟨Ag2, cg2, xg2⟩, ⟨At2, ct2, xt2⟩⟩ := ⟨Own.rdI (s := ⟨Ad2, cd2, xd2⟩) (he _ (.tail _ (.tail _ (.tail _ (.tail _ (.tail _ (.tail _ (.tail _ (.tail _ (.tail _ (.tail _ (.head _)))))))))))), Own.rdI (s := ⟨Ah2, ch2, xh2⟩) (he _ (.tail _ (.tail _ (.tail _ (.tail _ (.tail _ (.tail _ (.tail _ (.tail _ (.tail _ (.head _))))))))))), Own.rdI (s := ⟨Ag2, cg2, xg2⟩) (he _ (.tail _ (.tail _ (.tail _ (.tail _ (.tail _ (.tail _ (.tail _ (.tail _ (.head _)))))))))), Own.rdI (s := ⟨At2, ct2, xt2⟩) (he _ (.tail _ (.tail _ (.tail _ (.tail _ (.tail _ (.tail _ (.tail _ (.head _))))))))), by rw [r4]; exact ha.l1, by rw [r5]; exact ha.l2, by rw [r6]; exact ha.l3, e5⟩
    skip;refine Db (sq [0, 1, 2, 3, 5, 104, 106, 107, 8] .done) ?_;refine vB 3 ?_;refine Vr 0 rfl (yg yn rfl rfl hM) ?_;refine Vr 0 rfl (yg xS rfl rfl hE) ?_
    refine zO rfl ((zr ZT rfl (fun m2 hm2 he2 => jj (g := ⟨st, sm, sp, sr, ⟨l2, ma2, mo2, ⟨Ad2, cd2, xd2⟩, ⟨Ah2, ch2, xh2⟩, ⟨Ag2, cg2, xg2⟩, ⟨At2, ct2, xt2⟩⟩, ⟨l1, ma1, mo1, ⟨xL (some ad) 1 cd 1, cd - 1, xs⟩, ⟨A3, c3, xh ++ [x]⟩, ⟨Ag, cg, xg⟩, ⟨A1, c1, xt1 ++ [x]⟩⟩⟩) (hd3.mono hm2) (hd2.mono hm2)) rfl ?_)) rfl;rintro _ _ ⟨h, rfl, hh, rfl⟩
    refine zO rfl (yh yn rfl rfl rfl .h9 rfl rfl ?_) rfl;refine zO rfl (yh xS rfl rfl rfl .h8 rfl rfl ?_) rfl;refine vB 1 ?_;refine Vn 2 ?_
    exact wJ hm [_, _, _] ⟨⟨b3, _, _, _, rfl, .h9, .inr ⟨yn, rfl⟩⟩, ⟨b4, _, _, _, rfl, .h8, .inr ⟨xS, rfl⟩⟩, rfl, trivial⟩ _ (.cons .here (.cons .here (.cons .here (.cons .here (.cons .here (.cons .here .pp)))))) ⟨h, _, rfl, rfl, rfl, by
     rw [Gs.same_n.1 hh]
     simp [Gs.n, Sd.n, vq, xR, eP.tell, hs1, hs2, hs3, hs4, q1, q2, q3, q4.symm, q6, q7, r1, r2, r3, r4, r5, r6, r7, <- q5, h10], rfl⟩
end
end Go.Proofs.YtijakengkacnlaaGreatDoor
namespace Go.Eng
open  Go.Eng
section
variable {P : Program} {n : Nat} {env : Env} {m : Mp} {L : List ya} {Q : yd}
theorem SR {α : Type} {a c1 c2 c3 b : Code} (S : α -> Env) (LL : α -> List ya) (F : α -> Prop) (h1 : TS P n a env m L (xJ P n c1 (xJ P n c2 (xJ P n c3 (vX m S LL F (fun _ => 0) 1 Q))))) (h2 : ∀ y, F y -> TS P n b (S y) m (LL y) Q) : TS P n a env m L (xJ P n (.seq c1 (.seq c2 (.seq c3 b))) Q) := by
 have key : ∀ e env' h', vX m S LL F (fun _ => 0) 1 Q e env' h' -> xJ P n b Q e env' h' := by
  intro e env' h' hq;cases e with
  | normal =>
    obtain ⟨y, hs, ⟨hF, hH⟩, _⟩ := hq;exact Z8 (S y) hs (h2 y hF h' hH)
  | exit i => exact hq
  | goto l => exact hq
  | ret => exact hq
  | panic c => exact hq
  | outgrown => exact hq
 have step : ∀ {c b2 : Code} {R : yd}, (∀ e env' h', R e env' h' -> xJ P n b2 Q e env' h') -> ∀ e env' h', xJ P n c R e env' h' -> xJ P n (.seq c b2) Q e env' h' := by
  intro c b2 R hR e env' h' hq;cases e with
  | normal => exact zm (gW hq hR)
  | exit i => exact hR _ _ _ hq
  | goto l => exact hR _ _ _ hq
  | ret => exact hR _ _ _ hq
  | panic c => exact hR _ _ _ hq
  | outgrown => exact hR _ _ _ hq
 exact fun h hh => gW (h1 h hh) (step (step (step key)))
end
section
variable {P : Program} {n : Nat} {env : Env} {m : Mp} {L : List ya} {Q : yd} {K : Env -> List ya -> Prop} {d : Nat} {ty : TypeId} {pos : String} {aft : Array Edge} {gd : Option (Nat × Bool)} {t : TypeId}
theorem Yx {len e sz xn : Nat} {z cs : Lv} {parts : List (Nat × Operand)} {ps : List (Nat × Value)} (hs : wO P t = some (e, sz, xn, z)) (hx : evp env parts = some ps)
  (hsmall : Nat.ble (len * sz) 16777216 = true) (hf : fillS sz (jc (if len * sz = 0 then [] else z) (len * sz)) ps = some cs) (hl : cs.length = len * sz) (hm : len <= maxLen) (hn : Nat.blt d n = true)
  (hk : ∀ b, K ((d, .slice (some ⟨b, 0, none⟩) len len) :: env) (own e sz (some ⟨b, 0, none⟩) len len cs :: L)) : wj P n Q ⟨some d, .buildSlice t len parts.toArray, ty, pos, aft, gd⟩ env m L true K := fun h hh =>
 ay hs hx hsmall hf hn fun b h' hn' hb hl2 => ⟨fun _ => hl2, _, (hh.new (e' := cel b cs e) hl2 hb fun k hk => by have := Nat.eq_of_beq_eq_true hk; subst this; exact hn').celOwn hl hm, hk b⟩
end
end Go.Eng
namespace Go.Proofs.YtijakengkacnlaaGreatDoor
open  Go.Eng
section
variable {m : Mp}
def aK (d : Sd) : Sd := { d with most := min (d.most + 1) 10, mana := min (d.most + 1) 10 }
def yU (g : Gs) : Gs := if g.mov = 0 then { g with a := aK g.a } else { g with b := aK g.b }
theorem VZ (g : Gs) : (yU g).n = vn g.n := by
 unfold yU vn;by_cases h : g.mov = 0
 ·rw [if_pos h, if_pos (show g.n.mov = 0 from h)]; rfl
 ·rw [if_neg h, if_neg (show ¬ g.n.mov = 0 from h)]; rfl
variable {F K : Oa} {fc : Nat} {g : Gs} {kc nf nk : Nat}
theorem EU {k : Nat} (hk : k = 0 \/ k = 1) (hC : vR m (vg K nk kc F nf fc)) (ha : vH m g.a) (hb : vH m g.b) (hg : qj nk g) (hl : -1000000 < g.a.life /\ -1000000 < g.b.life) (ht : g.a.told.xs.length <= 900 /\ g.b.told.xs.length <= 900) (hr : g.a.grav.xs.length <= 900 /\ g.b.grav.xs.length <= 900) :
  CS Tryz.prog 53 [.agg (vg K nk kc F nf fc).toArray, .agg g.v.toArray, .int .i64 (k : Nat)] m [] (fun v L' => ∃ (h : Gs) (v1 v2 v3 v4 v5 v6 v7 : Value), [v1, v2, v3, v4, v5, v6, v7].all uI = true /\ v = .tuple #[.agg h.v.toArray, .agg [v1, v2, v3, v4, v5, v6, v7].toArray, zV 0] /\ h.n = vq g.n k /\ L' = h.owns) := by
 have key : CS Tryz.prog 53 [.agg (vg K nk kc F nf fc).toArray, .agg g.v.toArray, .int .i64 (k : Nat)] m [] (fun v L' => ∃ (h : Gs) (ev : Lv), ev.length = 7 /\ ev.all uI = true /\ v = .tuple #[.agg h.v.toArray, .agg ev.toArray, zV 0] /\ h.n = vq g.n k /\ L' = h.owns) := by
  rcases hk with rfl | rfl
  ·exact ND hC ha hb hg hl.1 ht.1 ht.2 hr.1
  ·exact NC hC ha hb hg hl.2 ht.1 ht.2 hr.2
 refine CS.mono key ?_;rintro v L' ⟨h, ev, h1, h2, h3, h4, h5⟩
 match ev, h1 with
 | [v1, v2, v3, v4, v5, v6, v7], _ => exact ⟨h, v1, v2, v3, v4, v5, v6, v7, h2, h3, h4, h5⟩
theorem Kl (hC : vR m (vg K nk kc F nf fc)) (ha : vH m g.a) (hb : vH m g.b) (hg : qj nk g) (hl : 1 <= g.a.life /\ 1 <= g.b.life) (ht : g.a.told.xs.length <= 900 /\ g.b.told.xs.length <= 900) (hr : g.a.grav.xs.length <= 900 /\ g.b.grav.xs.length <= 900) :
  CS Tryz.prog 21 [.agg (vg K nk kc F nf fc).toArray, .agg g.v.toArray, zV 1000] m [] (fun v L' => ∃ (h : Gs) (A : Oa) (n c : Nat) (es : Lv), v = .tuple #[.agg h.v.toArray, .slice A n c, zV 1000, zV 0] /\ h.n = qy g.n /\ es.length = n * 7 /\ (∀ u ∈ es, uI u = true) /\ n <= 3 /\ L' = own 127 7 A n c es :: h.owns) := by
 skip;have hph := hg.ph
 obtain ⟨k, hk, hmv⟩ : ∃ k : Nat, (k = 0 \/ k = 1) /\ g.mov = (k : Nat) := by
  rcases hg.mv with h | h
  ·exact ⟨0, .inl rfl, h⟩
  ·exact ⟨1, .inr rfl, h⟩
 refine zM [.cell 6 36, .tmp 7, .tmp 8, .tmp 9] Tryz.func21 rfl rfl rfl ?_;refine tr 2 ?_;refine Bx 0 rfl fun b1 => ?_;refine Bx 0 rfl fun b2 => ?_;refine Al 8 qX fun b3 => ?_;refine pe 0 (Kg rfl rfl) ?_;refine pe 7 (dH rfl rfl) ?_;refine Lb 0 zD .h1 ?_;refine ym 1 ?_
 refine zg ((zr E1 rfl (fun m' hm he => JM (fa.blk (he _ (.tail _ (.tail _ (.head _))))) (hC.mono hm) (fa.blk (he _ (.tail _ (.head _)))) (ha.mono hm) (hb.mono hm) hg) rfl ?_)) rfl;rintro _ _ ⟨rfl, rfl⟩;refine vr 9 ?_;refine Lc 0 yn .h1 ?_;refine zg ((zr ZT rfl (fun m' hm he => jj (ha.mono hm) (hb.mono hm)) rfl ?_)) rfl;rintro _ _ ⟨s, rfl, hs, rfl⟩
 have hsp : s.ph = 0 := hs.2.2.1.trans hph;have hso : qj nk s := hs.ok hg;have hsm : s.mov = (k : Nat) := hs.2.1.trans hmv;refine Sg 6 yn .h9 ?_;refine Lb 0 zD .h9 ?_;refine ym 6 ?_
 refine SR (α := Unit) (fun _ => [(2, zV 1000), (3, .pointer (some ⟨b1, 0, none⟩)), (4, .pointer (some ⟨b2, 0, none⟩)), (6, .pointer (some ⟨b3, 0, none⟩))]) (fun _ => s.owns ++ [cel b3 z36 36, cel b2 (yU s).v 36, cel b1 (vg K nk kc F nf fc) 25]) (fun _ => True) ?_ (fun _ _ => ?_)
 ·have hm0 := hso.a.most0;have hm2 := hso.a.most2;have hm0b := hso.b.most0;have hm2b := hso.b.most2;rcases hk with rfl | rfl
  ·rw [show yU s = { s with a := aK s.a } from if_pos hsm];refine tr 2 ?_;refine Lb 1 yH .h9 ?_;refine pe 8 ((zR (i := 0) vO rfl (congrArg (fun x => some (Value.int .i64 x)) hsm) (by decide))) ?_;refine Lb 0 yH .h9 ?_;refine Pa 0 ?_;refine pe 2 (jQ rfl rfl) ?_;refine Sr 7 Yw .h9 .h9 ?_;refine Lb 2 yH .h9 ?_;refine Sr 1 Yw .h9 .h8 ?_;refine Sr 7 co4 .h9 .h3 ?_
   refine Lb 5 dV .h9 ?_
   refine zN (α := Unit) (fun _ => [(2, zV 1000), (3, .pointer (some ⟨b1, 0, none⟩)), (4, .pointer (some ⟨b2, 0, none⟩)), (6, .pointer (some ⟨b3, 0, none⟩)), (64, zV 0), (65, zV 0)]) (fun _ => s.owns ++ [cel b3 z36 36, cel b2 (Gs.v { s with a := aK s.a }) 36, cel b1 (vg K nk kc F nf fc) 25]) (fun _ => True) (fun _ => 0) () ⟨rfl, rfl, rfl, rfl, rfl, rfl, trivial⟩ (zJ.refl _) trivial ?_
   intro _ _;refine tr 2 ?_;refine ym 6 ?_;refine zh ?_;refine zf ?_;exact QR () (zJ.refl _) trivial (by decide)
  ·rw [show yU s = { s with b := aK s.b } from if_neg (by rw [hsm]; decide)];refine tr 2 ?_;refine Lb 1 yH .h9 ?_;refine pe 8 ((zR (i := 1) vO rfl (congrArg (fun x => some (Value.int .i64 x)) hsm) (by decide))) ?_;refine Lb 0 yH .h9 ?_;refine Pa 0 ?_;refine pe 2 (jQ rfl rfl) ?_;refine Sr 7 Yw .h9 (.there .h16) ?_;refine Lb 2 yH .h9 ?_;refine Sr 1 Yw .h9 .h16 ?_
   refine Sr 7 co4 .h9 .h3 ?_;refine Lb 5 dV .h9 ?_
   refine zN (α := Unit) (fun _ => [(2, zV 1000), (3, .pointer (some ⟨b1, 0, none⟩)), (4, .pointer (some ⟨b2, 0, none⟩)), (6, .pointer (some ⟨b3, 0, none⟩)), (64, zV 0), (65, zV 0)]) (fun _ => s.owns ++ [cel b3 z36 36, cel b2 (Gs.v { s with b := aK s.b }) 36, cel b1 (vg K nk kc F nf fc) 25]) (fun _ => True) (fun _ => 0) () ⟨rfl, rfl, rfl, rfl, rfl, rfl, trivial⟩ (zJ.refl _) trivial ?_
   intro _ _;refine tr 2 ?_;refine ym 6 ?_;refine zh ?_;refine zf ?_;exact QR () (zJ.refl _) trivial (by decide)
 ·refine tr 2 ?_;refine Lc 0 gt .h10 ?_;refine Lc 1 yn .h9 ?_;refine Lb 0 yH .h9 ?_
  have sa : ∀ m2, (∀ x ∈ s.a.owns, x.inv m2) -> vH m2 (yU s).a := fun m2 h => by
   have h1 := hs.2.2.2.2.1.sdr ha h;unfold yU
   split
   ·exact ⟨h1.deck, h1.hand, h1.grav, h1.told, h1.l1, h1.l2, h1.l3, h1.l4⟩
   ·exact h1
  have sb : ∀ m2, (∀ x ∈ s.b.owns, x.inv m2) -> vH m2 (yU s).b := fun m2 h => by
   have h1 := hs.2.2.2.2.2.sdr hb h;unfold yU
   split
   ·exact h1
   ·exact ⟨h1.deck, h1.hand, h1.grav, h1.told, h1.l1, h1.l2, h1.l3, h1.l4⟩
  have hrm : (yU s).mov = (k : Nat) := by unfold yU; split <;> exact hsm
  have hsn := Gs.same_n.1 hs
  have hP : GT nk 900 900 (yU s).n := by
   rw [VZ, hsn];exact (hg.p ha hb ht hr).rdy
  have hlv : 1 <= (yU s).a.life /\ 1 <= (yU s).b.life := by
   have e1 : (yU s).a.life = g.a.life := by
    refine Eq.trans ?_ hs.2.2.2.2.1.1;unfold yU; split <;> rfl
   have e2 : (yU s).b.life = g.b.life := by
    refine Eq.trans ?_ hs.2.2.2.2.2.1;unfold yU; split <;> rfl
   rw [e1, e2]; exact hl
  have hro : qj nk (yU s) := hP.ok
  refine zg (zr cl53 (f := 53) (vs := [.agg (vg K nk kc F nf fc).toArray, .agg (yU s).v.toArray, .int .i64 (k : Nat)]) (by rw [<- hrm]; rfl) (fun m2 hm2 he2 => EU hk (hC.mono hm2) (sa m2 fun x hx => he2 x (List.mem_append_left [_, _, _] (List.mem_append_right s.b.owns hx))) (sb m2 fun x hx => he2 x (List.mem_append_left [_, _, _] (List.mem_append_left s.a.owns hx))) hro ⟨by omega, by omega⟩ ⟨hP.a.l4, hP.b.l4⟩ ⟨hP.a.l3, hP.b.l3⟩) rfl ?_) rfl
  rintro _ _ ⟨h, v1, v2, v3, v4, v5, v6, v7, h7, rfl, hh, rfl⟩;refine vr 4 ?_;refine Al 0 qX fun b4 => ?_;refine Al 0 uw fun b5 => ?_;refine Sg 0 yn .h1 ?_;refine zg (yh xS rfl rfl rfl .here rfl h7 ?_) rfl;refine vr 5 ?_;refine wH (L2 := [cel b3 z36 36]) (.cons (.there (.there .h16)) .nil) (fun m' hm he => ?_)
  have k5 : At m' ⟨b5, 0, none⟩ [v1, v2, v3, v4, v5, v6, v7] := At.blk (he _ (.head _));have k4 : At m' ⟨b4, 0, none⟩ h.v := At.blk (he _ (.tail _ (.head _)));have k2 : At m' ⟨b2, 0, none⟩ (yU s).v := At.blk (he (cel b2 (yU s).v 36) (by simp));have k1 : At m' ⟨b1, 0, none⟩ (vg K nk kc F nf fc) := At.blk (he (cel b1 (vg K nk kc F nf fc) 25) (by simp))
  have hP2 : GT nk 901 901 h.n := by rw [hh]; exact hP.draw hlv
  have h2a : vH m' h.a := aH (fun x hx => he x (.tail _ (.tail _ (List.mem_append_left (s.owns ++ [cel b2 (yU s).v 36, cel b1 (vg K nk kc F nf fc) 25]) (List.mem_append_right h.b.owns hx))))) hP2.a.l1 hP2.a.l2 (Nat.le_trans hP2.a.l3 (by decide)) (Nat.le_trans hP2.a.l4 (by decide))
  have h2b : vH m' h.b := aH (fun x hx => he x (.tail _ (.tail _ (List.mem_append_left (s.owns ++ [cel b2 (yU s).v 36, cel b1 (vg K nk kc F nf fc) 25]) (List.mem_append_left h.a.owns hx))))) hP2.b.l1 hP2.b.l2 (Nat.le_trans hP2.b.l3 (by decide)) (Nat.le_trans hP2.b.l4 (by decide))
  have hun : mc m' ⟨b4, 0 + 7 + k * 8 + 6, none⟩ = some xK := by
   rcases hk with rfl | rfl
   ·exact k4 13 _ rfl
   ·exact k4 21 _ rfl
  have hmv2 : mc m' ⟨b2, 0 + 1, none⟩ = some (.int .i64 (k : Nat)) := by rw [<- hrm]; exact k2 1 _ rfl
  have htn : mc m' ⟨b2, 0 + 0, none⟩ = some (zV (yU s).turn) := k2 0 _ rfl;have hk2 : k < 2 := by omega
  refine tr 2 ?_;refine ym 14 ?_;refine Lo 1 yH rfl hmv2 ?_;refine pe 1 ((zR (i := k) vO rfl rfl hk2)) ?_;refine Lo 5 dV rfl hun ?_
  refine zN (α := Unit) (fun _ => [(2, zV 1000), (3, .pointer (some ⟨b1, 0, none⟩)), (4, .pointer (some ⟨b2, 0, none⟩)), (6, .pointer (some ⟨b3, 0, none⟩)), (12, .pointer (some ⟨b4, 0, none⟩)), (13, .pointer (some ⟨b5, 0, none⟩)), (15, xK), (95, zV 0), (96, zV 0)]) (fun _ => [cel b3 z36 36]) (fun _ => True) (fun _ => 0) () ⟨rfl, rfl, rfl, rfl, rfl, rfl, rfl, rfl, rfl, trivial⟩ (zJ.refl _) trivial ?_
  intro _ _;refine tr 2 ?_;refine ym 6 ?_;refine zh ?_;refine zf ?_;refine qt 3 ?_;refine La 0 gt k1 ?_;refine La 2 yn k4 ?_;refine zg ((zr cl54 rfl (fun m2 hm2 he2 => DG (hC.mono (hm.trans hm2)) (h2a.mono hm2) (h2b.mono hm2) hP2.ok) rfl ?_)) rfl;rintro _ _ ⟨w, A, n, c, es, rfl, hw, hel, he1, hn, rfl⟩;refine vr 5 ?_;refine Al 0 qX fun b6 => ?_
  refine Sg 9 yn .here ?_;refine ym 6 ?_;refine wH (L2 := w.owns ++ [cel b3 z36 36]) (.cons .h2 (.cons .h2 (.cons .h2 (.cons .h2 (.cons .h2 (.cons .h2 (.cons .h2 (.cons .h2 .k2)))))))) (fun m3 hm3 he3 => ?_);have k6 : At m3 ⟨b6, 0, none⟩ w.v := At.blk (he3 _ (.head _));have hrd : Rd m3 A es := Own.rd (he3 (own 127 7 A n c es) (.tail _ (.head _)));have q5 := k5.mono hm3
  have qm := yA hm3 hmv2;have qt := yA hm3 htn;refine Db (sq [0, 1, 2, 3, 4, 5, 6, 8, 10, 107, 109, 111, 12, 13, 14] .done) ?_;refine Vr 1 rfl (yg yn rfl rfl k6) ?_;refine Vr 1 rfl (zw yH rfl qm) ?_;refine Vr 0 rfl (zw yH rfl qt) ?_;refine Vb 0 rfl (zW uw bJ rfl rfl) ?_;refine Vr 2 rfl (yg xS rfl rfl q5) ?_
  refine zO rfl (Yx VQ rfl rfl rfl rfl (by decide) rfl (fun b9 => ?_)) rfl;skip;refine zO rfl (up (A2 := A) (j := n) (c2 := c) (news := es) VQ rfl rfl rfl rfl (fun _ _ => .here) (fun h hs => hrd.mono hs.base) hel he1 (by simp only [maxLen]; omega) (by omega) rfl (fun A' c' => ?_)) rfl;refine zO rfl (yh yn rfl rfl rfl .h9 rfl rfl ?_) rfl
  refine vB 3 ?_;refine Vn 2 ?_
  have hE : ∀ u ∈ ([.int .i8 0, .int .i64 (k : Nat), zV 0, zV 0, zV 0, zV (yU s).turn, xK] ++ [v1, v2, v3, v4, v5, v6, v7]) ++ es, uI u = true := by
   intro u hu;rcases List.mem_append.1 hu with h1 | h1
   ·rcases List.mem_append.1 h1 with h2 | h2
    ·exact List.all_eq_true.1 (show ([.int .i8 0, .int .i64 (k : Nat), zV 0, zV 0, zV 0, zV (yU s).turn, xK] : Lv).all uI = true from rfl) u h2
    ·exact List.all_eq_true.1 h7 u h2
   ·exact he1 u h1
  exact wJ (hm.trans hm3) [_, _, _, _] ⟨⟨b3, _, _, _, rfl, .h9, .inr ⟨yn, rfl⟩⟩, rfl, rfl, rfl, trivial⟩ (own 127 7 A' (2 + n) c' (([.int .i8 0, .int .i64 (k : Nat), zV 0, zV 0, zV 0, zV (yU s).turn, xK] ++ [v1, v2, v3, v4, v5, v6, v7]) ++ es) :: w.owns) (.cons .here (.cons .here (.cons .here (.cons .here (.cons .here (.cons .here (.cons .here .pp))))))) ⟨w, A', 2 + n, c', _, rfl, by
   rw [hw, hh, VZ, hsn, qy, show g.n.mov.toNat = k from by rw [show g.n.mov = g.mov from rfl, hmv]; rfl], by rw [List.length_append, hel]; simp; omega, hE, by omega, rfl⟩
end
end Go.Proofs.YtijakengkacnlaaGreatDoor
namespace Go.Eng
open  Go.Eng
section
variable {P : Program} {n : Nat} {env : Env} {m : Mp} {L L1 L2 : List ya} {Q : yd}
theorem SP {α : Type} {a b : Code} (hT : fQ L L2 L1) (S : α -> Env) (LL : α -> List ya) (F : α -> Prop)
  (h1 : ∀ m', Le m m' -> HE L1 m' -> TS P n a env m' L2 (vX m' S LL F (fun _ => 0) 1 (fun _ _ _ => False)))
  (h2 : ∀ y, F y -> TS P n b (S y) m (LL y ++ L1) Q) : TS P n a env m L (xJ P n b Q) := fun h hh => by
 obtain ⟨m', g1, g2, g3, g4⟩ := (HS.takes hT hh).part;refine gW (h1 m' g1 g2 h g3) fun e env' h' hq => ?_;cases e with
 | normal => obtain ⟨y, hs, ⟨hF, hy⟩, _⟩ := hq; exact Z8 (S y) hs (h2 y hF h' (g4 hy))
 | _ => exact hq.elim
end
end Go.Eng
namespace Go.Proofs.YtijakengkacnlaaGreatDoor
open  Go.Eng
section
variable {m : Mp}
theorem F0 {pb nk kc nf fc ne ce : Nat} {K F Ae : Oa} {g : Gs} {p fu : Int} {es : Lv} (hC : vR m (vg K nk kc F nf fc)) (ha : vH m g.a) (hb : vH m g.b) (hg : qj nk g) (hl : 1 <= g.a.life /\ 1 <= g.b.life) (ht : g.a.told.xs.length <= 900 /\ g.b.told.xs.length <= 900) (hr : g.a.grav.xs.length <= 900 /\ g.b.grav.xs.length <= 900) (hn : ne <= 1000) (hu : g.turn <= 4000) :
  CS Tryz.prog 27 [.pointer (some ⟨pb, 0, none⟩)] m [cel pb (PK (vg K nk kc F nf fc) g p Ae ne ce fu) 86, own 127 7 Ae ne ce es] (fun v L' => v = zV 0 /\ ∃ (h : Gs) (A' : Oa) (n' c' : Nat) (es' : Lv), h.n = qy { g.n with turn := g.turn + 1, mov := 1 - g.mov } /\ L' = own 127 7 A' n' c' es' :: cel pb (PK (vg K nk kc F nf fc) h p A' n' c' fu) 86 :: h.owns) := by
 skip;have hph := hg.ph;have hmv := hg.mv;have ht1 := hg.t1;refine zM [.tmp 2] Tryz.func27 rfl rfl rfl ?_;refine tr 13 ?_;refine Lb 0 zD .here ?_;refine ym 10 ?_;refine Lb 0 yH .here ?_;refine ym 13 ?_;refine Lb 0 yH .here ?_;refine Pa 3 ?_;refine Sr 9 Yw .here .h2 ?_;refine Lb 0 yH .here ?_;refine pe 3 (ke rfl rfl (qx (by omega) (by omega))) ?_;refine Sr 3 Yw .here .h3 ?_
 have hg2 : qj nk { g with turn := g.turn + 1, mov := 1 - g.mov } := ⟨by dsimp only; omega, by dsimp only; omega, by dsimp only; omega, hg.ph, hg.res, hg.a, hg.b⟩
 refine SP (α := Gs × Oa × Nat × Nat × Lv × Nat) .nil (fun y => [(2, zV 0), (0, .pointer (some ⟨pb, 0, none⟩)), (3, .pointer (some ⟨y.2.2.2.2.2, 0, none⟩)), (4, .slice y.2.1 y.2.2.1 y.2.2.2.1), (6, zV 0)]) (fun y => cel y.2.2.2.2.2 y.1.v 36 :: own 127 7 y.2.1 y.2.2.1 y.2.2.2.1 y.2.2.2.2.1 :: y.1.owns) (fun y => y.1.n = qy { g.n with turn := g.turn + 1, mov := 1 - g.mov } /\ y.2.2.2.2.1.length = y.2.2.1 * 7 /\ (∀ u ∈ y.2.2.2.2.1, uI u = true) /\ y.2.2.1 <= 3) (fun m' hm he => ?_) ?_
 ·have hP := At.blk (he _ (.head _))
  have hB2 : At m' ⟨pb, 0 + 0, none⟩ (vg K nk kc F nf fc) := by
   have := hP.sub 0 2;rwa [Addr.add_lit] at this
  have hG2 : At m' ⟨pb, 0 + 2, none⟩ (Gs.v { g with turn := g.turn + 1, mov := 1 - g.mov }) := by
   have := hP.sub 2 23;rwa [Addr.add_lit] at this
  refine Db (sq [0, 1, 2, 3, 4, 5, 6, 7] (.fork (sq [108, 9, 10, 11, 12, 13, 114, 115, 16, 17, 18] .done) (sq [114, 108, 9, 10, 11, 12, 13, 115, 16, 17, 18] .done))) ?_;refine vB 3 ?_;refine Vr 3 rfl (yg gt rfl rfl hB2) ?_;refine Vr 0 rfl (yg yn rfl rfl hG2) ?_;refine On ?_ ?_
  ·refine zO rfl ((zr E2 rfl (fun m2 hm2 he2 => Kl (g := { g with turn := g.turn + 1, mov := 1 - g.mov }) (hC.mono (hm.trans hm2)) (ha.mono (hm.trans hm2)) (hb.mono (hm.trans hm2)) hg2 hl ht hr) rfl ?_)) rfl;rintro _ _ ⟨h, A, n, c, es2, rfl, hh, hel, he1, hn3, rfl⟩;refine vB 5 ?_;refine zO rfl (Ve qX rfl (fun b1 => ?_)) rfl
   refine zO rfl (yh yn rfl rfl rfl .here rfl rfl ?_) rfl;refine vB 3 ?_;refine Vn 0 ?_;exact QR ((h, A, n, c, es2, b1) : Gs × Oa × Nat × Nat × Lv × Nat) (zJ.refl _) ⟨hh, hel, he1, hn3⟩ (by decide)
  ·refine zO rfl (Ve qX rfl (fun b1 => ?_)) rfl;refine zO rfl ((zr E2 rfl (fun m2 hm2 he2 => Kl (g := { g with turn := g.turn + 1, mov := 1 - g.mov }) (hC.mono (hm.trans hm2)) (ha.mono (hm.trans hm2)) (hb.mono (hm.trans hm2)) hg2 hl ht hr) rfl ?_)) rfl;rintro _ _ ⟨h, A, n, c, es2, rfl, hh, hel, he1, hn3, rfl⟩;refine vB 5 ?_
   refine zO rfl (yh yn rfl rfl rfl .h9 rfl rfl ?_) rfl;refine vB 3 ?_;refine Vn 0 ?_;exact QR ((h, A, n, c, es2, b1) : Gs × Oa × Nat × Nat × Lv × Nat) (.cons .h9 (zJ.refl _)) ⟨hh, hel, he1, hn3⟩ (by decide)
 ·rintro ⟨h, A, n, c, es2, b⟩ ⟨hh, hel, he1, hn3⟩;dsimp only at hh hel he1 hn3 ⊢;refine tr 3 ?_;refine Lc 2 yn .here ?_
  refine zg ((fH cl62 rfl (.cons .h10 .k10) (fun m2 hm2 he2 => FA (g := { g with turn := g.turn + 1, mov := 1 - g.mov }) (h := h) (nk := nk) (kc := kc) (nf := nf) (fc := fc) (K := K) (F := F) (p := p) (fu := fu) (es := es) (ne := ne) (ce := ce) (Ae := Ae) (Own.rd (he2 (own 127 7 A n c es2) (.tail _ (.head _)))) hel he1 (by omega) (by omega)) rfl ?_)) rfl;rintro _ _ ⟨rfl, A', c', rfl⟩
  refine vr 4 ?_;exact zB [_] ⟨rfl, trivial⟩ (own 127 7 A' (ne + n) c' (es ++ es2) :: cel pb (PK (vg K nk kc F nf fc) h p A' (ne + n) c' fu) 86 :: h.owns) (.cons .here (.cons .here (.cons .h2 (.cons .h2 (.cons .h2 (.cons .h2 (.cons .h2 (.cons .h2 (.cons .h2 .p2))))))))) ⟨rfl, h, A', ne + n, c', es ++ es2, hh, rfl⟩
end
section
variable {m : Mp}
abbrev nilL : Sl := ⟨none, 0, []⟩
def untold (g : Gs) : Gs := { g with a := { g.a with told := nilL }, b := { g.b with told := nilL } }
def Um (g : bX) : bX := qy { g with turn := g.turn + 1, mov := 1 - g.mov, a := { g.a with told := [] }, b := { g.b with told := [] } }
theorem gu.nilL : gu m nilL := ⟨Rd.nil _ _, Nat.le_refl _, fun _ => rfl⟩
variable {d : Sd}
theorem vH.untold (h : vH m d) : vH m { d with told := nilL } := ⟨h.deck, h.hand, h.grav, gu.nilL, h.l1, h.l2, h.l3, Nat.zero_le _⟩
variable {nk : Nat}
theorem dj.untold (h : dj nk d) : dj nk { d with told := nilL } := ⟨h.life1, h.life2, h.mana0, h.mana2, h.most0, h.most2, h.deck, h.hand, h.grav, fun x hx => by cases hx⟩
theorem Qy {P : Program} {n : Nat} {env : Env} {dst : Option Tmp} {ty : TypeId} {pos : String} {aft : Array Edge} {gd : Option (Nat × Bool)} {t k e sz b o i : Nat} {kd : IntKind} {x y : Operand} (har : yi P t = some (k, e, sz)) (hx : ev env x = some (.pointer (some ⟨b, o, none⟩))) (hy : ev env y = some (.int kd (i : Nat))) (hi : i < k) :
  zP P n ⟨dst, .indexAddr t x y, ty, pos, aft, gd⟩ env (.pointer (some ⟨b, o + i * sz, none⟩)) := by
 have := zQ (P := P) (n := n) (dst := dst) (ty := ty) (pos := pos) (aft := aft) (gd := gd) har hx hy (by omega) (by omega);rwa [Int.toNat_natCast, Addr.add_lit] at this
theorem Do7 {g : Gs} {kc nf fc : Nat} {K F : Oa} (hC : vR m (vg K nk kc F nf fc)) (ha : vH m g.a) (hb : vH m g.b) (hg : qj nk g) (hl : 1 <= g.a.life /\ 1 <= g.b.life) (hr : g.a.grav.xs.length <= 900 /\ g.b.grav.xs.length <= 900) (hu : g.turn <= 4000) :
  CS Tryz.prog 7 [.agg (vg K nk kc F nf fc).toArray, .agg g.v.toArray, .agg (XE g.mov).toArray] m [] (fun v L' => ∃ (h : Gs) (A : Oa) (n c : Nat), v = .tuple #[.agg h.v.toArray, .slice A n c, zV 0] /\ h.n = Um g.n /\ L' = h.owns) := by
 skip;refine zM [.cell 6 36, .tmp 7, .tmp 8] Tryz.func7 rfl rfl rfl ?_;refine tr 2 ?_;refine Bx 0 rfl fun b1 => ?_;refine Bx 0 rfl fun b2 => ?_;refine Bx 0 rfl fun b3 => ?_;refine Al 7 qX fun b4 => ?_;refine Lc 0 gt .h3 ?_;refine Lc 0 yn .h2 ?_;refine Lc 0 zae .h1 ?_;refine zg ((zr cl22 rfl (fun m' hm he => zao (hC.mono hm) (ha.mono hm) (hb.mono hm) hg) rfl ?_)) rfl
 rintro _ _ ⟨rfl, rfl⟩;refine vr 6 ?_;refine ym 6 ?_;refine wH (L2 := [cel b4 z36 36]) .k0 (fun m' hm he => ?_);have k3 : At m' ⟨b3, 0, none⟩ (XE g.mov) := At.blk (he _ (.head _));have k2 : At m' ⟨b2, 0, none⟩ g.v := At.blk (he _ (.tail _ (.head _)));have k1 : At m' ⟨b1, 0, none⟩ (vg K nk kc F nf fc) := At.blk (he _ (.tail _ (.tail _ (.head _))))
 refine Db (sq [0, 1, 3, 102, 4, 105, 6] .done) ?_;refine Vr 0 rfl (yg gt rfl rfl k1) ?_;refine Vr 0 rfl (yg yn rfl rfl k2) ?_;refine Vr 0 rfl (yg zae rfl rfl k3) ?_;refine zO rfl ((zr ZT rfl (fun m2 hm2 he2 => jj (ha.mono (hm.trans hm2)) (hb.mono (hm.trans hm2))) rfl ?_)) rfl;rintro _ _ ⟨s, rfl, hs, rfl⟩;skip
 refine Vb 0 rfl (zW (cs := PK (vg K nk kc F nf fc) s g.mov none 0 0 1000) zl86 pl86 rfl (by kernel_rfl)) ?_;refine zO rfl (Fp rfl rfl (fun b5 => ?_)) rfl;refine vB 1 ?_;refine Vn 2 ?_;have hC2 := hC.mono hm;have hso : qj nk s := hs.ok hg;refine wH (L2 := [cel b5 (PK (vg K nk kc F nf fc) s g.mov none 0 0 1000) 86, cel b4 z36 36]) (.cons .here .k8) (fun m3 hm3 he3 => ?_)
 have h2a : vH m3 s.a := hs.2.2.2.2.1.sdr ha fun x hx => he3 x (List.mem_append_right s.b.owns hx);have h2b : vH m3 s.b := hs.2.2.2.2.2.sdr hb fun x hx => he3 x (List.mem_append_left s.a.owns hx);have q3 : mc m3 ⟨b3, 0 + 0, none⟩ = some (.int .i8 3) := (k3.mono hm3) 0 _ rfl;refine uY 127 7 ?_;refine Db (sq [0, 1, 2, 3, 4, 5, 6, 8, 9, 10, 107, 11, 12, 113] .done) ?_;refine vB 5 ?_
 refine Vb 4 rfl ((zR (i := 0) vO rfl rfl (by decide))) ?_;refine zO rfl (yx jP rfl rfl rfl .h1 .h16 ?_) rfl;refine Vb 1 rfl ((zR (i := 1) vO rfl rfl (by decide))) ?_;refine zO rfl (yx jP rfl rfl rfl .h1 (.there (.there (.there (.there (.there (.there (.there (.there .h16)))))))) ?_) rfl;refine Vn 13 ?_;refine pe 0 (xa A4 D4 rfl rfl) ?_
 refine Al 0 D4 fun b6 => ?_;refine Sg 4 ag88 .here ?_;have hpl : (untold s).a.told.xs.length <= 900 /\ (untold s).b.told.xs.length <= 900 := ⟨Nat.zero_le _, Nat.zero_le _⟩;have huo : qj nk (untold s) := ⟨hso.t1, hso.t2, hso.mv, hso.ph, hso.res, hso.a.untold, hso.b.untold⟩
 have hul : 1 <= (untold s).a.life /\ 1 <= (untold s).b.life := by
  rw [show (untold s).a.life = g.a.life from hs.2.2.2.2.1.1, show (untold s).b.life = g.b.life from hs.2.2.2.2.2.1]; exact hl
 have hur : (untold s).a.grav.xs.length <= 900 /\ (untold s).b.grav.xs.length <= 900 := by
  rw [show (untold s).a.grav.xs = g.a.grav.xs from hs.2.2.2.2.1.2.2.2.2.2.1, show (untold s).b.grav.xs = g.b.grav.xs from hs.2.2.2.2.2.2.2.2.2.2.1]; exact hr
 have hut : (untold s).turn <= 4000 := by rw [show (untold s).turn = g.turn from hs.1]; exact hu
 refine tr 2 ?_;refine Lo 0 zD rfl q3 ?_;refine pe 0 ((Qy (i := 3) A4 rfl rfl (by decide))) ?_;refine Lb 0 sg87 .here ?_
 refine zg ((Qw cl27 (p := [.pointer (some ⟨b5, 0, none⟩)]) (q := []) rfl rfl (.cons .h2 .k1) (fun m4 hm4 he4 => F0 (g := untold s) (p := g.mov) (fu := 1000) (hC2.mono (hm3.trans hm4)) (h2a.untold.mono hm4) (h2b.untold.mono hm4) huo hul hpl hur (by decide) hut) rfl ?_)) rfl;rintro _ _ ⟨rfl, h, A', n', c', es', hh, rfl⟩;refine vr 6 ?_;refine ym 6 ?_
 refine wH (L2 := h.owns ++ [cel b4 z36 36]) (.cons .h2 (.cons .h2 (.cons .h2 (.cons .h2 (.cons .h2 (.cons .h2 (.cons .h2 (.cons .h2 .k3)))))))) (fun m5 hm5 he5 => ?_);have hP := At.blk (he5 (cel b5 (PK (vg K nk kc F nf fc) h g.mov A' n' c' 1000) 86) (.tail _ (.head _)))
 have hG2 : At m5 ⟨b5, 0 + 2, none⟩ h.v := by
  have := hP.sub 2 23;rwa [Addr.add_lit] at this
 have hE2 : mc m5 ⟨b5, 0 + 31, none⟩ = some (.slice A' n' c') := hP 31 _ rfl;refine Db (sq [0, 1, 2, 3, 4, 5, 6, 7, 108, 9, 10] .done) ?_;refine vB 3 ?_;refine Vr 3 rfl (yg yn rfl rfl hG2) ?_;refine Vr 0 rfl (zw Pb rfl hE2) ?_;refine zO rfl (yh yn rfl rfl rfl .h8 rfl rfl ?_) rfl;refine vB 2 ?_;refine Vn 2 ?_
 exact wJ ((hm.trans hm3).trans hm5) [_, _, _] ⟨⟨b4, _, _, _, rfl, .h8, .inr ⟨yn, rfl⟩⟩, rfl, rfl, trivial⟩ h.owns (.cons .here (.cons .here (.cons .here (.cons .here (.cons .here (.cons .here .pp)))))) ⟨h, A', n', c', rfl, by
  rw [hh, <- Gs.same_n.1 hs]
  rfl, rfl⟩
end
section
variable {m : Mp}
def gT (nk : Nat) (x : Int) : Bool := decide (x < 0) || decide ((nk : Int) <= x)
theorem AZ {x : Int} {nk kc bp : Nat} {K : Oa} (h1 : mc m ⟨bp, 0, none⟩ = some (.slice K nk kc)) : CS Tryz.prog 18 [zV x, .pointer (some ⟨bp, 0, none⟩)] m [] (fun v L' => v = .bool (gT nk x) /\ L' = []) := by
 refine zM [.tmp 3] Tryz.func18 rfl rfl rfl ?_;by_cases h0 : x < 0
 ·refine tr 8 ?_;refine yy 11 ?_;exact zB [_] ⟨rfl, trivial⟩ [] (.nil _) ⟨by rw [gT, decide_eq_true h0]; rfl, rfl⟩
 ·by_cases h2 : (nk : Int) <= x
  ·refine tr 8 ?_;refine zA 3 ?_;refine Lo 1 QU rfl h1 ?_;refine yy 5 ?_;exact zB [_] ⟨rfl, trivial⟩ [] (.nil _) ⟨by rw [gT, decide_eq_false h0, decide_eq_true h2]; rfl, rfl⟩
  ·refine tr 8 ?_;refine zA 3 ?_;refine Lo 1 QU rfl h1 ?_;refine zA 5 ?_;exact zB [_] ⟨rfl, trivial⟩ [] (.nil _) ⟨by rw [gT, decide_eq_false h0, decide_eq_false h2]; rfl, rfl⟩
theorem Nm {a : Nat} : CS Tryz.prog 51 [xK, .pointer (some ⟨a, 0, none⟩)] m [] (fun v L' => ∃ b1 b2, v = .func (.func 99) #[] #[.pointer (some ⟨b1, 0, none⟩), .pointer (some ⟨b2, 0, none⟩)] /\ L' = [cel b2 [.pointer (some ⟨a, 0, none⟩)] 119, cel b1 [xK] 26]) := by
 refine zM [.tmp 4] Tryz.func51 rfl rfl rfl ?_;refine tr 2 ?_;refine Bx 0 rfl fun b1 => ?_;refine Bx 10 rfl fun b2 => ?_;exact zB [_] ⟨rfl, trivial⟩ [_, _] (zJ.refl _) ⟨b1, b2, rfl, rfl⟩
theorem F8 {b1 : Nat} {y : Value} (h : mc m ⟨b1, 0, none⟩ = some xK) : CS Tryz.prog 99 [.pointer (some ⟨b1, 0, none⟩), y] m [] (fun v L' => v = zV 0 /\ L' = []) := by
 refine zM [.tmp 2] Tryz.func99 rfl rfl rfl ?_;refine tr 8 ?_;refine Lo 1 wg rfl h ?_;refine NI 10 ?_;exact zB [_] ⟨rfl, trivial⟩ [] (.nil _) ⟨rfl, rfl⟩
theorem XY {s : Sl} (hA : gu m s) (hl : s.xs.length <= 1000) : CS Tryz.prog 19 [s.v, xK, zV 0] m [] (fun v L' => ∃ s' : Sl, v = .tuple #[s'.v, zV 0] /\ s'.xs.length = s.xs.length /\ (∀ x ∈ s'.xs, x ∈ s.xs) /\ L' = [s'.own]) := by
 skip;refine zM [.tmp 6, .tmp 7] Tryz.func19 rfl rfl rfl ?_;refine tr 8 ?_;refine Al 0 zl3 fun b1 => ?_;refine Sr 7 Yw .here .here ?_;refine ym 8 ?_;refine zg ((zr cl51 rfl (fun m' hm he => Nm) rfl ?_)) rfl;rintro _ _ ⟨c1, c2, rfl, rfl⟩;refine vr 4 ?_;refine wH (L2 := []) .nil (fun m' hm he => ?_)
 have k0 : mc m' ⟨c1, 0, none⟩ = some xK := zy (he _ (.tail _ (.head _))) rfl;have k1 : mc m' ⟨b1, 0, none⟩ = some (zV 0) := zy (he _ (.tail _ (.tail _ (.head _)))) rfl;refine tr 2 ?_;refine zg ((zr ah rfl (fun m2 hm2 he2 => vz (s := s) (hA.mono (hm.trans hm2)) (by omega)) rfl ?_)) rfl;rintro _ _ ⟨⟨A, c, xs⟩, rfl, hx, rfl⟩;dsimp only at hx;subst hx
 dsimp only [Sl.v, Sl.own, Sl.vs];refine vr 8 ?_;refine pe 4 ((ke rfl rfl (qx (by omega) (by omega)))) ?_
 refine zN (α := Int × List Int) (fun y => [(8, .pointer (some ⟨b1, 0, none⟩)), (9, .func (.func 99) #[] #[.pointer (some ⟨c1, 0, none⟩), .pointer (some ⟨c2, 0, none⟩)]), (10, .slice A s.xs.length c), (11, zV y.1)]) (fun y => [own 3 1 A s.xs.length c (y.2.map zV)]) (fun y => -1 <= y.1 /\ y.1 < s.xs.length /\ y.2.length = s.xs.length /\ ∀ x ∈ y.2, x ∈ s.xs) (fun y => y.1.toNat) ((s.xs.length : Int) - 1, s.xs) ⟨rfl, rfl, rfl, rfl, trivial⟩ (zJ.refl _) ⟨by dsimp only; omega, by dsimp only; omega, rfl, fun x h => h⟩ ?_
 rintro ⟨i, xs⟩ ⟨h1, h2, h3, h4⟩;dsimp only at h1 h2 h3 h4 ⊢;by_cases hi : 0 < i
 ·obtain ⟨j, rfl⟩ : ∃ j : Nat, i = (j : Nat) := ⟨i.toNat, by omega⟩;refine am (vo .here (by rw [List.length_map]; omega)) (fun hAs => ?_);obtain ⟨x0, hx0⟩ : ∃ x, xs[0]? = some x := ⟨_, List.getElem?_eq_getElem (by omega)⟩;obtain ⟨xj, hxj⟩ : ∃ x, xs[j]? = some x := ⟨_, List.getElem?_eq_getElem (by omega)⟩;have g0 : (xs.map zV)[0]? = some (zV x0) := by rw [List.getElem?_map, hx0]; rfl
  have gj : (xs.map zV)[j]? = some (zV xj) := by rw [List.getElem?_map, hxj]; rfl
  refine tr 4 ?_;refine yy 10 ?_;refine zg ((kR (p := []) (q := [.pointer (some ⟨c1, 0, none⟩), .pointer (some ⟨c2, 0, none⟩)]) cl99 rfl rfl (fun m2 hm2 he2 => F8 (yA hm2 k0)) rfl ?_)) rfl;rintro _ _ ⟨rfl, rfl⟩;refine vr 1 ?_;refine Pa 0 ?_
  refine zg ((zr cl50 rfl (fun m2 hm2 he2 => Bh (a := 0) (b := ((j + 1 : Nat) : Int)) (by omega) (by omega) (by omega) (by omega)) rfl ?_)) rfl;rintro _ _ ⟨rfl, rfl⟩;rw [Int.zero_emod];refine vr 3 ?_;refine yf (sT [0, 1, 2, 3, 4, 5, 6, 8, 9, 10, 107, 111, 12, 313, 14, 315] .done) mixed (by kernel_rfl) (fun _ _ _ _ hq => hq) ?_;refine vt 6 ?_
  refine Vt 2 rfl (kT ac rfl rfl hAs (by omega) (by omega)) ?_;refine Vt 0 rfl (yE ac rfl rfl hAs (by omega)) ?_;refine Vu 0 rfl (kQ yH rfl .here g0) ?_;refine Vu 0 rfl (kQ yH rfl .here gj) ?_;refine Vt 0 rfl (yE ac rfl rfl hAs (by omega)) ?_;refine z8 rfl rfl (Qv Yw rfl rfl rfl .here (by first | assumption | omega) ?_) rfl
  refine Vt 0 rfl (kT ac rfl rfl hAs (by omega) (by omega)) ?_;refine z8 rfl rfl (Qv Yw rfl rfl rfl .here (by first | assumption | omega) ?_) rfl;refine Vm 4 ?_;refine pe 2 (ke rfl rfl (qx (by omega) (by omega))) ?_
  refine QR ((j : Int) - 1, (xs.set j x0).set 0 xj) ?_ ⟨by dsimp only; omega, by dsimp only; omega, by rw [List.length_set, List.length_set, h3], fun x hx => ?_⟩ (by dsimp only; omega)
  ·rw [List.map_set, List.map_set];exact zJ.refl _
  ·rcases List.mem_or_eq_of_mem_set hx with hx | rfl
   ·rcases List.mem_or_eq_of_mem_set hx with hx | rfl
    ·exact h4 x hx
    ·exact h4 _ (List.mem_of_getElem? hx0)
   ·exact h4 _ (List.mem_of_getElem? hxj)
 ·refine tr 4 ?_;refine zA 5 ?_;refine zh ?_;refine zf ?_;refine qt 2 ?_;refine yf (sT [0, 2, 101, 3] .done) mixed (by kernel_rfl) (fun _ _ _ _ hq => hq) ?_;refine vt 2 ?_;refine Vu 1 rfl (zw yH rfl k1) ?_;refine Vm 2 ?_;exact wJ hm [_, _] ⟨rfl, rfl, trivial⟩ [Sl.own ⟨A, c, xs⟩] (by rw [<- h3]; exact zJ.refl _) ⟨⟨A, c, xs⟩, by rw [<- h3]; rfl, h3, h4, rfl⟩
end
end Go.Proofs.YtijakengkacnlaaGreatDoor
