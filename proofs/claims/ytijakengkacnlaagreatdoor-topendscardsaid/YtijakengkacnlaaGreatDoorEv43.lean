/- Parts of the proof: contracts of functions of the program, and plain lemmas. No condition. -/
import Derived.Test.YtijakengkacnlaaGreatDoorEv29
import Derived.Test.YtijakengkacnlaaGreatDoorFacts
import Derived.Test.YtijakengkacnlaaGreatDoorEng2
import Derived.Shelf.SlIterI.Nil
import Derived.Shelf.SortM.Plain
import Derived.Shelf.SortM.SortNone
import Derived.Test.YtijakengkacnlaaGreatDoorProg
set_option linter.all false
noncomputable section
namespace Go.Ev
open Go.Eng
def fI (i : Int) (k : Int -> Rs) : Rs := Int.rec (motive := fun _ => Rs) (fun n => fN n fun n => k (.ofNat n)) (fun n => fN n fun n => k (.negSucc n)) i
end Go.Ev
end
namespace Go.Ev
open Go.Eng
theorem UV (i : Int) (k : Int -> Rs) : fI i k = k i := by
 cases i with
 | ofNat n => exact ji n fun n => k (.ofNat n)
 | negSucc n => exact ji n fun n => k (.negSucc n)
theorem kB_eq' (k : KV) (b : Bool) : kB k b = k (.bool b) := by cases b <;> rfl
section
variable {P : Program}
variable {s : St}
theorem Ms.grow {x : Fx} {B : Mp} {I : As} {w : World} (M : Ms P x B I s w) {h' : zZ} (d' : Nat) (hl : Le (mp w.heap) (mp h')) : Ms P x B I s (W x h' d') :=
 ⟨M.gl, rfl, ⟨fun i o y h1 h2 => (M.hp.obj i o y h1 h2).mono (dp.refl I) hl, M.hp.sep, M.hp.new, M.hp.out, M.hp.base.trans hl, M.hp.fre⟩⟩
theorem wv.pure {g : Nat} {vs : Lv} {v : Value} (hc : ∀ m, CS P g vs m [] (fun u L' => u = v /\ L' = [])) (hs : ∀ {I us}, xk I vs us -> us = vs) (hv : ∀ J, Rl J v v) : wv P s g vs v s := fun {x B I w} M us hus => by
 cases hs hus;have hwd := M.wd;have := hc (mp w.heap) w.heap (HS.nil (Le.refl _)) x w.drawn;rw [<- hwd] at this;refine this.mono ?_;rintro e w' ⟨u, h', d', rfl, rfl, L', ⟨rfl, rfl⟩, hh⟩;exact ⟨u, I, rfl, wm.refl I s, hv I, M.grow d' hh.base⟩
end
end Go.Ev
namespace Go.Proofs.YtijakengkacnlaaGreatDoor
open Go.Eng
set_option maxRecDepth 100000
variable {m : Mp}
abbrev wU (a : Int) : Int := IntKind.u64.wrap a
abbrev Zp (a : Int) : Int := bits .and .u64 a 4294967295
abbrev gi (a : Int) : Int := a / 2 ^ (32 : Int).toNat
def mT (a b : Int) : Int := wU (wU (gi a * Zp b) + gi (wU (Zp a * Zp b)))
def TI (a b : Int) : Int := wU (wU (wU (gi a * gi b) + gi (mT a b)) + gi (wU (Zp (mT a b) + wU (Zp a * gi b))))
def P1 (a b : Int) : Int := wU (a * b)
variable {a b : Int}
set_option maxHeartbeats 8000000 in
theorem ua : CS Tryz.prog 517 [.int .u64 a, .int .u64 b] m [] (fun v L' => v = .tuple #[.int .u64 (TI a b), .int .u64 (P1 a b)] /\ L' = []) := by
 refine zM [.tmp 4, .tmp 5] Tryz.func517 rfl rfl rfl ?_;refine tr 9 ?_;refine pe 6 (kf rfl rfl rfl) ?_;refine pe 6 (wt rfl rfl (by decide) (by decide) rfl) ?_;refine pe 6 (kf rfl rfl rfl) ?_;refine pe 7 (wt rfl rfl (by decide) (by decide) rfl) ?_;refine pe 7 (vQ rfl rfl rfl) ?_;refine pe 1 (vQ rfl rfl rfl) ?_;refine pe 0 (wt rfl rfl (by decide) (by decide) rfl) ?_
 refine pe 6 (yp rfl rfl rfl) ?_;refine pe 6 (kf rfl rfl rfl) ?_;refine pe 8 (wt rfl rfl (by decide) (by decide) rfl) ?_;refine pe 0 (vQ rfl rfl rfl) ?_;refine pe 7 (yp rfl rfl rfl) ?_;refine pe 1 (vQ rfl rfl rfl) ?_;refine pe 1 (yp rfl rfl rfl) ?_;refine pe 0 (wt rfl rfl (by decide) (by decide) rfl) ?_;refine pe 7 (yp rfl rfl rfl) ?_;refine pe 4 (vQ rfl rfl rfl) ?_
 exact zB [_, _] ⟨rfl, rfl, trivial⟩ [] (zJ.nil _) ⟨rfl, rfl⟩
def pwS (y x : Int) : Bool := decide (TI y y < x) || (decide (TI y y = x) && decide (P1 y y = 0))
abbrev CY (y : Int) : Int := wU (wU (TI y y * y) + TI (P1 y y) y)
abbrev pwD (y : Int) : Int := wU (CY y * 2 ^ (32 : Int).toNat)
def pwT (y x : Int) : Bool := decide (gi (CY y) < x) || ((decide (gi (CY y) = x) && decide (pwD y = 0)) && decide (P1 (P1 y y) y = 0))
variable {x y : Int}
set_option maxHeartbeats 8000000 in
theorem PI : CS Tryz.prog 514 [.int .u64 y, .int .u64 x, .bool false] m [] (fun v L' => v = .bool (pwS y x) /\ L' = []) := by
 refine zM [.tmp 6] Tryz.func514 rfl rfl rfl ?_;unfold pwS;by_cases h1 : TI y y < x
 ·refine tr 9 ?_;refine Cr jk rfl (fun m' hm he => (ua)) ?_;rintro _ rfl;refine vr 19 ?_;refine yy 14 ?_;exact xi ⟨rfl, trivial⟩ ⟨by show Value.bool _ = Value.bool _; rw [decide_eq_true h1]; rfl, rfl⟩
 ·by_cases h2 : TI y y = x
  ·by_cases h3 : P1 y y = 0
   ·refine tr 9 ?_;refine Cr jk rfl (fun m' hm he => (ua)) ?_;rintro _ rfl;refine vr 19 ?_;refine zA 3 ?_;refine yy 2 ?_;refine yy 7 ?_;exact xi ⟨rfl, trivial⟩ ⟨by show Value.bool _ = Value.bool _; rw [decide_eq_false h1, decide_eq_true h2, decide_eq_true h3]; rfl, rfl⟩
   ·refine tr 9 ?_;refine Cr jk rfl (fun m' hm he => (ua)) ?_;rintro _ rfl;refine vr 19 ?_;refine zA 3 ?_;refine yy 2 ?_;refine zA 7 ?_;exact xi ⟨rfl, trivial⟩ ⟨by show Value.bool _ = Value.bool _; rw [decide_eq_false h1, decide_eq_true h2, decide_eq_false h3]; rfl, rfl⟩
  ·refine tr 9 ?_;refine Cr jk rfl (fun m' hm he => (ua)) ?_;rintro _ rfl;refine vr 19 ?_;refine zA 3 ?_;refine zA 10 ?_;exact xi ⟨rfl, trivial⟩ ⟨by show Value.bool _ = Value.bool _; rw [decide_eq_false h1, decide_eq_false h2]; rfl, rfl⟩
set_option maxHeartbeats 8000000 in
theorem PH : CS Tryz.prog 514 [.int .u64 y, .int .u64 x, .bool true] m [] (fun v L' => v = .bool (pwT y x) /\ L' = []) := by
 refine zM [.tmp 6] Tryz.func514 rfl rfl rfl ?_;unfold pwT;by_cases h1 : gi (CY y) < x
 ·refine tr 9 ?_;refine Cr jk rfl (fun m' hm he => (ua)) ?_;rintro _ rfl;refine vr 21 ?_;refine Cr jk rfl (fun m' hm he => (ua)) ?_;rintro _ rfl;refine vr 11 ?_;refine pe 1 (vQ rfl rfl rfl) ?_;refine pe 6 (yp rfl rfl rfl) ?_;refine pe 1 (wt rfl rfl (by decide) (by decide) rfl) ?_;refine yy 19 ?_
  exact xi ⟨rfl, trivial⟩ ⟨by show Value.bool _ = Value.bool _; rw [decide_eq_true h1]; rfl, rfl⟩
 ·by_cases h2 : gi (CY y) = x
  ·by_cases h3 : pwD y = 0
   ·by_cases h4 : P1 (P1 y y) y = 0
    ·refine tr 9 ?_;refine Cr jk rfl (fun m' hm he => (ua)) ?_;rintro _ rfl;refine vr 21 ?_;refine Cr jk rfl (fun m' hm he => (ua)) ?_;rintro _ rfl;refine vr 11 ?_;refine pe 1 (vQ rfl rfl rfl) ?_;refine pe 6 (yp rfl rfl rfl) ?_;refine pe 1 (wt rfl rfl (by decide) (by decide) rfl) ?_;refine zA 2 ?_;refine pe 1 (wt rfl rfl (by decide) (by decide) rfl) ?_;refine yy 2 ?_
     refine pe 0 (uF rfl rfl (by decide) (by decide) rfl) ?_;refine yy 3 ?_;refine yy 6 ?_;exact xi ⟨rfl, trivial⟩ ⟨by show Value.bool _ = Value.bool _; rw [decide_eq_false h1, decide_eq_true h2, decide_eq_true h3, decide_eq_true h4]; rfl, rfl⟩
    ·refine tr 9 ?_;refine Cr jk rfl (fun m' hm he => (ua)) ?_;rintro _ rfl;refine vr 21 ?_;refine Cr jk rfl (fun m' hm he => (ua)) ?_;rintro _ rfl;refine vr 11 ?_;refine pe 1 (vQ rfl rfl rfl) ?_;refine pe 6 (yp rfl rfl rfl) ?_;refine pe 1 (wt rfl rfl (by decide) (by decide) rfl) ?_;refine zA 2 ?_;refine pe 1 (wt rfl rfl (by decide) (by decide) rfl) ?_;refine yy 2 ?_
     refine pe 0 (uF rfl rfl (by decide) (by decide) rfl) ?_;refine yy 3 ?_;refine zA 6 ?_;exact xi ⟨rfl, trivial⟩ ⟨by show Value.bool _ = Value.bool _; rw [decide_eq_false h1, decide_eq_true h2, decide_eq_true h3, decide_eq_false h4]; rfl, rfl⟩
   ·refine tr 9 ?_;refine Cr jk rfl (fun m' hm he => (ua)) ?_;rintro _ rfl;refine vr 21 ?_;refine Cr jk rfl (fun m' hm he => (ua)) ?_;rintro _ rfl;refine vr 11 ?_;refine pe 1 (vQ rfl rfl rfl) ?_;refine pe 6 (yp rfl rfl rfl) ?_;refine pe 1 (wt rfl rfl (by decide) (by decide) rfl) ?_;refine zA 2 ?_;refine pe 1 (wt rfl rfl (by decide) (by decide) rfl) ?_;refine yy 2 ?_
    refine pe 0 (uF rfl rfl (by decide) (by decide) rfl) ?_;refine zA 10 ?_;exact xi ⟨rfl, trivial⟩ ⟨by show Value.bool _ = Value.bool _; rw [decide_eq_false h1, decide_eq_true h2, decide_eq_false h3]; rfl, rfl⟩
  ·refine tr 9 ?_;refine Cr jk rfl (fun m' hm he => (ua)) ?_;rintro _ rfl;refine vr 21 ?_;refine Cr jk rfl (fun m' hm he => (ua)) ?_;rintro _ rfl;refine vr 11 ?_;refine pe 1 (vQ rfl rfl rfl) ?_;refine pe 6 (yp rfl rfl rfl) ?_;refine pe 1 (wt rfl rfl (by decide) (by decide) rfl) ?_;refine zA 2 ?_;refine pe 1 (wt rfl rfl (by decide) (by decide) rfl) ?_;refine zA 14 ?_
   exact xi ⟨rfl, trivial⟩ ⟨by show Value.bool _ = Value.bool _; rw [decide_eq_false h1, decide_eq_false h2]; rfl, rfl⟩
abbrev wdX (a b : Int) : Int := wU (Zp a * Zp b)
abbrev wdQ (a b : Int) : Int := wU (wU (gi a * Zp b) + gi (wdX a b))
abbrev wdR (a b : Int) : Int := wU (wU (Zp a * gi b) + Zp (wdQ a b))
def Fu (a b : Int) : Int := wU (wU (wU (gi a * gi b) + gi (wdQ a b)) + gi (wdR a b))
def Tl (a b : Int) : Int := bits .or .u64 (wU (wdR a b * 2 ^ (32 : Int).toNat)) (Zp (wdX a b))
set_option maxHeartbeats 8000000 in
theorem wl : CS Tryz.prog 456 [.int .u64 a, .int .u64 b] m [] (fun v L' => v = .tuple #[.int .u64 (Fu a b), .int .u64 (Tl a b)] /\ L' = []) := by
 refine zM [.tmp 4, .tmp 5] Tryz.func456 rfl rfl rfl ?_;refine tr 9 ?_;refine pe 1 (kf rfl rfl rfl) ?_;refine pe 7 (wt rfl rfl (by decide) (by decide) rfl) ?_;refine pe 1 (kf rfl rfl rfl) ?_;refine pe 8 (wt rfl rfl (by decide) (by decide) rfl) ?_;refine pe 7 (vQ rfl rfl rfl) ?_;refine pe 1 (vQ rfl rfl rfl) ?_;refine pe 0 (wt rfl rfl (by decide) (by decide) rfl) ?_
 refine pe 7 (yp rfl rfl rfl) ?_;refine pe 1 (vQ rfl rfl rfl) ?_;refine pe 0 (kf rfl rfl rfl) ?_;refine pe 7 (yp rfl rfl rfl) ?_;refine pe 1 (vQ rfl rfl rfl) ?_;refine pe 0 (wt rfl rfl (by decide) (by decide) rfl) ?_;refine pe 1 (yp rfl rfl rfl) ?_;refine pe 0 (wt rfl rfl (by decide) (by decide) rfl) ?_;refine pe 1 (yp rfl rfl rfl) ?_
 refine pe 1 (uF rfl rfl (by decide) (by decide) rfl) ?_;refine pe 0 (kf rfl rfl rfl) ?_;refine pe 5 (Kf rfl rfl rfl) ?_;exact zB [_, _] ⟨rfl, rfl, trivial⟩ [] (zJ.nil _) ⟨rfl, rfl⟩
def sqB (x n : Int) : Bool := decide (Fu x x < n) || (decide (Fu x x = n) && decide (Tl x x = 0))
variable {n : Int}
set_option maxHeartbeats 8000000 in
theorem YJ : CS Tryz.prog 394 [.int .u64 x, .int .u64 n] m [] (fun v L' => v = .bool (sqB x n) /\ L' = []) := by
 refine zM [.tmp 4] Tryz.func394 rfl rfl rfl ?_;unfold sqB;by_cases h1 : Fu x x < n
 ·refine tr 9 ?_;refine Cr qz rfl (fun m' hm he => (wl)) ?_;rintro _ rfl;refine vr 11 ?_;refine yy 13 ?_;exact xi ⟨rfl, trivial⟩ ⟨by show Value.bool _ = Value.bool _; rw [decide_eq_true h1]; rfl, rfl⟩
 ·by_cases h2 : Fu x x = n
  ·by_cases h3 : Tl x x = 0
   ·refine tr 9 ?_;refine Cr qz rfl (fun m' hm he => (wl)) ?_;rintro _ rfl;refine vr 11 ?_;refine zA 3 ?_;refine yy 2 ?_;refine yy 6 ?_;exact xi ⟨rfl, trivial⟩ ⟨by show Value.bool _ = Value.bool _; rw [decide_eq_false h1, decide_eq_true h2, decide_eq_true h3]; rfl, rfl⟩
   ·refine tr 9 ?_;refine Cr qz rfl (fun m' hm he => (wl)) ?_;rintro _ rfl;refine vr 11 ?_;refine zA 3 ?_;refine yy 2 ?_;refine zA 6 ?_;exact xi ⟨rfl, trivial⟩ ⟨by show Value.bool _ = Value.bool _; rw [decide_eq_false h1, decide_eq_true h2, decide_eq_false h3]; rfl, rfl⟩
  ·refine tr 9 ?_;refine Cr qz rfl (fun m' hm he => (wl)) ?_;rintro _ rfl;refine vr 11 ?_;refine zA 3 ?_;refine zA 9 ?_;exact xi ⟨rfl, trivial⟩ ⟨by show Value.bool _ = Value.bool _; rw [decide_eq_false h1, decide_eq_false h2]; rfl, rfl⟩
abbrev cuB (x : Int) : Int := wU (wU (Fu x x * x) + Fu (Tl x x) x)
abbrev cuN (n : Int) : Int := wU (n * 2 ^ (32 : Int).toNat)
def WP (x n : Int) : Bool := decide (cuB x < cuN n) || (decide (cuB x = cuN n) && decide (Tl (Tl x x) x = 0))
set_option maxHeartbeats 8000000 in
theorem WO : CS Tryz.prog 393 [.int .u64 x, .int .u64 n] m [] (fun v L' => v = .bool (WP x n) /\ L' = []) := by
 refine zM [.tmp 4] Tryz.func393 rfl rfl rfl ?_;unfold WP;by_cases h1 : cuB x < cuN n
 ·refine tr 9 ?_;refine Cr qz rfl (fun m' hm he => (wl)) ?_;rintro _ rfl;refine vr 11 ?_;refine Cr qz rfl (fun m' hm he => (wl)) ?_;rintro _ rfl;refine vr 11 ?_;refine pe 1 (vQ rfl rfl rfl) ?_;refine pe 7 (yp rfl rfl rfl) ?_;refine Cr qz rfl (fun m' hm he => (wl)) ?_;rintro _ rfl;refine vr 11 ?_;refine pe 0 (uF rfl rfl (by decide) (by decide) rfl) ?_
  refine yy 14 ?_;exact xi ⟨rfl, trivial⟩ ⟨by show Value.bool _ = Value.bool _; rw [decide_eq_true h1]; rfl, rfl⟩
 ·by_cases h2 : cuB x = cuN n
  ·by_cases h3 : Tl (Tl x x) x = 0
   ·refine tr 9 ?_;refine Cr qz rfl (fun m' hm he => (wl)) ?_;rintro _ rfl;refine vr 11 ?_;refine Cr qz rfl (fun m' hm he => (wl)) ?_;rintro _ rfl;refine vr 11 ?_;refine pe 1 (vQ rfl rfl rfl) ?_;refine pe 7 (yp rfl rfl rfl) ?_;refine Cr qz rfl (fun m' hm he => (wl)) ?_;rintro _ rfl;refine vr 11 ?_;refine pe 0 (uF rfl rfl (by decide) (by decide) rfl) ?_
    refine zA 3 ?_;refine pe 0 (uF rfl rfl (by decide) (by decide) rfl) ?_;refine yy 2 ?_;refine yy 6 ?_;exact xi ⟨rfl, trivial⟩ ⟨by show Value.bool _ = Value.bool _; rw [decide_eq_false h1, decide_eq_true h2, decide_eq_true h3]; rfl, rfl⟩
   ·refine tr 9 ?_;refine Cr qz rfl (fun m' hm he => (wl)) ?_;rintro _ rfl;refine vr 11 ?_;refine Cr qz rfl (fun m' hm he => (wl)) ?_;rintro _ rfl;refine vr 11 ?_;refine pe 1 (vQ rfl rfl rfl) ?_;refine pe 7 (yp rfl rfl rfl) ?_;refine Cr qz rfl (fun m' hm he => (wl)) ?_;rintro _ rfl;refine vr 11 ?_;refine pe 0 (uF rfl rfl (by decide) (by decide) rfl) ?_
    refine zA 3 ?_;refine pe 0 (uF rfl rfl (by decide) (by decide) rfl) ?_;refine yy 2 ?_;refine zA 6 ?_;exact xi ⟨rfl, trivial⟩ ⟨by show Value.bool _ = Value.bool _; rw [decide_eq_false h1, decide_eq_true h2, decide_eq_false h3]; rfl, rfl⟩
  ·refine tr 9 ?_;refine Cr qz rfl (fun m' hm he => (wl)) ?_;rintro _ rfl;refine vr 11 ?_;refine Cr qz rfl (fun m' hm he => (wl)) ?_;rintro _ rfl;refine vr 11 ?_;refine pe 1 (vQ rfl rfl rfl) ?_;refine pe 7 (yp rfl rfl rfl) ?_;refine Cr qz rfl (fun m' hm he => (wl)) ?_;rintro _ rfl;refine vr 11 ?_;refine pe 0 (uF rfl rfl (by decide) (by decide) rfl) ?_
   refine zA 3 ?_;refine pe 0 (uF rfl rfl (by decide) (by decide) rfl) ?_;refine zA 9 ?_;exact xi ⟨rfl, trivial⟩ ⟨by show Value.bool _ = Value.bool _; rw [decide_eq_false h1, decide_eq_false h2]; rfl, rfl⟩
end Go.Proofs.YtijakengkacnlaaGreatDoor
namespace Go.Proofs.YtijakengkacnlaaGreatDoor
open Go.Eng
set_option maxRecDepth 100000
variable {m : Mp}
def roC (n : Int) : Int := bits .and .u64 (IntKind.u64.wrap n) 31
def roD (n : Int) : Int := wU (32 - roC n)
def roV (x n : Int) : Int := bits .or .u32 (IntKind.u32.wrap (x * 2 ^ (roC n).toNat)) (x / 2 ^ (roD n).toNat)
def Po (n : Int) : Bool := decide (0 <= roC n) && decide (roC n <= 32) && decide (0 <= roD n) && decide (roD n <= 32)
variable {n x : Int}
set_option maxHeartbeats 8000000 in
theorem FK (h : Po n = true) : CS Tryz.prog 516 [.int .u32 x, .int .i64 n] m [] (fun v L' => v = .int .u32 (roV x n) /\ L' = []) := by
 unfold Po at h;simp only [Bool.and_eq_true, decide_eq_true_eq] at h;obtain ⟨⟨⟨h1, h2⟩, h3⟩, h4⟩ := h;refine zM [.tmp 4] Tryz.func516 rfl rfl rfl ?_;refine tr 8 ?_;refine pe 0 (yr DT UM rfl rfl) ?_;refine pe 7 (kf rfl rfl rfl) ?_;refine pe 2 ((uF rfl rfl h1 h2 rfl)) ?_;refine pe 0 (ke rfl rfl rfl) ?_;refine pe 0 ((wt rfl rfl h3 h4 rfl)) ?_
 refine pe 4 (Kf rfl rfl rfl) ?_;exact xi ⟨rfl, trivial⟩ ⟨rfl, rfl⟩
set_option maxHeartbeats 8000000 in
theorem O1 (h : Po (IntKind.i64.wrap (0 - n)) = true) : CS Tryz.prog 515 [.int .u32 x, .int .i64 n] m [] (fun v L' => v = .int .u32 (roV x (IntKind.i64.wrap (0 - n))) /\ L' = []) := by
 refine zM [.tmp 4] Tryz.func515 rfl rfl rfl ?_;refine tr 9 ?_;refine pe 0 (Fr rfl rfl) ?_;refine Cr BT rfl (fun m' hm he => (FK h)) ?_;rintro _ rfl;refine vr 4 ?_;exact xi ⟨rfl, trivial⟩ ⟨rfl, rfl⟩
abbrev trC (n : Int) : Int := 32 - n
def trV (x n : Int) : Int := bits .or .u32 (x / 2 ^ n.toNat) (IntKind.u32.wrap (x * 2 ^ (trC n).toNat))
def Fw (n : Int) : Bool := decide (0 <= n) && decide (n <= 32) && decide (0 <= trC n) && decide (trC n <= 32)
set_option maxHeartbeats 8000000 in
theorem Pn (h : Fw n = true) : CS Tryz.prog 329 [.int .u32 x, .int .u64 n] m [] (fun v L' => v = .int .u32 (trV x n) /\ L' = []) := by
 unfold Fw at h;simp only [Bool.and_eq_true, decide_eq_true_eq] at h;obtain ⟨⟨⟨h1, h2⟩, h3⟩, h4⟩ := h;refine zM [.tmp 4] Tryz.func329 rfl rfl rfl ?_;refine tr 9 ?_;refine pe 2 ((wt rfl rfl h1 h2 rfl)) ?_;refine pe 0 (ke rfl rfl (QJ (by omega) (by omega))) ?_;refine pe 0 ((uF rfl rfl h3 h4 rfl)) ?_;refine pe 4 (Kf rfl rfl rfl) ?_;exact xi ⟨rfl, trivial⟩ ⟨rfl, rfl⟩
abbrev u8 (a : Int) : Int := IntKind.u8.wrap a
def tmX (x : Int) : Int := bits .xor .u8 (u8 (x * 2 ^ (1 : Int).toNat)) (u8 (x / 2 ^ (7 : Int).toNat * 27))
def DU (x y p : Int) : Int := if bits .and .u8 y 1 = 1 then bits .xor .u8 p x else p
def Cq : Nat -> Int -> Int -> Int -> Option Int
 | 0, _, _, _ => none
 | f + 1, x, y, p => if y / 2 ^ (1 : Int).toNat = 0 then some (DU x y p) else Cq f (tmX x) (y / 2 ^ (1 : Int).toNat) (DU x y p)
set_option maxHeartbeats 8000000 in
theorem LJ {y r : Int} {f : Nat} (h : Cq f x y 0 = some r) : CS Tryz.prog 436 [.int .u8 x, .int .u8 y] m [] (fun v L' => v = .int .u8 r /\ L' = []) := by
 refine zM [.tmp 4] Tryz.func436 rfl rfl rfl ?_;refine tr 5 ?_;refine Qt ?_;refine tr 6 ?_;refine Qu ?_;refine qt 3 ?_;refine zN (α := Nat × Int × Int × Int) (fun z => [(0, .int .u8 z.2.1), (1, .int .u8 z.2.2.1), (5, .int .u8 z.2.2.2)]) (fun _ => []) (fun z => Cq z.1 z.2.1 z.2.2.1 z.2.2.2 = some r) (fun z => z.1) (f, x, y, 0) ⟨rfl, rfl, rfl, trivial⟩ (zJ.nil _) h ?_
 rintro ⟨f, x, y, p⟩ hF;cases f with
 | zero => cases hF
 | succ f =>
   unfold Cq at hF;dsimp only at hF ⊢;by_cases hb : bits .and .u8 y 1 = 1
   ·have hp : DU x y p = bits .xor .u8 p x := if_pos hb;by_cases h0 : y / 2 ^ (1 : Int).toNat = 0
    ·rw [if_pos h0] at hF;refine tr 5 ?_;refine pe 0 (kf rfl rfl (by with_reducible assumption)) ?_;refine NI 6 ?_;refine pe 7 (GN rfl rfl rfl) ?_;refine pe 6 (wt rfl rfl (by decide) (by decide) rfl) ?_;refine yy 6 ?_;refine zh ?_;refine zf ?_;refine qt 8 ?_;refine qO ?_;exact xi ⟨rfl, trivial⟩ ⟨by rw [hp] at hF; injection hF with hF; rw [<- hF]; rfl, rfl⟩
    ·rw [if_neg h0] at hF;refine tr 5 ?_;refine pe 0 (kf rfl rfl (by with_reducible assumption)) ?_;refine NI 6 ?_;refine pe 7 (GN rfl rfl rfl) ?_;refine pe 6 (wt rfl rfl (by decide) (by decide) rfl) ?_;refine zA 7 ?_;refine pe 1 (uF rfl rfl (by decide) (by decide) rfl) ?_;refine pe 0 (wt rfl rfl (by decide) (by decide) rfl) ?_;refine pe 0 (vQ rfl rfl rfl) ?_
     refine pe 3 (GN rfl rfl rfl) ?_;exact Ya (f, tmX x, y / 2 ^ (1 : Int).toNat, DU x y p) ⟨rfl, rfl, by rw [hp]; rfl, trivial⟩ (zJ.nil _) hF (Nat.lt_succ_self f)
   ·have hp : DU x y p = p := if_neg hb;by_cases h0 : y / 2 ^ (1 : Int).toNat = 0
    ·rw [if_pos h0] at hF;refine tr 5 ?_;refine pe 0 (kf rfl rfl rfl) ?_;refine zA 9 ?_;refine pe 6 (wt rfl rfl (by decide) (by decide) rfl) ?_;refine yy 6 ?_;refine zh ?_;refine zf ?_;refine qt 8 ?_;refine qO ?_;exact xi ⟨rfl, trivial⟩ ⟨by rw [hp] at hF; injection hF with hF; rw [<- hF]; rfl, rfl⟩
    ·rw [if_neg h0] at hF;refine tr 5 ?_;refine pe 0 (kf rfl rfl rfl) ?_;refine zA 9 ?_;refine pe 6 (wt rfl rfl (by decide) (by decide) rfl) ?_;refine zA 7 ?_;refine pe 1 (uF rfl rfl (by decide) (by decide) rfl) ?_;refine pe 0 (wt rfl rfl (by decide) (by decide) rfl) ?_;refine pe 0 (vQ rfl rfl rfl) ?_;refine pe 3 (GN rfl rfl rfl) ?_
     exact Ya (f, tmX x, y / 2 ^ (1 : Int).toNat, DU x y p) ⟨rfl, rfl, by rw [hp]; rfl, trivial⟩ (zJ.nil _) hF (Nat.lt_succ_self f)
end Go.Proofs.YtijakengkacnlaaGreatDoor
noncomputable section
namespace Go.Ev
open Go.Eng Go.Proofs Go.Proofs.YtijakengkacnlaaGreatDoor
def Df (vs : Lv) (s : St) (k : KS) : Rs := match vs with
 | [.int .u64 a, .int .u64 b] => fI (TI a b) fun h => fI (P1 a b) fun l => k (.tuple #[.int .u64 h, .int .u64 l]) s
 | _ => .no
def De (vs : Lv) (s : St) (k : KS) : Rs := match vs with
 | [.int .u64 y, .int .u64 x, .bool true] => kB (fun v => k v s) (pwT y x)
 | [.int .u64 y, .int .u64 x, .bool false] => kB (fun v => k v s) (pwS y x)
 | _ => .no
def Da (vs : Lv) (s : St) (k : KS) : Rs := match vs with
 | [.int .u64 x, .int .u64 n] => kB (fun v => k v s) (sqB x n)
 | _ => .no
def Di (vs : Lv) (s : St) (k : KS) : Rs := match vs with
 | [.int .u64 x, .int .u64 n] => kB (fun v => k v s) (WP x n)
 | _ => .no
def E7 (vs : Lv) (s : St) (k : KS) : Rs := match vs with
 | [.int .u32 x, .int .i64 n] => bB (Po (IntKind.i64.wrap (0 - n))) (fI (roV x (IntKind.i64.wrap (0 - n))) fun r => k (.int .u32 r) s)
 | _ => .no
def Dd (vs : Lv) (s : St) (k : KS) : Rs := match vs with
 | [.int .u32 x, .int .u64 n] => bB (Fw n) (fI (trV x n) fun r => k (.int .u32 r) s)
 | _ => .no
def E8 (vs : Lv) (s : St) (k : KS) : Rs := match vs with
 | [.int .u8 x, .int .u8 y] => oB (Cq 9 x y 0) fun r => fI r fun r => k (.int .u8 r) s
 | _ => .no
end Go.Ev
end
namespace Go.Ev
open Go.Eng Go.Proofs Go.Proofs.YtijakengkacnlaaGreatDoor
variable {I : As} {a b : Int} {k k' : IntKind} {us : Lv}
theorem jW (h : xk I [.int k a, .int k' b] us) : us = [.int k a, .int k' b] := by
 cases h with | cons h1 h2 => cases h1; cases h2 with | cons h3 h4 => cases h3; cases h4; rfl
theorem XO {c : Bool} (h : xk I [.int k a, .int k' b, .bool c] us) : us = [.int k a, .int k' b, .bool c] := by
 cases h with | cons h1 h2 => cases h1; cases h2 with | cons h3 h4 => cases h3; cases h4 with | cons h5 h6 => cases h5; cases h6; rfl
theorem Sf : yZ Tryz.prog 517 Df := ⟨jk, fun {vs s k r} h hr => by
 unfold Df at h
 split at h
 ·rw [UV, UV] at h;exact ⟨_, _, h, wv.pure (fun m => ua) jW fun J => .tuple (.cons (.int _ _) (.cons (.int _ _) .nil))⟩
 ·exact absurd h.symm hr⟩
theorem Sc : yZ Tryz.prog 514 De := ⟨BU, fun {vs s k r} h hr => by
 unfold De at h
 split at h
 ·rw [kB_eq'] at h;exact ⟨_, _, h, wv.pure (fun m => PH) XO fun J => .bool _⟩
 ·rw [kB_eq'] at h;exact ⟨_, _, h, wv.pure (fun m => PI) XO fun J => .bool _⟩
 ·exact absurd h.symm hr⟩
theorem R8 : yZ Tryz.prog 394 Da := ⟨T1, fun {vs s k r} h hr => by
 unfold Da at h
 split at h
 ·rw [kB_eq'] at h;exact ⟨_, _, h, wv.pure (fun m => YJ) jW fun J => .bool _⟩
 ·exact absurd h.symm hr⟩
theorem Sk : yZ Tryz.prog 393 Di := ⟨NQ, fun {vs s k r} h hr => by
 unfold Di at h
 split at h
 ·rw [kB_eq'] at h;exact ⟨_, _, h, wv.pure (fun m => WO) jW fun J => .bool _⟩
 ·exact absurd h.symm hr⟩
theorem R5 : yZ Tryz.prog 515 E7 := ⟨by decide +kernel, fun {vs s k r} h hr => by
 unfold E7 at h
 split at h
 ·obtain ⟨h1, h2⟩ := zl h hr;rw [UV] at h2;exact ⟨_, _, h2, wv.pure (fun m => O1 h1) jW fun J => .int _ _⟩
 ·exact absurd h.symm hr⟩
theorem Sa : yZ Tryz.prog 329 Dd := ⟨B6, fun {vs s k r} h hr => by
 unfold Dd at h
 split at h
 ·obtain ⟨h1, h2⟩ := zl h hr;rw [UV] at h2;exact ⟨_, _, h2, wv.pure (fun m => Pn h1) jW fun J => .int _ _⟩
 ·exact absurd h.symm hr⟩
theorem R6 : yZ Tryz.prog 436 E8 := ⟨BX, fun {vs s k r} h hr => by
 unfold E8 at h
 split at h
 ·obtain ⟨z, h1, h2⟩ := zt h hr;rw [UV] at h2;exact ⟨_, _, h2, wv.pure (fun m => LJ h1) jW fun J => .int _ _⟩
 ·exact absurd h.symm hr⟩
end Go.Ev
noncomputable section
namespace Go.Ev
open Go.Eng
def E0 (vs0 : Lv) (v : Value) (ins : QG) (vs : Lv) (s : St) (k : KS) : Rs := JO vs0 vs (Ni s.h ins (k v s))
def Hr (vs0 : Lv) (mk : Nat -> Value) (o : AO) (ins : QG) (vs : Lv) (s : St) (k : KS) : Rs := JO vs0 vs (Ni s.h ins (bC s o fun i s => k (mk i) s))
def Qc (v : Value) (ins : QG) (outs : OP) : KS := fun v' s' => Gj v v' (Ni s'.h ins (Jh s'.h outs done))
def Ui : AO -> Bool
 | .cel xs _ => aQ xs
 | .opn xs _ => aQ xs
 | .mp es _ => es.all fun x => pf x.key && pf x.val
end Go.Ev
end
namespace Go.Ev
open Go.Eng
theorem cy {v : Value} {l : Lv} (h : aQ (v :: l) = true) : pf v = true /\ aQ l = true := by
 replace h : Bool.rec (motive := fun _ => Bool) false (aQ l) (pf v) = true := h
 cases hv : pf v with
 | false => rw [hv] at h; cases h
 | true => rw [hv] at h; exact ⟨rfl, h⟩
variable {cs : Lv}
theorem FZ : pf (.agg ⟨cs⟩) = aQ cs := by
 induction cs with
 | nil => rfl
 | cons c cs ih => show Bool.rec (motive := fun _ => Bool) false _ (pf c) = Bool.rec (motive := fun _ => Bool) false _ (pf c); cases pf c <;> first | rfl | exact ih
theorem My : pf (.tuple ⟨cs⟩) = aQ cs := by
 induction cs with
 | nil => rfl
 | cons c cs ih => show Bool.rec (motive := fun _ => Bool) false _ (pf c) = Bool.rec (motive := fun _ => Bool) false _ (pf c); cases pf c <;> first | rfl | exact ih
mutual
variable {I : As}
theorem Rl.pure : ∀ {v u : Value}, Rl I v u -> pf v = true -> u = v
 | _, _, .bool _, _ => rfl
 | _, _, .int _ _, _ => rfl
 | _, _, .str _, _ => rfl
 | _, _, .nilp, _ => rfl
 | _, _, .ptr _, h => by cases h
 | _, _, .nils, _ => rfl
 | _, _, .sl _ _, h => by cases h
 | _, _, .slo _ _, h => by cases h
 | _, _, .slk _ _, h => by cases h
 | _, _, .sla _ _, h => by cases h
 | _, _, .nilm, _ => rfl
 | _, _, .map _, h => by cases h
 | _, _, .func _ _, h => by cases h
 | _, _, .nilf, _ => rfl
 | _, _, .iface g, h => by rw [Rl.pure g h]
 | _, _, .nili, _ => rfl
 | _, _, .agg g, h => by rw [xk.pure g (by rw [<- FZ]; exact h)]
 | _, _, .tuple g, h => by rw [xk.pure g (by rw [<- My]; exact h)]
theorem xk.pure : ∀ {v u : Lv}, xk I v u -> aQ v = true -> u = v
 | _, _, .nil, _ => rfl
 | _, _, .cons g gs, h => by rw [Rl.pure g (cy h).1, xk.pure gs (cy h).2]
end
theorem KC (I : As) {v : Value} (h : pf v = true) : Rl I v v := cv I v h
theorem eC (I : As) : ∀ {l : Lv}, aQ l = true -> xk I l l
 | [], _ => .nil
 | _ :: _, h => .cons (cv I _ (cy h).1) (eC I (cy h).2)
variable {I J : As}
theorem qN.pure : ∀ {es us : List MapEntry}, qN I es us -> (es.all fun x => pf x.key && pf x.val) = true -> qN J es us
 | _, _, .nil, _ => .nil
 | _, _, .cons (x := x) (y := y) h hs, hp => by
   rw [List.all_cons, Bool.and_eq_true, Bool.and_eq_true] at hp;obtain ⟨⟨h1, h2⟩, h3⟩ := hp;have e1 := h.key.pure h1;have e2 := h.val.pure h2;exact .cons ⟨by rw [e1]; exact KC J h1, by rw [e2]; exact KC J h2, h.born⟩ (qN.pure hs h3)
theorem bW.rename {P : Program} {H : Mp} {i j : Nat} {o : AO} (h : bW P I H i o) (hp : Ui o = true) (e : J j = I i) (hj : j < gN -> i < gN) : bW P J H j o := by
 cases o with
 | cel xs t => obtain ⟨g, us, fz, h1, h2, h3, h4⟩ := h; exact ⟨g, us, fz, e.trans h1, h2, by rw [h3.pure hp]; exact eC J hp, h4.1, fun h => h4.2 (hj h)⟩
 | opn xs t => obtain ⟨g, q, r, z, cur, fz, h1, h2, h3, h4, h5, h6, h7⟩ := h; exact ⟨g, q, r, z, cur, fz, e.trans h1, h2, h3, h4, h5, by rw [h6.pure hp]; exact eC J hp, h7⟩
 | mp es c => obtain ⟨g, es', h1, h2, h3⟩ := h; exact ⟨g, es', e.trans h1, h2, h3.pure hp⟩
section
variable {P : Program} {X : ki} {D : Nat -> Option DE}
open Classical in
theorem To {x : Fx} {B : Mp} {I : As} {s : St} {w : World} (M : Ms P x B I s w) {ins : QG} {t0 : Tr AO} (h2 : ∀ i o, get t0 i = some o -> (i, o) ∈ ins) (hin : ∀ i o, (i, o) ∈ ins -> get s.h i = some o) (h6 : ∀ i o, (i, o) ∈ ins -> i < 6) (hp : ∀ i o, (i, o) ∈ ins -> Ui o = true) :
  ∃ B2, (∀ b ob, B2 b = some ob -> mp w.heap b = some ob) /\ (∀ b ob, B b = some ob -> B2 b = some ob) /\ (∀ i o y, get s.h i = some o -> I i = some y -> (∃ o', (i, o') ∈ ins) \/ B2 y.1 = mp w.heap y.1) /\ (∀ g, mp w.heap g = none -> B2 g = none) /\ Ms P x B2 (fun i => if i < 6 then I i else none) ⟨t0, 6⟩ w := by
 obtain ⟨Kp, hKp⟩ : ∃ Kp : Nat -> Prop, Kp = fun a => ∃ i o y, (i, o) ∈ ins /\ I i = some y /\ y.1 = a := ⟨_, rfl⟩
 have hB : ∀ {a : Nat}, Kp a -> B a = none := fun {a} h => by
  rw [hKp] at h;obtain ⟨i, o, y, k1, k2, k3⟩ := h;rw [<- k3]; exact M.hp.out i o y (hin i o k1) k2
 refine ⟨fun a => if Kp a then none else mp w.heap a, fun b ob hb => ?_, fun b ob hb => ?_, fun i o y k1 k2 => ?_, fun g hg => ?_, ?_⟩
 ·replace hb : (if Kp b then none else mp w.heap b) = some ob := hb
  split at hb
  ·cases hb
  ·exact hb
 ·show (if Kp b then none else mp w.heap b) = some ob;rw [if_neg fun h => by rw [hB h] at hb; cases hb];exact M.hp.base b ob hb
 ·by_cases hk : Kp y.1
  ·rw [hKp] at hk;obtain ⟨j, o', z, q1, q2, q3⟩ := hk;have := M.hp.sep i j o o' y z k1 (hin j o' q1) k2 q2 q3.symm;subst this;exact .inl ⟨o', q1⟩
  ·exact .inr (by show (if Kp y.1 then _ else _) = _; rw [if_neg hk])
 ·show (if Kp g then none else mp w.heap g) = none;rw [hg]; exact ite_self _
 ·refine ⟨fun g hg => by show (if g < 6 then _ else _) = _; rw [if_pos (show g < 6 from hg)]; exact M.gl g hg, M.wd, ⟨fun i o y k1 k2 => ?_, fun i j o o' y z k1 k2 k3 k4 e => ?_, fun i hi => ?_, fun i o y k1 k2 => ?_, fun b ob hb => ?_, fun i hi => ?_⟩⟩
  ·have hm := h2 i o k1;have hlt := h6 i o hm;rw [if_pos hlt] at k2;have := M.hp.obj i o y (hin i o hm) k2;exact this.rename (hp i o hm) (if_pos hlt) id
  ·have hm := h2 i o k1;have hm' := h2 j o' k2;rw [if_pos (h6 i o hm)] at k3;rw [if_pos (h6 j o' hm')] at k4;exact M.hp.sep i j o o' y z (hin i o hm) (hin j o' hm') k3 k4 e
  ·show (if i < 6 then _ else _) = _;rw [if_neg (Nat.not_lt_of_le hi)]
  ·have hm := h2 i o k1;rw [if_pos (h6 i o hm)] at k2;show (if Kp y.1 then none else _) = none;rw [if_pos (by rw [hKp]; exact ⟨i, o, y, hm, k2, rfl⟩)]
  ·replace hb : (if Kp b then none else mp w.heap b) = some ob := hb
   split at hb
   ·cases hb
   ·exact hb
  ·cases hg : get t0 i with
   | none => rfl
   | some o =>
     have := h6 i o (h2 i o hg);have hi' : 6 <= i := hi;omega
noncomputable def sixB (ins : QG) : Bool := ins.all fun x => Nat.blt x.1 6 && Ui x.2
variable {d g : Nat} {ins : QG} {v : Value} {vs0 : Lv}
theorem ZS (hX : kN P X) (hD : aC P D) (hN : wq P) (hm : P.follows .mixedOrders = true) {outs : OP} (hrun : H4 ins (fun t => qA P X D d g vs0 ⟨t, 6⟩ (Qc v ins outs)) = done) (hs : sixB ins = true) (hv0 : aQ vs0 = true) :
  z7 P g = true /\ ∀ {x : Fx} {B : Mp} {I : As} {s : St} {w : World}, Ms P x B I s w -> (∀ i o, (i, o) ∈ ins -> get s.h i = some o) -> ∀ us, xk I vs0 us -> Calls P g ⟨us⟩ w fun e w' => ∃ (u : Value) (J : As) (s' : St), e = .returned u /\ Rl J v u /\ (∀ i o, (i, o) ∈ outs -> get s'.h i = o) /\
   Le B (mp w'.heap) /\ w' = W x w'.heap w'.drawn /\ (∀ i o y, get s.h i = some o -> I i = some y -> bW P I (mp w'.heap) i o) /\ (∀ i o y, get s'.h i = some o -> J i = some y -> 6 <= i -> bW P J (mp w'.heap) i o /\ B y.1 = none /\ ∀ j o' z, get s.h j = some o' -> I j = some z -> z.1 ≠ y.1) := by
 have hdn : done ≠ .no := nofun;obtain ⟨t0, h1, h2⟩ := Ww hrun;obtain ⟨hcl, v', s1, h3, h4⟩ := gS hX hD hN hm h1 hdn;obtain ⟨rfl, h5⟩ := qI hdn v h3;obtain ⟨h6, h7⟩ := jC hdn h5;obtain ⟨-, h8⟩ := cz hdn h6
 have hsix : ∀ i o, (i, o) ∈ ins -> i < 6 /\ Ui o = true := fun i o h => by
  have := List.all_eq_true.1 hs _ h
  simpa [Nat.blt_eq] using this
 refine ⟨hcl, fun {x B I s w} M hin us hus => ?_⟩;obtain ⟨B2, b1, b2, b3, b4, M2⟩ := To M h2 hin (fun i o h => (hsix i o h).1) fun i o h => (hsix i o h).2;have hus' := hus.pure hv0;subst hus';refine (h4 M2 us (eC _ hv0)).mono ?_;rintro e w' ⟨u, J, rfl, g1, g2, g3⟩
 refine ⟨u, J, s1, rfl, g2, h8, fun b ob hb => g3.hp.base b ob (b2 b ob hb), g3.wd, fun i o y k1 k2 => ?_, fun i o y k1 k2 k3 => ⟨g3.hp.obj i o y k1 k2, ?_, fun j o' z q1 q2 e => ?_⟩⟩
 ·rcases b3 i o y k1 k2 with ⟨o', ho'⟩ | hk
  ·have := hin i o' ho';rw [k1] at this; cases this;have hlt := (hsix i o ho').1;have hJ : J i = I i := by rw [g1.same i hlt]; exact if_pos hlt
   exact (g3.hp.obj i o y (h7 i o ho') (hJ.trans k2)).rename (hsix i o ho').2 hJ.symm id
  ·have hok := M.hp.obj i o y k1 k2;obtain ⟨ob, hob⟩ := hok.has k2;refine hok.frame k2 ?_;rw [hob];exact g3.hp.base y.1 ob (by rw [hk]; exact hob)
 ·have := g3.hp.out i o y k1 k2;cases hb : B y.1 with
  | none => rfl
  | some ob => rw [b2 _ _ hb] at this; cases this
 ·rcases b3 j o' z q1 q2 with ⟨o2, ho2⟩ | hk
  ·have hlt := (hsix j o2 ho2).1;have hJ : J j = some z := by rw [g1.same j hlt]; exact (if_pos hlt).trans q2
   have := g3.hp.sep i j o o2 y z k1 (h7 j o2 ho2) k2 hJ e.symm;omega
  ·obtain ⟨ob, hob⟩ := (M.hp.obj j o' z q1 q2).has q2;have := g3.hp.out i o y k1 k2;rw [<- e, hk, hob] at this; cases this
theorem R1 (hX : kN P X) (hD : aC P D) (hN : wq P) (hm : P.follows .mixedOrders = true) (hrun : H4 ins (fun t => qA P X D d g vs0 ⟨t, 6⟩ (Qc v ins [])) = done) (hs : sixB ins = true) (hv0 : aQ vs0 = true) (hv : pf v = true) : yZ P g (E0 vs0 v ins) := by
 obtain ⟨hcl, hrun'⟩ := ZS hX hD hN hm hrun hs hv0;refine ⟨hcl, fun {vs s k r} h hr => ?_⟩;obtain ⟨rfl, h1⟩ := vN hr vs0 h;obtain ⟨h2, h3⟩ := jC hr h1;refine ⟨v, s, h2, fun {x B I w} M us hus => (hrun' M h3 us hus).mono ?_⟩;rintro e w' ⟨u, J, s', rfl, k1, -, k2, k3, k4, -⟩
 exact ⟨u, I, rfl, wm.refl I s, by rw [k1.pure hv]; exact KC I hv, M.gl, k3, ⟨fun i o y q1 q2 => k4 i o y q1 q2, M.hp.sep, M.hp.new, M.hp.out, k2, M.hp.fre⟩⟩
variable {j : Nat}
theorem WG (hX : kN P X) (hD : aC P D) (hN : wq P) (hm : P.follows .mixedOrders = true) {mk : Nat -> Value} {o : AO} (hrun : H4 ins (fun t => qA P X D d g vs0 ⟨t, 6⟩ (Qc (mk j) ins [(j, some o)])) = done) (hs : sixB ins = true) (hv0 : aQ vs0 = true) (hp : Ui o = true) (hj : 6 <= j) (hmk : ∀ (I J : As) (i : Nat) (u : Value), Rl J (mk j) u -> I i = J j -> (∃ y, J j = some y) /\ Rl I (mk i) u) : yZ P g (Hr vs0 mk o ins) := by
 obtain ⟨hcl, hrun'⟩ := ZS hX hD hN hm hrun hs hv0;refine ⟨hcl, fun {vs s k r} h hr => ?_⟩;obtain ⟨rfl, h1⟩ := vN hr vs0 h;obtain ⟨h2, h3⟩ := jC hr h1;obtain ⟨s2, h4, h5, h6, h7⟩ := qQ h2;refine ⟨_, s2, h4, fun {x B I w} M us hus => (hrun' M h3 us hus).mono ?_⟩;rintro e w' ⟨u, J, s', rfl, k1, k2, k3, k4, k5, k6⟩
 obtain ⟨⟨y, hy⟩, k7⟩ := hmk (upd I s.nx ((J j).getD (0, 0, none))) J s.nx u k1 (by
  rw [yD];obtain ⟨⟨y, hy⟩, -⟩ := hmk J J j u k1 rfl
  rw [hy]; rfl)
 have hgj := k2 j (some o) (.head _);obtain ⟨q1, q2, q3⟩ := k6 j o y hgj hy hj;have hI := M.hp.new s.nx (Nat.le_refl _);rw [hy] at k7
 replace k7 : Rl (upd I s.nx y) (mk s.nx) u := k7
 have ext := u5 (I := I) y hI;have hcase := j5 (s := s) (s' := s2) (ao := o) h6 h7;refine ⟨u, upd I s.nx y, rfl, wm.new y hI h5 h6, k7, M.gl_upd y, k4, ⟨fun i o' z z1 z2 => ?_, fun i i' o1 o2 z z' z1 z2 z3 z4 e => ?_, fun i hi => ?_, fun i o' z z1 z2 => ?_, k3, fun i hi => ?_⟩⟩
 ·rcases hcase i o' z1 with ⟨rfl, rfl⟩ | ⟨hne, z1⟩
  ·exact q1.rename hp ((yD _ _ _).trans hy.symm) fun h => by rw [M.gl _ h] at hI; cases hI
  ·rw [xo _ hne] at z2;exact (k5 i o' z z1 z2).mono ext (Le.refl _)
 ·rcases hcase i o1 z1 with ⟨rfl, rfl⟩ | ⟨hne, z1⟩ <;> rcases hcase i' o2 z2 with ⟨rfl, rfl⟩ | ⟨hne', z2⟩
  ·rfl
  ·rw [yD] at z3; cases z3;rw [xo _ hne'] at z4;exact absurd e.symm (q3 i' o2 z' z2 z4)
  ·rw [yD] at z4; cases z4;rw [xo _ hne] at z3;exact absurd e (q3 i o1 z z1 z3)
  ·rw [xo _ hne] at z3;rw [xo _ hne'] at z4;exact M.hp.sep i i' o1 o2 z z' z1 z2 z3 z4 e
 ·obtain ⟨e1, e2⟩ := aT h5 i hi;rw [xo _ e1]; exact M.hp.new i e2
 ·rcases hcase i o' z1 with ⟨rfl, rfl⟩ | ⟨hne, z1⟩
  ·rw [yD] at z2; cases z2; exact q2
  ·rw [xo _ hne] at z2; exact M.hp.out i o' z z1 z2
 ·obtain ⟨e1, e2⟩ := aT h5 i hi;rw [h6 i e1]; exact M.hp.fre i e2
theorem MO {n c : Nat} (I J : As) (i : Nat) (u : Value) (h : Rl J (.slice (some ⟨j, 0, none⟩) n c) u) (e : I i = J j) : (∃ y, J j = some y) /\ Rl I (.slice (some ⟨i, 0, none⟩) n c) u := by
 cases h with
 | sl h hc => exact ⟨⟨_, h⟩, .sl (e.trans h) hc⟩
 | slo h hc => exact ⟨⟨_, h⟩, .slo (e.trans h) hc⟩
theorem Ea (I J : As) (i : Nat) (u : Value) (h : Rl J (.map (some j)) u) (e : I i = J j) : (∃ y, J j = some y) /\ Rl I (.map (some i)) u := by
 cases h with
 | map h => exact ⟨⟨_, h⟩, .map (e.trans h)⟩
end
end Go.Ev
noncomputable section
namespace Go.Ev
open Go.Eng
section
variable (P : Program)
def WX (l : Bt) : Bool := List.rec (motive := fun _ => Bool) true (fun b _ r => Bool.rec (motive := fun _ => Bool) false r (Nat.ble (Nat.succ (ub b)) 128)) l
def qG (a b n : Nat) : Bool := match Nat.ble a n with
 | true => Nat.ble n b
 | false => false
def XG (fst : Bool) (n : Nat) : Bool := match qG 97 122 n with
 | true => true
 | false => match qG 65 90 n with
   | true => true
   | false => match fst with
     | true => false
     | false => match qG 48 57 n with
       | true => true
       | false => Nat.beq n 39
def Uk (l : Bt) : Bool -> Nat := List.rec (motive := fun _ => Bool -> Nat) (fun _ => 0) (fun b _ r f => match XG f (ub b) with
 | true => Nat.succ (r false)
 | false => 0) l
end
end Go.Ev
end
namespace Go.Proofs
open Go.Shelf
def Tryz.keysA_ren : Go.Shelf.Ren := ⟨fun | 10 => 268 | n => n, fun | 33 => 76 | 23 => 96 | 0 => 0 | 4 => 4 | 26 => 3 | 3 => 169 | n => n, fun | n => n⟩
theorem Tryz.keysA : Go.Proofs.SlLaysZI.n10 Tryz.prog Tryz.keysA_ren := {
 mixed := by kernel_rfl
 f10 := ⟨"maps.Keys[map[int]*baize/server.conn,int,*baize/server.conn]$1", by decide, Tryz.func268.trans (congrArg some (by kernel_rfl))⟩
 t0 := Tryz.underlying0
 a0 := Tryz.isAgg0
 z0 := Tryz.sizeOf0
 v0 := Tryz.zeroValue0
 t4 := Tryz.underlying4
 a4 := Tryz.isAgg4
 z4 := Tryz.sizeOf4
 v4 := Tryz.zeroValue4
 t23 := Tryz.underlying96
 a23 := Tryz.isAgg96
 z23 := Tryz.sizeOf96
 v23 := Tryz.zeroValue96
 t26 := Tryz.underlying3
 a26 := Tryz.isAgg3
 z26 := Tryz.sizeOf3
 v26 := Tryz.zeroValue3
 t33 := Tryz.underlying76
 a33 := Tryz.isAgg76
 z33 := Tryz.sizeOf76
 v33 := Tryz.zeroValue76 }
def Tryz.keysB_ren : Go.Shelf.Ren := ⟨fun | 10 => 452 | n => n, fun | 33 => 76 | 23 => 387 | 0 => 0 | 4 => 4 | 26 => 3 | 3 => 110 | n => n, fun | n => n⟩
theorem Tryz.keysB : Go.Proofs.SlLaysZI.n10 Tryz.prog Tryz.keysB_ren := {
 mixed := by kernel_rfl
 f10 := ⟨"maps.Keys[map[int]baize/api.Token,int,baize/api.Token]$1", by decide, Tryz.func452.trans (congrArg some (by kernel_rfl))⟩
 t0 := Tryz.underlying0
 a0 := Tryz.isAgg0
 z0 := Tryz.sizeOf0
 v0 := Tryz.zeroValue0
 t4 := Tryz.underlying4
 a4 := Tryz.isAgg4
 z4 := Tryz.sizeOf4
 v4 := Tryz.zeroValue4
 t23 := Tryz.underlying387
 a23 := Tryz.isAgg387
 z23 := Tryz.sizeOf387
 v23 := Tryz.zeroValue387
 t26 := Tryz.underlying3
 a26 := Tryz.isAgg3
 z26 := Tryz.sizeOf3
 v26 := Tryz.zeroValue3
 t33 := Tryz.underlying76
 a33 := Tryz.isAgg76
 z33 := Tryz.sizeOf76
 v33 := Tryz.zeroValue76 }
def Tryz.sortedA_ren : Go.Shelf.Ren := ⟨fun | 6 => 161 | 8 => 267 | 9 => 204 | 11 => 348 | 13 => 298 | 12 => 297 | 23 => 368 | 24 => 369 | 14 => 359 | 15 => 360 | 16 => 361 | 17 => 362 | 18 => 363 | 19 => 364 | 20 => 365 | 21 => 366 | 22 => 367 | 25 => 425 | 26 => 426 | 27 => 427 | 28 => 428 | 29 => 429 | 30 => 430 | 31 => 487 | n => n, fun | 26 => 3 | 28 => 323 | 24 => 26 | 0 => 0 | 3 => 3 | 37 => 165 | 48 => 405 | 50 => 303 | 4 => 4 | 40 => 570 | 39 => 569 | 45 => 207 | 5 => 5 | 9 => 9 | 51 => 646 | 55 => 119 | 57 => 724 | 58 => 341 | 33 => 76 | n => n, fun | n => n⟩
theorem Tryz.sortedA : Go.Proofs.SlLaysZI.n6 Tryz.prog Tryz.sortedA_ren := {
 mixed := by kernel_rfl
 f6 := ⟨"slices.Sorted[int]", by decide, Tryz.func161.trans (congrArg some (by kernel_rfl))⟩
 f8 := ⟨"slices.Collect[int]", by decide, Tryz.func267.trans (congrArg some (by kernel_rfl))⟩
 f11 := ⟨"slices.AppendSeq[[]int,int]", by decide, Tryz.func348.trans (congrArg some (by kernel_rfl))⟩
 t0 := Tryz.underlying0
 a0 := Tryz.isAgg0
 z0 := Tryz.sizeOf0
 v0 := Tryz.zeroValue0
 t24 := Tryz.underlying26
 a24 := Tryz.isAgg26
 z24 := Tryz.sizeOf26
 v24 := Tryz.zeroValue26
 t26 := Tryz.underlying3
 a26 := Tryz.isAgg3
 z26 := Tryz.sizeOf3
 v26 := Tryz.zeroValue3
 t28 := Tryz.underlying323
 a28 := Tryz.isAgg323
 z28 := Tryz.sizeOf323
 v28 := Tryz.zeroValue323
 i26 := by kernel_rfl }
def Tryz.sortA_ren : Go.Shelf.Ren := ⟨fun | 5 => 204 | 8 => 298 | 7 => 297 | 19 => 368 | 20 => 369 | 10 => 359 | 11 => 360 | 12 => 361 | 13 => 362 | 14 => 363 | 15 => 364 | 16 => 365 | 17 => 366 | 18 => 367 | 30 => 425 | 31 => 426 | 32 => 427 | 33 => 428 | 34 => 429 | 35 => 430 | 40 => 487 | n => n, fun | 23 => 26 | 25 => 3 | 3 => 3 | 32 => 165 | 22 => 26 | 0 => 0 | 44 => 405 | 46 => 303 | 4 => 4 | 36 => 570 | 35 => 569 | 41 => 207 | 5 => 5 | 9 => 9 | 53 => 646 | 57 => 119 | 63 => 724 | 64 => 341 | n => n, fun | n => n⟩
theorem Tryz.sortA : Go.Proofs.SlLaysM.n5 Tryz.prog Tryz.sortA_ren := {
 mixed := by kernel_rfl
 f5 := ⟨"slices.Sort[[]int,int]", by decide, Tryz.func204.trans (congrArg some (by kernel_rfl))⟩
 f7 := ⟨"slices.pdqsortOrdered[int]", by decide, Tryz.func297.trans (congrArg some (by kernel_rfl))⟩
 f8 := Tryz.func298.trans (congrArg some (by kernel_rfl))
 f10 := ⟨"slices.insertionSortOrdered[int]", by decide, Tryz.func359.trans (congrArg some (by kernel_rfl))⟩
 f11 := ⟨"slices.heapSortOrdered[int]", by decide, Tryz.func360.trans (congrArg some (by kernel_rfl))⟩
 f12 := ⟨"slices.breakPatternsOrdered[int]", by decide, Tryz.func361.trans (congrArg some (by kernel_rfl))⟩
 f13 := ⟨"slices.choosePivotOrdered[int]", by decide, Tryz.func362.trans (congrArg some (by kernel_rfl))⟩
 f14 := ⟨"slices.reverseRangeOrdered[int]", by decide, Tryz.func363.trans (congrArg some (by kernel_rfl))⟩
 f15 := ⟨"slices.partialInsertionSortOrdered[int]", by decide, Tryz.func364.trans (congrArg some (by kernel_rfl))⟩
 f16 := ⟨"cmp.Less[int]", by decide, Tryz.func365.trans (congrArg some (by kernel_rfl))⟩
 f17 := ⟨"slices.partitionEqualOrdered[int]", by decide, Tryz.func366.trans (congrArg some (by kernel_rfl))⟩
 f18 := ⟨"slices.partitionOrdered[int]", by decide, Tryz.func367.trans (congrArg some (by kernel_rfl))⟩
 f19 := Tryz.func368.trans (congrArg some (by kernel_rfl))
 f20 := Tryz.func369.trans (congrArg some (by kernel_rfl))
 f30 := ⟨"slices.siftDownOrdered[int]", by decide, Tryz.func425.trans (congrArg some (by kernel_rfl))⟩
 f31 := Tryz.func426.trans (congrArg some (by kernel_rfl))
 f32 := Tryz.func427.trans (congrArg some (by kernel_rfl))
 f33 := ⟨"slices.medianAdjacentOrdered[int]", by decide, Tryz.func428.trans (congrArg some (by kernel_rfl))⟩
 f34 := ⟨"slices.medianOrdered[int]", by decide, Tryz.func429.trans (congrArg some (by kernel_rfl))⟩
 f35 := ⟨"cmp.isNaN[int]", by decide, Tryz.func430.trans (congrArg some (by kernel_rfl))⟩
 f40 := ⟨"slices.order2Ordered[int]", by decide, Tryz.func487.trans (congrArg some (by kernel_rfl))⟩
 t0 := Tryz.underlying0
 a0 := Tryz.isAgg0
 z0 := Tryz.sizeOf0
 v0 := Tryz.zeroValue0
 t3 := Tryz.underlying3
 a3 := Tryz.isAgg3
 z3 := Tryz.sizeOf3
 v3 := Tryz.zeroValue3
 t4 := Tryz.underlying4
 a4 := Tryz.isAgg4
 z4 := Tryz.sizeOf4
 v4 := Tryz.zeroValue4
 t5 := Tryz.underlying5
 a5 := Tryz.isAgg5
 z5 := Tryz.sizeOf5
 v5 := Tryz.zeroValue5
 t9 := Tryz.underlying9
 a9 := Tryz.isAgg9
 z9 := Tryz.sizeOf9
 v9 := Tryz.zeroValue9
 t22 := Tryz.underlying26
 a22 := Tryz.isAgg26
 z22 := Tryz.sizeOf26
 v22 := Tryz.zeroValue26
 t23 := Tryz.underlying26
 a23 := Tryz.isAgg26
 z23 := Tryz.sizeOf26
 v23 := Tryz.zeroValue26
 t25 := Tryz.underlying3
 a25 := Tryz.isAgg3
 z25 := Tryz.sizeOf3
 v25 := Tryz.zeroValue3
 t32 := Tryz.underlying165
 a32 := Tryz.isAgg165
 z32 := Tryz.sizeOf165
 v32 := Tryz.zeroValue165
 t35 := Tryz.underlying569
 a35 := Tryz.isAgg569
 z35 := Tryz.sizeOf569
 v35 := Tryz.zeroValue569
 t36 := Tryz.underlying570
 a36 := Tryz.isAgg570
 z36 := Tryz.sizeOf570
 v36 := Tryz.zeroValue570
 t41 := Tryz.underlying207
 a41 := Tryz.isAgg207
 z41 := Tryz.sizeOf207
 v41 := Tryz.zeroValue207
 t44 := Tryz.underlying405
 a44 := Tryz.isAgg405
 z44 := Tryz.sizeOf405
 v44 := Tryz.zeroValue405
 t46 := Tryz.underlying303
 a46 := Tryz.isAgg303
 z46 := Tryz.sizeOf303
 v46 := Tryz.zeroValue303
 t53 := Tryz.underlying646
 a53 := Tryz.isAgg646
 z53 := Tryz.sizeOf646
 v53 := Tryz.zeroValue646
 t57 := Tryz.underlying119
 a57 := Tryz.isAgg119
 z57 := Tryz.sizeOf119
 v57 := Tryz.zeroValue119
 t63 := Tryz.underlying724
 a63 := Tryz.isAgg724
 z63 := Tryz.sizeOf724
 v63 := Tryz.zeroValue724
 t64 := Tryz.underlying341
 a64 := Tryz.isAgg341
 z64 := Tryz.sizeOf341
 v64 := Tryz.zeroValue341 }
end Go.Proofs
noncomputable section
namespace Go.Ev
open Go.Eng Go.Proofs Go.Proofs.YtijakengkacnlaaGreatDoor
def wfB (a : Int) : Bool := (Lit.int .i64 a).wf
def srt (es : List MapEntry) (c : Nat) (k : Lv -> Rs) : Rs := match es with
 | [] => k []
 | [⟨.int .i64 a, _, n⟩] => bB (wfB a && Nat.blt n c) (k [.int .i64 a])
 | [⟨.int .i64 a, _, n⟩, ⟨.int .i64 b, _, m⟩] => bB (wfB a && wfB b && Nat.blt n c && Nat.blt m c && !Nat.beq n m && decide (a ≠ b)) (k (bif decide (a <= b) then [.int .i64 a, .int .i64 b] else [.int .i64 b, .int .i64 a]))
 | _ => .no
def Hp (g : Nat) : Bool := Nat.beq g 268 || Nat.beq g 452
def E9 (vs : Lv) (s : St) (k : KS) : Rs := match vs with
 | [.func (.func g) ⟨[]⟩ ⟨[.pointer (some ⟨b, 0, none⟩)]⟩] => bB (Hp g) <| oB (get s.h b) fun o => match o with
   | .cel [.map (some m)] _ => oB (get s.h m) fun o => match o with
     | .mp es c => srt es c fun cs => match cs with
       | [] => k (.slice none 0 0) s
       | _ => bC s (.opn cs 3) fun i s => fN cs.length fun n => k (.slice (some ⟨i, 0, none⟩) n 0) s
     | _ => .no
   | _ => .no
 | _ => .no
end Go.Ev
end
namespace Go.Ev
open Go.Eng Go.Proofs Go.Proofs.YtijakengkacnlaaGreatDoor Go.RowKit Go.Maps Go.Sort Go.Shelf
variable {w w' : World}
theorem ZX (h : Below w.heap.size w w') : Le (mp w.heap) (mp w'.heap) := fun k o hk => by
 have hlt : k < w.heap.size := (Array.getElem?_eq_some_iff.1 hk).1;exact (h.block k hlt).trans hk
variable {B : Mp} {I : As} {P : Program} {s : St} {x : Fx}
theorem Qg (M : Ms P x B I s w) (h : Below w.heap.size w w') : w' = W x w'.heap w'.drawn := by
 have h1 := h.tape; have h2 := h.os; have h3 := h.output;rw [M.wd] at h1 h2 h3;obtain ⟨h, t, d, os, out⟩ := w';simp only [W] at h1 h2 h3;subst h1; subst h2; subst h3
 rfl
theorem Ms.below (M : Ms P x B I s w) (h : Below w.heap.size w w') : Ms P x B I s w' := by
 have := M.grow w'.drawn (ZX h);rw [<- Qg M h] at this;exact this
theorem Pk {I : As} {s' : St} (M : Ms P x B I s w) {t n : Nat} {xs : Lv} {v : Value} (hz : aA P t = some 1) (hp : aQ xs = true) (hr : w'.ownsRow w.heap.size t 1 v n xs) (hn : n ≠ 0) (hb : Below w.heap.size w w') (h1 : s'.nx = s.nx + 1) (h2 : ∀ m, m ≠ s.nx -> get s'.h m = get s.h m) (h3 : ∀ u, get s'.h s.nx = some u -> .opn xs t = u) :
  ∃ J, wm I s J s' /\ Rl J (.slice (some ⟨s.nx, 0, none⟩) n 0) v /\ Ms P x B J s' w' := by
 obtain ⟨hl, ⟨rfl, h0⟩ | ⟨g, cap, cur, rfl, hg, hh, hc, hcm, hcs, htk⟩⟩ := hr
 ·exact absurd h0 hn
 have hI := M.hp.new s.nx (Nat.le_refl _);have ext := u5 (I := I) (g, 0, some cap) hI;refine ⟨upd I s.nx (g, 0, some cap), wm.new _ hI h1 h2, .slo (yD _ _ _) (by omega), M.gl_upd _, Qg M hb, ?_⟩
 have hnone : mp w.heap g = none := by
  cases h : mp w.heap g with
  | none => rfl
  | some o =>
    have : g < w.heap.size := (Array.getElem?_eq_some_iff.1 h).1;omega
 obtain ⟨cur⟩ := cur;refine M.hp.add hI hnone (ZX hb) ?_ (j5 h2 h3) (aT h1);refine ⟨g, 0, cap, 1, cur, (0, 0), yD _ _ _, hh, hz, by rw [Nat.zero_add]; exact hcs, hcm, ?_, Fz.nil _⟩;rw [List.drop_zero, hl, show cur.take (n * 1) = xs from htk];exact eC _ hp
variable {a : Int} {ss : List Int}
theorem LU (h : ss.Perm [a]) : ss.mergeSort (fun x y => decide (x <= y)) = [a] := by
 rw [List.perm_singleton.1 h]; simp [List.mergeSort]
theorem IR {a b : Int} (hn : a ≠ b) (h : ss.Perm [a, b]) : ss.mergeSort (fun x y => decide (x <= y)) = bif decide (a <= b) then [a, b] else [b, a] := by
 have hl := h.length_eq
 match ss, hl, h with
 | [c, d], _, h =>
   have hc : c = a \/ c = b := by simpa using h.mem_iff.1 (List.mem_cons_self (a := c) (l := [d]))
   have hd : d = a \/ d = b := by simpa using h.mem_iff.1 (List.mem_cons_of_mem c (List.mem_cons_self (a := d) (l := [])))
   have ha : a = c \/ a = d := by simpa using h.symm.mem_iff.1 (List.mem_cons_self (a := a) (l := [b]))
   have hb : b = c \/ b = d := by simpa using h.symm.mem_iff.1 (List.mem_cons_of_mem a (List.mem_cons_self (a := b) (l := [])))
   have h2 : (c = a /\ d = b) \/ (c = b /\ d = a) := by omega
   rcases h2 with ⟨rfl, rfl⟩ | ⟨rfl, rfl⟩
   ·by_cases hab : c <= d <;> simp [List.mergeSort, List.merge, List.MergeSort.Internal.splitInTwo, hab]
   ·by_cases hab : d <= c
    ·have : ¬ c <= d := by omega
     simp [List.mergeSort, List.merge, List.MergeSort.Internal.splitInTwo, hab, this]
    ·have : c <= d := by omega
     simp [List.mergeSort, List.merge, List.MergeSort.Internal.splitInTwo, hab, this]
structure KsOk (es : List MapEntry) (c : Nat) (ks : List Int) (l : Lv) : Prop where
 key : es.map (·.key) = ks.map encZ
 wf : ∀ a ∈ ks, (Lit.int .i64 a).wf = true
 nd : ks.Nodup
 born : (∀ x ∈ es, x.born < c) /\ (es.map (·.born)).Nodup
 few : es.length <= 2
 sorted : ∀ ss : List Int, ss.Perm ks -> (ss.mergeSort (fun x y => decide (x <= y))).map encZ = l
variable {c : Nat} {es : List MapEntry}
theorem LQ {k : Lv -> Rs} {r : Rs} (h : srt es c k = r) (hr : r ≠ .no) : ∃ ks l, k l = r /\ KsOk es c ks l := by
 unfold srt at h
 split at h
 ·exact ⟨[], [], h, rfl, by simp, by simp, ⟨by simp, by simp⟩, by simp, fun ss hs => by rw [List.perm_nil.1 hs]; simp [List.mergeSort]⟩
 ·obtain ⟨h1, h2⟩ := zl h hr;rw [Bool.and_eq_true] at h1
  rename_i a v n
  have hlt : n < c := by simpa [Nat.blt_eq] using h1.2
  exact ⟨[a], _, h2, rfl, by simpa [wfB] using h1.1, by simp, ⟨by simpa using hlt, by simp⟩, by simp, fun ss hs => by rw [LU hs]; rfl⟩
 ·obtain ⟨h1, h2⟩ := zl h hr
  rename_i a v n b u m
  simp only [Bool.and_eq_true, Nat.blt_eq, decide_eq_true_eq, Bool.not_eq_true'] at h1;obtain ⟨⟨⟨⟨⟨h1, h3⟩, h4⟩, h5⟩, h6⟩, h7⟩ := h1;refine ⟨[a, b], _, h2, rfl, ?_, by simpa using h7, ⟨?_, ?_⟩, by simp, fun ss hs => ?_⟩
  ·intro x hx;rcases List.mem_cons.1 hx with rfl | hx
   ·exact h1
   ·rw [List.mem_singleton.1 hx]; exact h3
  ·intro x hx;rcases List.mem_cons.1 hx with rfl | hx
   ·exact h4
   ·rw [List.mem_singleton.1 hx]; exact h5
  ·have : n ≠ m := fun e => by rw [e, Nat.beq_refl] at h6; cases h6
   simpa using this
  ·rw [IR h7 hs];cases decide (a <= b) <;> rfl
 ·exact absurd h.symm hr
theorem FC (m : Nat) : AnyZI.SortsIn Tryz.prog Tryz.sortedA_ren Fence.wide m :=
 ⟨fun blk off cap ss W hH hblk hsz => callsIn_wide.2 (AnyM.slices_Sort_int Tryz.sortA blk off cap ss W hH hblk hsz),
  fun p cap W => callsIn_wide.2 (AnyM.slices_Sort_int_none Tryz.sortA p cap W)⟩
def Rtr : Value -> Option (DataW Unit × List MemPlace) := fun _ => some (.lit (.bool true), [])
theorem FN {e : MapEntry} (hk : e.key = encZ a) (hw : (Lit.int .i64 a).wf = true) : WideElems.rd Tryz.prog 3 Rtr e = some (.int .i64 a, .lit (.bool true)) := by
 unfold WideElems.rd;rw [hk, keyOf_int_mk Tryz.underlying3 hw]
 rfl
theorem XL : ∀ {es : List MapEntry} {ks : List Int}, es.map (·.key) = ks.map encZ -> (∀ a ∈ ks, (Lit.int .i64 a).wf = true) -> (∀ e ∈ es, ∃ y, WideElems.rd Tryz.prog 3 Rtr e = some y) /\ (es.map (WideElems.rg Tryz.prog 3 Rtr)).map (fun p => intOf p.1) = ks
 | [], [], _, _ => ⟨(fun e h => nomatch h), rfl⟩
 | [], _ :: _, h, _ => by cases h
 | _ :: _, [], h, _ => by cases h
 | e :: es, a :: ks, h, hw => by
   simp only [List.map_cons, List.cons.injEq] at h;have h1 := FN h.1 (hw a (.head _));obtain ⟨h2, h3⟩ := XL h.2 fun b hb => hw b (.tail _ hb);refine ⟨fun x hx => ?_, ?_⟩
   ·rcases List.mem_cons.1 hx with rfl | hx
    ·exact ⟨_, h1⟩
    ·exact h2 x hx
   ·rw [List.map_cons, List.map_cons, h3];unfold WideElems.rg;rw [h1]; rfl
variable {b : Nat} {ks : List Int} {l : Lv}
theorem MB (hb : w.heap[b]? = some (.map ⟨es⟩ c)) (hk : KsOk es c ks l) : ∃ D0 : DataW Unit, w.ownsMap Tryz.prog 3 Rtr b 2 D0 /\ (intKeys D0).Perm ks /\ Maps.size D0 <= 2 := by
 obtain ⟨h1, h2⟩ := XL hk.key hk.wf;refine ⟨_, ⟨⟨es⟩, c, hb, ⟨?_, ⟨hk.born.1, hk.born.2, ?_⟩, h1⟩, hk.few, rfl⟩, ?_, ?_⟩
 ·have := hk.few;show es.length <= maxLen;simp only [maxLen]; omega
 ·show (es.map (·.key)).Nodup;rw [hk.key];exact List.pairwise_map.2 (hk.nd.imp fun h e => h (encZ_inj e))
 ·show (List.map (fun p : Lit × DataW Unit => intOf p.1) _).Perm ks;rw [<- h2];exact (WideShapes.sorted_perm _).map _
 ·show (List.foldr DataW.insert [] (es.map (WideElems.rg Tryz.prog 3 Rtr))).length <= 2;rw [(WideShapes.sorted_perm _).length_eq, List.length_map];exact hk.few
theorem qN.key_int : ∀ {es us : List MapEntry} {ks : List Int}, qN I es us -> es.map (·.key) = ks.map encZ -> us.map (·.key) = ks.map encZ
 | _, _, _, .nil, h => h
 | _, _, [], .cons _ _, h => by cases h
 | _, _, a :: _, .cons (y := y) h hs, g => by
   simp only [List.map_cons, List.cons.injEq] at g ⊢;have h1 := h.key;rw [g.1] at h1;have h2 : y.key = encZ a := by generalize y.key = u at h1; cases h1; rfl
   exact ⟨h2, qN.key_int hs g.2⟩
theorem qN.borns : ∀ {es us : List MapEntry}, qN I es us -> us.map (·.born) = es.map (·.born)
 | _, _, .nil => rfl
 | _, _, .cons h hs => by rw [List.map_cons, List.map_cons, h.born, qN.borns hs]
theorem KsOk.real {us : List MapEntry} (hk : KsOk es c ks l) (h : qN I es us) : KsOk us c ks l := by
 have hb := h.borns;refine ⟨h.key_int hk.key, hk.wf, hk.nd, ⟨fun x hx => ?_, by rw [hb]; exact hk.born.2⟩, ?_, hk.sorted⟩
 ·have h1 : x.born ∈ us.map (·.born) := List.mem_map_of_mem hx;rw [hb] at h1;obtain ⟨y, h2, h3⟩ := List.mem_map.1 h1;rw [<- h3]; exact hk.born.1 y h2
 ·have := congrArg List.length hb;rw [List.length_map, List.length_map] at this;rw [this]; exact hk.few
variable {bm g : Nat}
theorem JG (hg : Hp g = true) (hm : w.cell? ⟨bm, 0, none⟩ = some (.map (some b))) (hb : w.heap[b]? = some (.map ⟨es⟩ c)) (hk : KsOk es c ks l) :
  SeqGives Fence.wide 2 Tryz.prog g #[.pointer (some ⟨bm, 0, none⟩)] encZ (fun ss => ss.Perm ks) 2 w := by
 have hlt : bm < w.heap.size := by
  rcases Nat.lt_or_ge bm w.heap.size with h | h
  ·exact h
  ·simp [World.cell?, Array.getElem?_eq_none h] at hm
 obtain ⟨D0, h1, h2, h3⟩ := MB hb hk
 have mk : ∀ {g : Nat}, SeqGives Fence.wide 2 Tryz.prog g #[.pointer (some ⟨bm, 0, none⟩)] encZ (fun ss => ss.Perm (intKeys D0)) (Maps.size D0) w -> SeqGives Fence.wide 2 Tryz.prog g #[.pointer (some ⟨bm, 0, none⟩)] encZ (fun ss => ss.Perm ks) 2 w := fun h l J W hb hJ hY h0 =>
  (h l J W hb hJ (fun pre x W1 hj hl => hY pre x W1 hj (Nat.lt_of_lt_of_le hl h3)) h0).mono fun e w' ⟨q1, xs, q2, q3⟩ => ⟨q1, xs, q2.trans h2, q3⟩
 unfold Hp at hg;rw [Bool.or_eq_true] at hg;rcases hg with hg | hg
 ·cases Nat.eq_of_beq_eq_true hg;exact mk (AnyZI.keys_gives (ρ := Tryz.keysA_ren) Tryz.keysA Fence.wide _ trivial rfl (by omega) bm b 2 D0 w hlt hm h1)
 ·cases Nat.eq_of_beq_eq_true hg;exact mk (AnyZI.keys_gives (ρ := Tryz.keysB_ren) Tryz.keysB Fence.wide _ trivial rfl (by omega) bm b 2 D0 w hlt hm h1)
theorem U3 (hg : Hp g = true) : ∀ args w, (callFunc g args).run Tryz.prog w = .ok (.enter g args) w := by
 unfold Hp at hg;rw [Bool.or_eq_true] at hg;rcases hg with hg | hg
 ·cases Nat.eq_of_beq_eq_true hg;exact enters_of Tryz.func268 (by kernel_rfl) rfl
 ·cases Nat.eq_of_beq_eq_true hg;exact enters_of Tryz.func452 (by kernel_rfl) rfl
theorem bD (hg : Hp g = true) (hm : w.cell? ⟨bm, 0, none⟩ = some (.map (some b))) (hb : w.heap[b]? = some (.map ⟨es⟩ c)) (hk : KsOk es c ks l) :
  Calls Tryz.prog 161 #[.func (.func g) #[] #[.pointer (some ⟨bm, 0, none⟩)]] w fun e w' => ∃ v, e = .returned v /\ w'.ownsRow w.heap.size 3 1 v ks.length l /\ (v = .slice none 0 0 ↔ ks = []) /\ Below w.heap.size w w' := by
 refine (callsIn_wide (n := 5)).1 ?_;refine (AnyZI.sorted_in Tryz.sortedA Fence.wide 5 trivial trivial trivial trivial rfl (by omega) (FC _) (enters_of Tryz.func204 (by kernel_rfl) rfl) g _ trivial (U3 hg) _ 2 (by decide) (by decide) w (JG hg hm hb hk)).mono ?_;rintro e w' ⟨v, ss, rfl, h1, h2, h3, h4⟩;refine ⟨v, rfl, ?_, ?_, h4⟩
 ·rw [<- hk.sorted ss h1, <- h1.length_eq]; exact h2
 ·rw [h3];exact ⟨fun e => by rw [e] at h1; exact List.perm_nil.1 h1.symm, fun e => by rw [e] at h1; exact List.perm_nil.1 h1⟩
theorem w9 {us : Lv} {t : TypeId} {fz : Nat × Nat} {u : Value} (h : mp w.heap b = some (.cells ⟨u :: us⟩ t fz)) : w.cell? ⟨b, 0, none⟩ = some u := by
 have h : w.heap[b]? = some (.cells ⟨u :: us⟩ t fz) := h
 simp [World.cell?, h]
theorem R7 : yZ Tryz.prog 161 E9 := ⟨T5, fun {vs s k r} h hr => by
 unfold E9 at h
 split at h
 case h_2 => exact absurd h.symm hr
 rename_i g b
 obtain ⟨hg, h⟩ := zl h hr;obtain ⟨o, ho, h⟩ := zt h hr
 split at h
 case h_2 => exact absurd h.symm hr
 rename_i m t
 obtain ⟨o, hm, h⟩ := zt h hr
 split at h
 case h_2 => exact absurd h.symm hr
 rename_i es c
 obtain ⟨ks, l, h, hk⟩ := LQ h hr
 have real : ∀ {x : Fx} {B : Mp} {I : As} {w : World}, Ms Tryz.prog x B I s w -> ∀ us, xk I [.func (.func g) ⟨[]⟩ ⟨[.pointer (some ⟨b, 0, none⟩)]⟩] us -> Calls Tryz.prog 161 ⟨us⟩ w fun e w' => ∃ v, e = .returned v /\ w'.ownsRow w.heap.size 3 1 v ks.length l /\ (v = .slice none 0 0 ↔ ks = []) /\ Below w.heap.size w w' := fun {x B I w} M us hus => by
  cases hus with
  | cons q1 q2 =>
  cases q2;cases q1 with
  | func q3 q4 =>
  cases q3;cases q4 with
  | cons q5 q6 =>
  cases q6;cases q5 with
  | @ptr _ _ gb q cc q7 =>
  obtain ⟨gb', us', fz, p1, p2, p3, -⟩ := M.hp.obj b _ _ ho q7;rw [q7] at p1; cases p1;cases p3 with
  | cons p4 p5 =>
  cases p5;cases p4 with
  | map p6 =>
  obtain ⟨gm, es', r1, r2, r3⟩ := M.hp.obj m _ _ hm p6;rw [p6] at r1; cases r1;exact bD hg (w9 p2) r2 (hk.real r3)
 cases ks with
 | nil =>
   have hl : l = [] := by rw [<- hk.sorted [] (.refl _)]; simp [List.mergeSort]
   subst hl;refine ⟨_, s, h, fun {x B I w} M us hus => (real M us hus).mono ?_⟩;rintro e w' ⟨v, rfl, -, h2, h3⟩;cases h2.2 rfl;exact ⟨_, I, rfl, wm.refl I s, .nils, M.below h3⟩
 | cons a ks =>
   have hlen : l.length = (a :: ks).length := by rw [<- hk.sorted _ (.refl _), List.length_map, List.length_mergeSort]
   have hne : l ≠ [] := fun e => by rw [e] at hlen; cases hlen
   have hpf : aQ l = true := by
    rw [<- hk.sorted _ (.refl _)];generalize (List.mergeSort _ _) = q
    induction q with
    | nil => rfl
    | cons a q ih => exact ih
   cases l with
   | nil => exact absurd rfl hne
   | cons y l =>
   replace h : bC s (.opn (y :: l) 3) (fun i s => fN (y :: l).length fun n => k (.slice (some ⟨i, 0, none⟩) n 0) s) = r := h
   obtain ⟨s', h4, h5, h6, h7⟩ := qQ h;rw [ji] at h4;refine ⟨_, s', h4, fun {x B I w} M us hus => (real M us hus).mono ?_⟩;rintro e w' ⟨v, rfl, h1, -, h3⟩;rw [hlen];obtain ⟨J, k1, k2, k3⟩ := Pk M (by kernel_rfl) hpf h1 (by simp) h3 h5 h6 h7
   exact ⟨v, J, rfl, k1, k2, k3⟩⟩
end Go.Ev
namespace Go.Proofs.YtijakengkacnlaaGreatDoor
open Go.Eng
set_option maxRecDepth 100000
variable {m : Mp}
variable {A : Oa} {b c : Nat}
set_option maxHeartbeats 8000000 in
theorem Ee {n : Nat} (h : mc m ⟨b, 2, none⟩ = some (.slice A n c)) : CS Tryz.prog 215 [.pointer (some ⟨b, 0, none⟩)] m [] (fun v L' => v = .int .i64 (n : Nat) /\ L' = []) := by
 refine zM [.tmp 2] Tryz.func215 rfl rfl rfl ?_;refine tr 9 ?_;refine pe 10 (jp CZ rfl rfl) ?_;refine Lo 5 CE rfl h ?_;exact xi ⟨rfl, trivial⟩ ⟨rfl, rfl⟩
set_option maxHeartbeats 8000000 in
theorem RV {l bx : Nat} (h0 : mc m ⟨bx, 0, none⟩ = some (.pointer (some ⟨b, 0, none⟩))) (h : mc m ⟨b, 2, none⟩ = some (.slice A 0 c)) : CS Tryz.prog 214 [.func (.yield l) #[] #[], .pointer (some ⟨bx, 0, none⟩)] m [] (fun v L' => L' = []) := by
 refine zM [] Tryz.func214 rfl rfl rfl ?_;refine tr 2 ?_;refine Lo 0 CD rfl h0 ?_;refine Cr Ax rfl (fun m' hm he => (Ee (yA hm h))) ?_;rintro _ rfl;refine vr 4 ?_;refine zN (α := Unit) (fun _ => [(5, .int .i64 ((0 : Nat) : Int)), (6, .int .i64 0)]) (fun _ => []) (fun _ => True) (fun _ => 0) () ⟨rfl, rfl, trivial⟩ (.nil _) trivial ?_;rintro ⟨⟩ -;refine tr 2 ?_;refine ym 6 ?_
 refine zh ?_;refine zf ?_;exact zB [] trivial [] (zJ.nil _) rfl
end Go.Proofs.YtijakengkacnlaaGreatDoor
noncomputable section
namespace Go.Ev
open Go.Eng Go.Proofs Go.Proofs.YtijakengkacnlaaGreatDoor
def zE (g : Nat) (vs : Lv) (s : St) (r : Rs) : Rs := match vs with
 | [.pointer (some ⟨b, 0, none⟩)] => bB (Nat.beq g 214) <| oB (get s.h b) fun o => match o with
   | .cel [.pointer (some ⟨q, 0, none⟩)] _ => oB (get s.h q) fun o => match o with
     | .cel (_ :: _ :: .slice _ 0 _ :: _) _ => r
     | _ => .no
   | _ => .no
 | _ => .no
end Go.Ev
end
namespace Go.Ev
open Go.Eng Go.Proofs Go.Proofs.YtijakengkacnlaaGreatDoor
variable {I : As} {u : Value}
theorem Wh {b : Nat} (h : Rl I (.pointer (some ⟨b, 0, none⟩)) u) : ∃ g q c, I b = some (g, q, c) /\ u = .pointer (some ⟨g, q + 0, none⟩) := by
 cases h with
 | ptr h => exact ⟨_, _, _, h, rfl⟩
theorem Wi {v : Value} {us : Lv} (h : xk I [v] us) : ∃ u, us = [u] /\ Rl I v u := by
 cases h with
 | cons h hs => cases hs; exact ⟨_, rfl, h⟩
theorem FL {p : Oa} {c : Nat} (h : Rl I (.slice p 0 c) u) : ∃ A c', u = .slice A 0 c' := by
 cases h <;> exact ⟨_, _, rfl⟩
theorem Cj : ZOk Tryz.prog zE := fun {g vs s q r} h hr => by
 unfold zE at h
 split at h
 case h_2 => exact absurd h.symm hr
 rename_i b
 obtain ⟨hg, h⟩ := zl h hr;cases Nat.eq_of_beq_eq_true hg;obtain ⟨o, ho, h⟩ := zt h hr
 split at h
 case h_2 => exact absurd h.symm hr
 rename_i d t
 obtain ⟨o, hd, h⟩ := zt h hr
 split at h
 case h_2 => exact absurd h.symm hr
 rename_i v0 v1 sp sc rest t'
 refine ⟨h, by decide +kernel, fun {x B I w} M us hus l => ?_⟩;obtain ⟨u, rfl, h1⟩ := Wi hus;obtain ⟨gb, qb, cb, h2, rfl⟩ := Wh h1;obtain ⟨gb', us', fz, p1, p2, p3, -⟩ := M.hp.obj b _ _ ho h2;rw [h2] at p1; cases p1;obtain ⟨u, rfl, h3⟩ := Wi p3;obtain ⟨gd, qd, cd, h4, rfl⟩ := Wh h3;obtain ⟨gd', us', fz', r1, r2, r3, -⟩ := M.hp.obj d _ _ hd h4;rw [h4] at r1; cases r1;cases r3 with
 | cons y0 r3 =>
 cases r3 with
 | cons y1 r3 =>
 cases r3 with
 | cons y2 r3 =>
 obtain ⟨A, c, rfl⟩ := FL y2;have e1 : mc (mp w.heap) ⟨gb, 0, none⟩ = some (.pointer (some ⟨gd, 0 + 0, none⟩)) := by unfold mc; rw [p2]; rfl
 have e2 : mc (mp w.heap) ⟨gd, 2, none⟩ = some (.slice A 0 c) := by unfold mc; rw [r2]; rfl
 have := RV (l := l) e1 e2 w.heap (HS.nil (Le.refl _)) x w.drawn;rw [<- M.wd] at this;refine this.mono ?_;rintro e w' ⟨u, h', d', rfl, rfl, L', rfl, hh⟩;exact ⟨⟨u, rfl⟩, h', d', rfl, hh.base⟩
end Go.Ev
namespace Wd
open Go Go.Eng
def WQ (s : Bt) (i : Nat) : Bool := decide (i < s.length) && xn s i / 64 == 2
def rn (s : Bt) (p : Nat) : Option (Nat × Nat) :=
 if xn s p < 128 then some (xn s p, 1)
 else if xn s p / 32 == 6 && WQ s (p + 1) then
  if xn s p % 32 * 64 + xn s (p + 1) % 64 ≥ 128 then some (xn s p % 32 * 64 + xn s (p + 1) % 64, 2) else none
 else if xn s p / 16 == 14 && WQ s (p + 1) && WQ s (p + 2) then
  if xn s p % 16 * 4096 + xn s (p + 1) % 64 * 64 + xn s (p + 2) % 64 ≥ 2048 && Utf8.valid (xn s p % 16 * 4096 + xn s (p + 1) % 64 * 64 + xn s (p + 2) % 64 : Nat) then
   some (xn s p % 16 * 4096 + xn s (p + 1) % 64 * 64 + xn s (p + 2) % 64, 3) else none
 else if xn s p / 8 == 30 && WQ s (p + 1) && WQ s (p + 2) && WQ s (p + 3) then
  if xn s p % 8 * 262144 + xn s (p + 1) % 64 * 4096 + xn s (p + 2) % 64 * 64 + xn s (p + 3) % 64 ≥ 65536 && Utf8.valid (xn s p % 8 * 262144 + xn s (p + 1) % 64 * 4096 + xn s (p + 2) % 64 * 64 + xn s (p + 3) % 64 : Nat) then
   some (xn s p % 8 * 262144 + xn s (p + 1) % 64 * 4096 + xn s (p + 2) % 64 * 64 + xn s (p + 3) % 64, 4) else none
 else none
def bS (s : Bt) (p : Nat) : Nat × Nat := (rn s p).getD (65533, 1)
theorem EK (s : Bt) (i : Nat) : ((bs s).get! i).toNat = xn s i := by
 unfold xn
 have : (bs s).get! i = s.getD i 0 := by
  show (bs s).data[i]! = _;simp only [bs];rw [List.getD_eq_getElem?_getD, getElem!_def]
  simp
  cases s[i]? <;> rfl
 rw [this]
theorem HF (c0 c1 c2 c3 d1 d2 d3 : Prop) [Decidable c0] [Decidable c1] [Decidable c2] [Decidable c3] [Decidable d1] [Decidable d2] [Decidable d3] (v0 v1 v2 v3 e : Nat × Nat) :
  (if c0 then v0 else if c1 then (if d1 then v1 else e) else if c2 then (if d2 then v2 else e) else if c3 then (if d3 then v3 else e) else e) =
  (if c0 then some v0 else if c1 then (if d1 then some v1 else none) else if c2 then (if d2 then some v2 else none) else if c3 then (if d3 then some v3 else none) else none).getD e := by
 by_cases h0 : c0 <;> by_cases h1 : c1 <;> by_cases h2 : c2 <;> by_cases h3 : c3 <;> by_cases k1 : d1 <;> by_cases k2 : d2 <;> by_cases k3 : d3 <;> simp [*]
theorem HD (s : Bt) (p : Nat) : Utf8.decode (bs s) p = bS s p := by
 have h0 : (bs s).size = s.length := u9 s;have h1 : ∀ k, ((bs s).get! (p + k)).toNat = xn s (p + k) := fun k => EK s _;unfold Utf8.decode bS rn WQ;rw [h0, show (fun k => ((bs s).get! (p + k)).toNat) = fun k => xn s (p + k) from funext h1];exact HF _ _ _ _ _ _ _ _ _ _ _ _
theorem L5 {c0 c1 c2 c3 d1 d2 d3 : Prop} [Decidable c0] [Decidable c1] [Decidable c2] [Decidable c3] [Decidable d1] [Decidable d2] [Decidable d3] {v0 v1 v2 v3 r : Nat × Nat} (h : (if c0 then some v0 else if c1 then (if d1 then some v1 else none) else if c2 then (if d2 then some v2 else none) else if c3 then (if d3 then some v3 else none) else none) = some r) :
  (c0 /\ v0 = r) \/ (¬ c0 /\ c1 /\ d1 /\ v1 = r) \/ (¬ c0 /\ ¬ c1 /\ c2 /\ d2 /\ v2 = r) \/ (¬ c0 /\ ¬ c1 /\ ¬ c2 /\ c3 /\ d3 /\ v3 = r) := by
 by_cases h0 : c0 <;> by_cases h1 : c1 <;> by_cases h2 : c2 <;> by_cases h3 : c3 <;> by_cases k1 : d1 <;> by_cases k2 : d2 <;> by_cases k3 : d3 <;> simp_all
variable {s : Bt}
theorem wL {i : Nat} : WQ s i = true ↔ i < s.length /\ xn s i / 64 = 2 := by simp [WQ]
theorem fe (c : Nat) : Utf8.valid (c : Int) = true ↔ c < 55296 \/ (57344 <= c /\ c <= 1114111) := by simp [Utf8.valid]; omega
inductive S0 (s : Bt) (p : Nat) : Nat -> Nat -> Prop
 | one (h : xn s p < 128) : S0 s p (xn s p) 1
 | two (x : Nat) (h : xn s p / 32 = 6) (l1 : p + 1 < s.length) (k1 : xn s (p + 1) / 64 = 2) (hx : x = xn s p % 32 * 64 + xn s (p + 1) % 64) (h1 : 128 <= x) : S0 s p x 2
 | three (x : Nat) (h : xn s p / 16 = 14) (l1 : p + 2 < s.length) (k1 : xn s (p + 1) / 64 = 2) (k2 : xn s (p + 2) / 64 = 2) (hx : x = xn s p % 16 * 4096 + xn s (p + 1) % 64 * 64 + xn s (p + 2) % 64) (h1 : 2048 <= x) (hv : x < 55296 \/ (57344 <= x /\ x <= 1114111)) : S0 s p x 3
 | four (x : Nat) (h : xn s p / 8 = 30) (l1 : p + 3 < s.length) (k1 : xn s (p + 1) / 64 = 2) (k2 : xn s (p + 2) / 64 = 2) (k3 : xn s (p + 3) / 64 = 2)
   (hx : x = xn s p % 8 * 262144 + xn s (p + 1) % 64 * 4096 + xn s (p + 2) % 64 * 64 + xn s (p + 3) % 64) (h1 : 65536 <= x) (hv : x < 55296 \/ (57344 <= x /\ x <= 1114111)) : S0 s p x 4
variable {k p x : Nat}
theorem Wg (h : rn s p = some (x, k)) : S0 s p x k := by
 unfold rn at h;rcases L5 h with ⟨h0, e⟩ | ⟨h0, h1, h2, e⟩ | ⟨h0, h1, h2, h3, e⟩ | ⟨h0, h1, h2, h3, h4, e⟩
 ·injection e with e1 e2; subst e1 e2; exact .one h0
 ·obtain ⟨a, b⟩ := Bool.and_eq_true_iff.1 h1;obtain ⟨b1, b2⟩ := wL.1 b
  injection e with e1 e2; subst e2; exact .two x (beq_iff_eq.1 a) b1 b2 e1.symm (e1 ▸ h2)
 ·obtain ⟨a, c⟩ := Bool.and_eq_true_iff.1 h2;obtain ⟨a, b⟩ := Bool.and_eq_true_iff.1 a;obtain ⟨b1, b2⟩ := wL.1 b;obtain ⟨c1, c2⟩ := wL.1 c;obtain ⟨d1, d2⟩ := Bool.and_eq_true_iff.1 h3
  injection e with e1 e2; subst e2; exact .three x (beq_iff_eq.1 a) c1 b2 c2 e1.symm (e1 ▸ of_decide_eq_true d1) (e1 ▸ (fe _).1 d2)
 ·obtain ⟨a, d⟩ := Bool.and_eq_true_iff.1 h3;obtain ⟨a, c⟩ := Bool.and_eq_true_iff.1 a;obtain ⟨a, b⟩ := Bool.and_eq_true_iff.1 a;obtain ⟨b1, b2⟩ := wL.1 b;obtain ⟨c1, c2⟩ := wL.1 c;obtain ⟨d1, d2⟩ := wL.1 d;obtain ⟨f1, f2⟩ := Bool.and_eq_true_iff.1 h4
  injection e with e1 e2; subst e2; exact .four x (beq_iff_eq.1 a) d1 b2 c2 d2 e1.symm (e1 ▸ of_decide_eq_true f1) (e1 ▸ (fe _).1 f2)
theorem aI (h : rn s p = some (x, k)) : 1 <= k /\ k <= 4 /\ x <= 1114111 /\ (k = 1 -> x = xn s p /\ x < 128) /\ (2 <= k -> 128 <= x /\ 192 <= xn s p /\ p + k <= s.length) := by
 have b0 := T8 s p;cases Wg h <;> omega
theorem WN (s : Bt) (p : Nat) : 1 <= (bS s p).2 /\ (bS s p).2 <= 4 /\ (bS s p).1 <= 1114111 := by
 unfold bS;cases h : rn s p with
 | none => simp
 | some r =>
   obtain ⟨x, k⟩ := r;have := aI h
   simp
   omega
end Wd
namespace Wd
open Go Go.Eng
variable {k p : Nat} {s : Bt} {x : Nat}
theorem dZ (h : S0 s p x k) : rn s p = some (x, k) := by
 have hl := T8 s p;unfold rn;cases h with
 | one h => rw [if_pos h]
 | two x h l1 k1 hx h1 =>
   rw [if_neg ze, if_pos (by rw [Bool.and_eq_true_iff]; exact ⟨beq_iff_eq.2 h, wL.2 ⟨l1, k1⟩⟩), if_pos ze, hx]
 | three x h l1 k1 k2 hx h1 hv =>
   rw [if_neg ze, if_neg (by rw [Bool.and_eq_true_iff]; rintro ⟨a, _⟩; have := beq_iff_eq.1 a; omega), if_pos (by rw [Bool.and_eq_true_iff, Bool.and_eq_true_iff]; exact ⟨⟨beq_iff_eq.2 h, wL.2 ⟨by omega, k1⟩⟩, wL.2 ⟨l1, k2⟩⟩), if_pos (by rw [Bool.and_eq_true_iff]; exact ⟨decide_eq_true ze, (fe _).2 ze⟩), hx]
 | four x h l1 k1 k2 k3 hx h1 hv =>
   rw [if_neg ze, if_neg (by rw [Bool.and_eq_true_iff]; rintro ⟨a, _⟩; have := beq_iff_eq.1 a; omega), if_neg (by rw [Bool.and_eq_true_iff, Bool.and_eq_true_iff]; rintro ⟨⟨a, _⟩, _⟩; have := beq_iff_eq.1 a; omega),
    if_pos (by rw [Bool.and_eq_true_iff, Bool.and_eq_true_iff, Bool.and_eq_true_iff]; exact ⟨⟨⟨beq_iff_eq.2 h, wL.2 ⟨by omega, k1⟩⟩, wL.2 ⟨by omega, k2⟩⟩, wL.2 ⟨l1, k3⟩⟩), if_pos (by rw [Bool.and_eq_true_iff]; exact ⟨decide_eq_true ze, (fe _).2 ze⟩), hx]
theorem Pp (h : ∀ x k, ¬ S0 s p x k) : rn s p = none := by
 cases hr : rn s p with
 | none => rfl
 | some r => exact absurd (Wg (x := r.1) (k := r.2) hr) (h _ _)
theorem yR (s : Bt) (a i : Nat) : xn (s.drop a) i = xn s (a + i) := by
 unfold xn
 simp [List.getD_eq_getElem?_getD, List.getElem?_drop]
theorem XK {a : Nat} : S0 (s.drop a) p x k ↔ S0 s (a + p) x k := by
 constructor
 ·intro h;cases h with
  | one h => rw [yR] at h ⊢; exact .one h
  | two x h l1 k1 hx h1 => simp only [yR, List.length_drop] at *; exact .two x h ze k1 hx h1
  | three x h l1 k1 k2 hx h1 hv => simp only [yR, List.length_drop] at *; exact .three x h ze k1 k2 hx h1 hv
  | four x h l1 k1 k2 k3 hx h1 hv => simp only [yR, List.length_drop] at *; exact .four x h ze k1 k2 k3 hx h1 hv
 ·intro h;cases h with
  | one h => rw [<- yR] at h ⊢; exact .one h
  | two x h l1 k1 hx h1 => exact .two x (by rw [yR]; exact h) (by rw [List.length_drop]; omega) (by rw [yR]; exact k1) (by rw [yR, yR]; exact hx) h1
  | three x h l1 k1 k2 hx h1 hv => exact .three x (by rw [yR]; exact h) (by rw [List.length_drop]; omega) (by rw [yR]; exact k1) (by rw [yR]; exact k2) (by rw [yR, yR, yR]; exact hx) h1 hv
  | four x h l1 k1 k2 k3 hx h1 hv => exact .four x (by rw [yR]; exact h) (by rw [List.length_drop]; omega) (by rw [yR]; exact k1) (by rw [yR]; exact k2) (by rw [yR]; exact k3) (by rw [yR, yR, yR, yR]; exact hx) h1 hv
theorem Pq (s : Bt) (a p : Nat) : rn (s.drop a) p = rn s (a + p) := by
 cases h : rn s (a + p) with
 | some r => exact dZ (XK.2 (Wg (x := r.1) (k := r.2) h))
 | none => exact Pp fun x k hk => by rw [dZ (XK.1 hk)] at h; cases h
def w8 (x : Nat) : Bool := decide (97 <= x /\ x <= 122 \/ 65 <= x /\ x <= 90 \/ 192 <= x /\ x <= 591 /\ x ≠ 215 /\ x ≠ 247)
def kH (x : Nat) : Bool := decide (48 <= x /\ x <= 57)
def jY (x : Nat) (first : Bool) : Bool := !w8 x && (first || (!kH x && decide (x ≠ 39)))
def wX (s : Bt) (p n : Nat) : Nat × Nat :=
 if p < s.length then
  match h : rn s p with
  | none => (p, n)
  | some (x, k) => if jY x (n == 0) then (p, n) else wX s (p + k) (n + 1)
 else (p, n)
termination_by s.length - p
decreasing_by have := aI h; omega
def yX (t : Bt) (i n : Nat) : Nat × Nat :=
 if i < t.length then
  if jY (bS t i).1 (i == 0) then (i, n) else yX t (i + (bS t i).2) (n + 1)
 else (t.length, n)
termination_by t.length - i
decreasing_by have := WN t i; omega
def TY (s : Bt) (q n : Nat) : Nat × Nat :=
 if q < s.length /\ kH (xn s q) then TY s (q + 1) (min (n * 10 + (xn s q - 48)) 1000) else (q, n)
termination_by s.length - q
def Bk : List Bt := [[60, 61], [61, 61], [123], [125], [40], [41], [47], [44], [59], [43], [45], [42], [60]]
def Bm (t : Bt) : Option Bt := Bk.find? (·.isPrefixOf t)
structure Fk where
 kind : Int
 text : Bt
 n : Int
 at_ : Int
deriving DecidableEq
def seg (s : Bt) (a b : Nat) : Bt := (s.drop a).take (b - a)
inductive St where
 | err (e : Int) (a : Nat)
 | next (q : Nat) (ws : List Fk)
def isSp (x : Nat) : Bool := decide (x = 32 \/ x = 10 \/ x = 13 \/ x = 9)
def Cu (s : Bt) (p : Nat) (r : Nat × Nat) : St := if 24 < r.2 \/ 40 < r.1 - p then .err 3 p else .next r.1 [⟨1, seg s p r.1, 0, p⟩]
def Cy (s : Bt) (p : Nat) (r : Nat × Nat) : St := if xn s p = 48 /\ p + 1 < r.1 then .err 110 p else if 999 < r.2 then .err 3 p else .next r.1 [⟨2, [], r.2, p⟩]
def Cv (s : Bt) (p : Nat) : St := match Bm (s.drop p) with
 | none => .err 110 p
 | some m => .next (p + m.length) [⟨3, m, 0, p⟩]
abbrev Res := Except (Int × Nat) (List Fk)
def Cw (s : Bt) (p : Nat) (x : Nat) : St ⊕ Bool :=
 if isSp x then .inr false
 else if x = 35 then .inr true
 else if w8 x then .inl (let r := yX (s.drop p) 0 0; Cu s p (p + r.1, r.2))
 else if kH x then .inl (Cy s p (TY s p 0))
 else .inl (Cv s p)
def JF (s : Bt) (p skip : Nat) (rem : Bool) (acc : List Fk) : Res :=
 if p < s.length then
  if p < skip then JF s (p + (bS s p).2) skip rem acc
  else match rn s p with
   | none => .error (110, p)
   | some (x, _) =>
     if rem then JF s (p + (bS s p).2) skip (decide (x ≠ 10)) acc
     else match Cw s p x with
      | .inr b => JF s (p + (bS s p).2) skip b acc
      | .inl (.err e a) => .error (e, a)
      | .inl (.next q ws) => JF s (p + (bS s p).2) q false (acc ++ ws)
 else .ok (acc ++ [⟨0, [], 0, s.length⟩])
termination_by s.length - p
decreasing_by all_goals (have := WN s p; omega)
theorem NG (h : rn s p = some (x, k)) : bS s p = (x, k) := by simp [bS, h]
inductive gg (s : Bt) : Nat -> Nat -> Prop
 | refl (p : Nat) : gg s p p
 | step {p q x k : Nat} (h : rn s p = some (x, k)) (hp : p < s.length) (t : gg s (p + k) q) : gg s p q
variable {q : Nat}
theorem gg.le (h : gg s p q) : p <= q := by
 induction h with
 | refl => exact Nat.le_refl _
 | step h _ _ ih => have := aI h; omega
theorem gg.trans {r : Nat} (h : gg s p q) (k : gg s q r) : gg s p r := by
 induction h with
 | refl => exact k
 | step h hp _ ih => exact .step h hp (ih k)
theorem gg.len (h : gg s p q) (hp : p <= s.length) : q <= s.length := by
 induction h with
 | refl => exact hp
 | step h hlt _ ih =>
   exact ih (by have := aI h; omega)
theorem Wv (s : Bt) (p n : Nat) : gg s p (wX s p n).1 := by
 fun_induction wX s p n with
 | case1 => exact .refl _
 | case2 => exact .refl _
 | case3 p n hp x k h hs ih => exact .step h hp ih
 | case4 => exact .refl _
end Wd
namespace Wd
open Go Go.Eng
end Wd
namespace Wd
open Go Go.Eng
variable {n p : Nat} {s : Bt}
theorem Uu {x k : Nat} (hp : p < s.length) (h : rn s p = some (x, k)) : wX s p n = if jY x (n == 0) then (p, n) else wX s (p + k) (n + 1) := by
 rw [wX, if_pos hp]
 split
 ·rename_i hn; rw [hn] at h; cases h
 ·rename_i x' k' hr'
  rw [h] at hr'; injection hr' with e; injection e with e1 e2; subst e1 e2; rfl
theorem Uv (hp : p < s.length) (h : rn s p = none) : wX s p n = (p, n) := by
 rw [wX, if_pos hp]
 split
 ·rfl
 ·rename_i x' k' hr'
  rw [h] at hr'; cases hr'
theorem UD (s : Bt) (a : Nat) : ∀ (d i n : Nat), (s.drop a).length - i = d -> i <= (s.drop a).length -> (i = 0 ↔ n = 0) ->
  (a + (yX (s.drop a) i n).1, (yX (s.drop a) i n).2) = (if a <= s.length then wX s (a + i) n else (a, n)) := by
 intro d
 induction d using Nat.strongRecOn with
 | _ d ih =>
   intro i n hd hi hin;rw [List.length_drop] at hd hi;by_cases ha : a <= s.length
   ·rw [if_pos ha];rw [yX];rw [List.length_drop];by_cases hlt : i < s.length - a
    ·rw [if_pos hlt];have hdr := Pq s a i;have hdec : bS (s.drop a) i = bS s (a + i) := by unfold bS; rw [hdr]
     rw [hdec];cases h : rn s (a + i) with
     | none =>
       rw [Uv ze h]
       have : jY (bS s (a + i)).1 (i == 0) = true := by
        simp only [bS, h, Option.getD_none];cases hi0 : (i == 0) <;> rfl
       rw [if_pos this]
     | some r =>
       obtain ⟨x, k⟩ := r;rw [Uu ze h]
       have hb : (i == 0) = (n == 0) := by
        rw [Bool.eq_iff_iff]; simp [hin]
       have h2 := aI h;rw [NG h, hb]
       split
       ·rfl
       ·have h3 : i + k <= s.length - a := by omega
        have := ih (s.length - a - (i + k)) ze (i + k) (n + 1) (by rw [List.length_drop]) (by rw [List.length_drop]; omega) ze;rw [if_pos ha, <- Nat.add_assoc] at this;exact this
    ·rw [if_neg hlt, wX, if_neg (show ¬ a + i < s.length by omega)];have : i = s.length - a := by omega
     subst this
     rfl
   ·rw [if_neg ha];have h0 : s.drop a = [] := List.drop_eq_nil_of_le ze;rw [h0, yX]
    simp
theorem PX (hp : p <= s.length) : (p + (yX (s.drop p) 0 0).1, (yX (s.drop p) 0 0).2) = wX s p 0 := by
 have := UD s p _ 0 0 rfl (Nat.zero_le _) Iff.rfl;rwa [if_pos hp, Nat.add_zero] at this
end Wd
namespace Go.Proofs.YtijakengkacnlaaGreatDoor
open Go.Eng Wd
set_option maxRecDepth 100000
abbrev uM (w : Value) : Value -> List ya -> Prop := fun v L' => v = w /\ L' = []
variable {m : Mp}
theorem Hj (x : Nat) : CS Tryz.prog 282 [.int .i32 x] m [] (uM (.bool (w8 x))) := by
 refine zM [.tmp 2] Tryz.func282 rfl rfl rfl ?_;refine tr 11 ?_;refine kb (uq rfl rfl) rfl rfl rfl (fun hc1 => ?_) (fun hc1 => ?_);refine vr 2 ?_;refine kb (qC rfl rfl) rfl rfl rfl (fun hc2 => ?_) (fun hc2 => ?_);refine vr 16 ?_
 (exact xi zX ⟨congrArg Value.bool (by simp [w8] <;> omega), rfl⟩)
 refine vr 7 ?_;refine xI 2 ?_;refine ym 9 ?_;refine kb (yY rfl rfl) rfl rfl rfl (fun hc3 => ?_) (fun hc3 => ?_);refine vr 15 ?_
 (exact xi zX ⟨congrArg Value.bool (by simp [w8] <;> omega), rfl⟩)
 refine vr 6 ?_;refine kb (yY rfl rfl) rfl rfl rfl (fun hc4 => ?_) (fun hc4 => ?_);refine vr 12 ?_
 (exact xi zX ⟨congrArg Value.bool (by simp [w8] <;> omega), rfl⟩)
 refine vr 10 ?_;refine kb (uq rfl rfl) rfl rfl rfl (fun hc5 => ?_) (fun hc5 => ?_);refine vr 2 ?_;refine kb (qC rfl rfl) rfl rfl rfl (fun hc6 => ?_) (fun hc6 => ?_);refine vr 5 ?_
 (exact xi zX ⟨congrArg Value.bool (by simp [w8] <;> omega), rfl⟩)
 refine vr 5 ?_
 (exact xi zX ⟨congrArg Value.bool (by simp [w8] <;> omega), rfl⟩)
 refine vr 8 ?_
 (exact xi zX ⟨congrArg Value.bool (by simp [w8] <;> omega), rfl⟩)
 refine vr 10 ?_;refine kb (uq rfl rfl) rfl rfl rfl (fun hc2 => ?_) (fun hc2 => ?_);refine vr 2 ?_;refine kb (qC rfl rfl) rfl rfl rfl (fun hc3 => ?_) (fun hc3 => ?_);refine vr 13 ?_
 (exact xi zX ⟨congrArg Value.bool (by simp [w8] <;> omega), rfl⟩)
 refine vr 9 ?_;refine ym 6 ?_;refine ym 10 ?_;refine ym 8 ?_
 (exact xi zX ⟨congrArg Value.bool (by simp [w8] <;> omega), rfl⟩)
 refine vr 12 ?_;refine ym 6 ?_;refine ym 10 ?_;refine ym 8 ?_
 (exact xi zX ⟨congrArg Value.bool (by simp [w8] <;> omega), rfl⟩)
theorem NE (x : Nat) : CS Tryz.prog 283 [.int .i32 x] m [] (uM (.bool (kH x))) := by
 refine zM [.tmp 2] Tryz.func283 rfl rfl rfl ?_;refine tr 8 ?_;refine kb (uq rfl rfl) rfl rfl rfl (fun hc1 => ?_) (fun hc1 => ?_);refine vr 2 ?_;refine kb (qC rfl rfl) rfl rfl rfl (fun hc2 => ?_) (fun hc2 => ?_);refine vr 5 ?_
 (exact xi zX ⟨congrArg Value.bool (by simp [kH] <;> omega), rfl⟩)
 refine vr 5 ?_
 (exact xi zX ⟨congrArg Value.bool (by simp [kH] <;> omega), rfl⟩)
 refine vr 8 ?_
 (exact xi zX ⟨congrArg Value.bool (by simp [kH] <;> omega), rfl⟩)
end Go.Proofs.YtijakengkacnlaaGreatDoor
namespace Go.Proofs.YtijakengkacnlaaGreatDoor
open Go.Eng Wd
set_option maxRecDepth 100000
def C6 (r : Nat × Nat) : Value := .tuple [.int .i64 r.1, .int .i64 r.2].toArray
inductive Cls : Nat -> Nat -> Nat -> Nat -> Prop
 | one {b : Nat} (h : b < 128) : Cls b 1 b 0
 | two {b : Nat} (h : b / 32 = 6) : Cls b 2 (b % 32) 128
 | three {b : Nat} (h : b / 16 = 14) : Cls b 3 (b % 16) 2048
 | four {b : Nat} (h : b / 8 = 30) : Cls b 4 (b % 8) 65536
end Go.Proofs.YtijakengkacnlaaGreatDoor
namespace Go.Proofs.YtijakengkacnlaaGreatDoor
open Go.Eng Wd
set_option maxRecDepth 100000
variable {i n : Nat} {t : Bt}
theorem cM (h : ¬ i < t.length) : yX t i n = (t.length, n) := by rw [yX, if_neg h]
theorem bO (h : i < t.length) : yX t i n = if jY (bS t i).1 (i == 0) then (i, n) else yX t (i + (bS t i).2) (n + 1) := by rw [yX, if_pos h]
theorem EX (h : i < t.length) : i + (bS t i).2 <= t.length := by
 unfold bS;cases hr : rn t i with
 | none => simp; omega
 | some r => obtain ⟨x, k⟩ := r; have := aI hr; simp; omega
set_option maxHeartbeats 4000000 in
theorem aX {m : Mp} (hs : t.length <= 140737488355328) : CS Tryz.prog 175 [.string (bs t)] m [] (uM (C6 (yX t 0 0))) := by
 refine zM [.tmp 2, .tmp 3] Tryz.func175 rfl rfl rfl ?_;refine tr 10 ?_;refine zg (SV Tn rfl rfl (fun b1 => ?_)) rfl;refine vr 3 ?_
 refine zN (fun y : Nat × Nat => [(0, .string (bs t)), (7, .pointer (some ⟨b1, 0, none⟩)), (3, .int .i64 (y.2 : Nat))]) (fun y => [kA b1 t y.1]) (fun y => y.1 <= t.length /\ y.2 <= y.1 /\ yX t y.1 y.2 = yX t 0 0) (fun y => t.length - y.1) (0, 0)
  YG zu ⟨Nat.zero_le _, Nat.zero_le _, rfl⟩ ?_
 rintro ⟨i, n⟩ ⟨hq, hnq, he⟩;simp only at hq hnq he ⊢;by_cases hlt : i < t.length
 ·rw [bO hlt] at he;have hp := WN t i;have hl2 := EX hlt;have hdq := HD t i;refine tr 2 ?_;refine zg (SW rfl (by first | assumption | omega) wo .here rfl ?_) rfl;refine vr 20 ?_;generalize bS t i = r at *;obtain ⟨x, k⟩ := r;simp only at hp hl2 he ⊢;refine Cr Ai rfl (fun m' hm he => (Hj x)) ?_;rintro _ rfl;cases hl : w8 x with
  | true =>
    rw [if_neg (by simp [jY, hl])] at he;refine vr 21 ?_;refine Pa 3 ?_;exact QR (i + k, n + 1) zu ⟨by simp only; omega, by simp only; omega, he⟩ (by simp only; omega)
  | false =>
    by_cases hn0 : i = 0
    ·rw [if_pos (by simp [jY, hl, hn0])] at he;refine vr 3 ?_;refine xI 24 ?_;refine zC ?_;refine zz ?_;refine zU ?_;exact zB [_, _] YH [] fV ⟨by rw [<- he]; rfl, rfl⟩
    ·refine vr 3 ?_;refine ym 2 ?_;refine Cr Af rfl (fun m' hm he => (NE x)) ?_;rintro _ rfl;cases hd : kH x with
     | true =>
       rw [if_neg (by simp [jY, hl, hd, hn0])] at he;refine vr 14 ?_;refine Pa 3 ?_;exact QR (i + k, n + 1) zu ⟨by simp only; omega, by simp only; omega, he⟩ (by simp only; omega)
     | false =>
       by_cases h39 : x = 39
       ·rw [if_neg (by simp [jY, hl, hd, hn0, h39])] at he;refine vr 3 ?_;refine ym 10 ?_;refine Pa 3 ?_;exact QR (i + k, n + 1) zu ⟨by simp only; omega, by simp only; omega, he⟩ (by simp only; omega)
       ·rw [if_pos (by simp [jY, hl, hd, hn0, h39])] at he;refine vr 3 ?_;refine xI 17 ?_;refine zC ?_;refine zz ?_;refine zU ?_;exact zB [_, _] YH [] fV ⟨by rw [<- he]; rfl, rfl⟩
 ·rw [cM hlt] at he;refine tr 2 ?_;refine zg (HQ rfl (by first | assumption | omega) .here rfl ?_) rfl;refine vr 7 ?_;refine zh ?_;refine zf ?_;refine qt 4 ?_;refine pe 6 (uZ rfl Tn) ?_;exact zB [_, _] YH [] fV ⟨by rw [<- he]; rfl, rfl⟩
def Yp (s : Bt) : Value := .string (bs s)
end Go.Proofs.YtijakengkacnlaaGreatDoor
noncomputable section
namespace Go.Ev
open Go.Eng Go.Proofs Go.Proofs.YtijakengkacnlaaGreatDoor
def Dg (vs : Lv) (s : St) (k : KS) : Rs := match vs with
 | [.string t] => bB (WX t.data.toList) (bB (Nat.ble t.data.toList.length 1000) (fN (Uk t.data.toList true) fun n => k (.tuple #[.int .i64 (.ofNat n), .int .i64 (.ofNat n)]) s))
 | _ => .no
end Go.Ev
end
namespace Go.Ev
open Go.Eng Go.Proofs Go.Proofs.YtijakengkacnlaaGreatDoor _root_.Wd
theorem Qh : ∀ {l : Bt}, WX l = true -> ∀ i, xn l i < 128
 | [], _, i => by unfold xn; simp
 | b :: l, h, i => by
   replace h : Bool.rec (motive := fun _ => Bool) false (WX l) (Nat.ble (Nat.succ (ub b)) 128) = true := h
   cases hb : Nat.ble (Nat.succ (ub b)) 128 with
   | false => rw [hb] at h; cases h
   | true =>
     rw [hb] at h;cases i with
     | zero => exact Nat.le_of_ble_eq_true hb
     | succ i =>
       have := Qh (l := l) h i;unfold xn at this ⊢;rwa [List.getD_cons_succ]
theorem JC (a b n : Nat) : qG a b n = (decide (a <= n) && decide (n <= b)) := by
 unfold qG
 have e : ∀ x y, Nat.ble x y = decide (x <= y) := fun x y => by
  rw [Bool.eq_iff_iff, Nat.ble_eq, decide_eq_true_eq]
 rw [e, e];cases decide (a <= n) <;> rfl
theorem Hd {n : Nat} (h : n < 128) (f : Bool) : XG f n = !jY n f := by
 unfold XG jY w8 kH;rw [JC, JC, JC]
 have e : Nat.beq n 39 = decide (n = 39) := by
  rw [Bool.eq_iff_iff, Nat.beq_eq, decide_eq_true_eq]
 rw [e];by_cases h1 : 97 <= n <;> by_cases h2 : n <= 122 <;> by_cases h3 : 65 <= n <;> by_cases h4 : n <= 90 <;> by_cases h5 : 48 <= n <;> by_cases h6 : n <= 57 <;> by_cases h7 : n = 39 <;> have h8 : ¬ 192 <= n := by omega
 all_goals first | omega | (cases f <;> simp [h1, h2, h3, h4, h5, h6, h7, h8])
theorem I9 (b : UInt8) (l : Bt) (f : Bool) : Uk (b :: l) f = if XG f (ub b) then Uk l false + 1 else 0 := by
 show (match XG f (ub b) with | true => Nat.succ (Uk l false) | false => 0) = _;cases XG f (ub b) <;> rfl
theorem Wy {t : Bt} (h : WX t = true) : ∀ {k i : Nat} {l : Bt}, k = l.length -> t.drop i = l -> i <= t.length -> yX t i i = (i + Uk l (i == 0), i + Uk l (i == 0)) := by
 intro k
 induction k with
 | zero =>
   intro i l hk hd hi;cases l with
   | cons b l => cases hk
   | nil =>
     have hl := congrArg List.length hd;rw [List.length_drop] at hl;rw [cM (by simp at hl; omega), show i = t.length by simp at hl; omega]
     rfl
 | succ k ih =>
   intro i l hk hd hi;cases l with
   | nil => cases hk
   | cons b l =>
     have hlt : i < t.length := by
      rcases Nat.lt_or_ge i t.length with h | h
      ·exact h
      ·rw [List.drop_eq_nil_of_le h] at hd; cases hd
     have hb : t[i]? = some b := by
      have := congrArg (·[0]?) hd
      simpa using this
     have hby : xn t i = b.toNat := by
      unfold xn;rw [List.getD_eq_getElem?_getD, hb]; rfl
     have h128 : xn t i < 128 := Qh h i
     have hdec : bS t i = (b.toNat, 1) := by
      unfold bS rn;rw [if_pos h128, hby]; rfl
     have hd2 : t.drop (i + 1) = l := by
      rw [<- List.tail_drop, hd]; rfl
     rw [bO hlt, hdec, I9, Co, Hd (by rw [<- hby]; exact h128)];cases hs : jY b.toNat (i == 0) with
     | true => simp
     | false =>
       simp only [Bool.not_false, if_true, Bool.false_eq_true, if_false];rw [ih (by simpa using hk) hd2 hlt];rw [show (i + 1 == 0) = false by simp];rw [show i + 1 + Uk l false = i + (Uk l false + 1) by omega]
theorem Sh : yZ Tryz.prog 175 Dg := ⟨NV, fun {vs s k r} h hr => by
 unfold Dg at h
 split at h
 case h_2 => exact absurd h.symm hr
 rename_i t
 obtain ⟨h1, h⟩ := zl h hr;obtain ⟨h2, h⟩ := zl h hr;rw [ji] at h;have h2 := Nat.le_of_ble_eq_true h2;refine ⟨_, _, h, wv.pure (fun m => ?_) (fun hus => ?_) fun J => .tuple (.cons (.int _ _) (.cons (.int _ _) .nil))⟩
 ·have e := aX (m := m) (t := t.data.toList) (by omega);rw [Wy h1 rfl (List.drop_zero ..) (Nat.zero_le _)] at e;simp only [Nat.zero_add] at e;exact e
 ·obtain ⟨u, rfl, h3⟩ := Wi hus
  cases h3; rfl⟩
end Go.Ev
namespace Go.Proofs.YtijakengkacnlaaGreatDoor
open Go.Eng Go.Ev Go.RowKit
set_option maxRecDepth 100000
variable {m : Mp}
variable {c : Nat} {es : List MapEntry} {gm : Nat} {ks : List Int} {l : Lv}
theorem IQ {bx : Nat} (h1 : mc m ⟨bx, 0, none⟩ = some (.map (some gm))) (h2 : m gm = some (.map ⟨es⟩ c)) (hk : KsOk es c ks l) :
  CS Tryz.prog 161 [.func (.func 452) #[] #[.pointer (some ⟨bx, 0, none⟩)]] m [] (fun v L' => ∃ A c, v = .slice A ks.length c /\ L' = [own 3 1 A ks.length c l]) := by
 intro h hs x d;refine (bD (w := W x h d) (by decide) ((w9 _ _).trans (yA hs.base h1)) (hs.base _ _ h2) hk).mono ?_;rintro e w' ⟨v, rfl, ⟨hl, hr⟩, -, hb⟩
 have hw : w' = W x w'.heap w'.drawn := by
  obtain ⟨h', t, d', os, out⟩ := w';have e1 := hb.tape; have e2 := hb.os; have e3 := hb.output;simp only [W] at e1 e2 e3 ⊢;subst e1; subst e2; subst e3; rfl
 have hle : Le m (mp w'.heap) := hs.base.trans (ZX hb);rcases hr with ⟨rfl, h0⟩ | ⟨g, cap, cur, rfl, hg, hh, hc, hcm, hcs, htk⟩
 ·refine ⟨_, _, _, rfl, hw, _, ⟨none, 0, by rw [h0], rfl⟩, HS.cons_iff.2 ⟨HS.nil hle, ⟨hl, by rw [h0]; exact Nat.le_refl _, .inl ⟨rfl, rfl⟩⟩, (fun k hk => by cases hk), (fun x hx => by cases hx)⟩⟩
 ·refine ⟨_, _, _, rfl, hw, _, ⟨_, _, rfl, rfl⟩, HS.cons_iff.2 ⟨HS.nil hle, ⟨hl, hc, .inr ⟨g, 0, cur, rfl, hh, hcm, by rw [Nat.zero_add, hcs]; exact Nat.le_refl _, by rw [List.drop_zero]; exact htk⟩⟩, (fun k hk => ?_), (fun x hx => by cases hx)⟩⟩
  have hk' : k = g := by
   have : (some g == some k) = true := hk
   simpa using (beq_iff_eq.1 this).symm
  subst hk';cases hm : m k with
  | none => rfl
  | some o =>
    have := (Array.getElem?_eq_some_iff.1 (hs.base _ _ hm)).1;have hg' : h.size <= k := hg;omega
set_option maxHeartbeats 8000000 in
theorem P7 {mb : Option Nat} : CS Tryz.prog 380 [.map mb] m [] (fun v L' => ∃ bx, v = .func (.func 452) #[] #[.pointer (some ⟨bx, 0, none⟩)] /\ L' = [cel bx [.map mb] 387]) := by
 refine zM [.tmp 2] Tryz.func380 rfl rfl rfl ?_;refine tr 2 ?_;refine Bx 10 rfl fun b1 => ?_;exact zB [_] ⟨rfl, trivial⟩ [_] .p0 ⟨_, rfl, rfl⟩
set_option maxHeartbeats 8000000 in
theorem IV (h2 : m gm = some (.map ⟨es⟩ c)) (hk : KsOk es c ks l) :
  CS Tryz.prog 315 [.map (some gm)] m [] (fun v L' => ∃ A c, v = .slice A ks.length c /\ L' = [own 3 1 A ks.length c l]) := by
 refine zM [.tmp 2] Tryz.func315 rfl rfl rfl ?_;refine tr 8 ?_;refine zg ((zr BZ rfl (fun m' hm he => P7) rfl ?_)) rfl;rintro _ _ ⟨bx, rfl, rfl⟩;skip;refine zg ((zr T5 rfl (fun m' hm he => IQ (zy (he _ (.head _)) rfl) (hm _ _ h2) hk) rfl ?_)) rfl;rintro _ _ ⟨A, c', rfl, rfl⟩;refine vr 4 ?_;exact zB [_] ⟨rfl, trivial⟩ [_] .p0 ⟨_, _, rfl, rfl⟩
set_option maxHeartbeats 8000000 in
theorem Dy {q : Oa} : CS Tryz.prog 229 [.pointer q] m [] (fun v L' => ∃ bx, v = .func (.func 314) #[] #[.pointer (some ⟨bx, 0, none⟩)] /\ L' = [cel bx [.pointer q] 184]) := by
 refine zM [.tmp 2] Tryz.func229 rfl rfl rfl ?_;refine tr 2 ?_;refine Bx 10 rfl fun b1 => ?_;exact zB [_] ⟨rfl, trivial⟩ [_] .p0 ⟨_, rfl, rfl⟩
end Go.Proofs.YtijakengkacnlaaGreatDoor
namespace Go.Proofs.YtijakengkacnlaaGreatDoor
open Go.Eng Go.RowKit
open Go.Ev (KsOk KG)
set_option maxRecDepth 100000
variable {k : Int}
theorem UT : ∀ {es : List MapEntry} {ks : List Int} (j : Nat), es.map (·.key) = ks.map encZ -> k ∈ ks -> ∃ i x, x ∈ es /\ Instr.findNow (.int .i64) (encZ k) es j = some (some (i, x.val))
 | [], [], _, _, h => by cases h
 | [], _ :: _, _, h, _ => by cases h
 | _ :: _, [], _, h, _ => by cases h
 | e :: es, a :: ks, j, h, hk => by
   simp only [List.map_cons, List.cons.injEq] at h;by_cases hka : a = k
   ·subst hka;exact ⟨j, e, .head _, by simp [Instr.findNow, Instr.sameNow, h.1]⟩
   ·obtain ⟨i, x, h1, h2⟩ := UT (j + 1) h.2 ((List.mem_cons.1 hk).resolve_left fun e => hka e.symm);refine ⟨i, x, .tail _ h1, ?_⟩;have hak : (k == a) = false := by simpa using fun e : k = a => hka e.symm
    simp [Instr.findNow, Instr.sameNow, h.1, hak, h2]
variable {es : List MapEntry} {ks : List Int}
theorem HU (hk : es.map (·.key) = ks.map encZ) (hin : k ∈ ks) : ∃ e, e ∈ es /\ ∀ {P : Program} {n : Nat} {env : Env} {dst : Option Tmp} {ty : TypeId} {pos : String} {aft : Array Edge} {gd : Option (Nat × Bool)} {t kt el b c : Nat} {x y : Operand} {h : zZ},
  P.underlying t = some (.map kt el) -> P.underlying kt = some (.int .i64) -> ev env x = some (.map (some b)) -> ev env y = some (.int .i64 k) -> mp h b = some (.map ⟨es⟩ c) -> xM P n ⟨dst, .lookup t x y false, ty, pos, aft, gd⟩ env h e.val := by
 obtain ⟨i, e, h1, h2⟩ := UT 0 hk hin;refine ⟨e, h1, fun {P n env dst ty pos aft gd t kt el b c x y h} ht hu hx hy hm a w ha hl => ?_⟩;have hb : w.heap[b]? = some (.map ⟨es⟩ c) := hl _ _ hm;have hf : ∀ w, (Instr.findKey kt (encZ k) es).run P w = .ok (some (i, e.val)) w := fun w => MapKept.run_findKey hu h2;have hc := fun em w => KG.check (P := P) (KG.int (kd := .i64) (x := k) hu) em w
 simp [execOp, ha.eval hx, ha.eval hy, Instr.lookup, run_underlying ht, hc, hf, MapKept.run_getObj_map hb]
structure Lt (now : Int) (m : Mp) (bx gq gm c : Nat) (es : List MapEntry) (ks : List Int) (l : Lv) : Prop where
 cell : mc m ⟨bx, 0, none⟩ = some (.pointer (some ⟨gq, 0, none⟩))
 fld : mc m ⟨gq, 1, none⟩ = some (.map (some gm))
 map : m gm = some (.map ⟨es⟩ c)
 ok : KsOk es c ks l
 vals : ∀ x ∈ es, ∃ v0 v1 u, x.val = .agg #[.string v0, .int .i8 v1, .int .i64 u] /\ now <= u
variable {bx c gm gq : Nat} {l : Lv} {now : Int}
theorem Lt.mono {m m' : Mp} (h : Lt now m bx gq gm c es ks l) (hl : Le m m') : Lt now m' bx gq gm c es ks l := ⟨yA hl h.cell, yA hl h.fld, hl _ _ h.map, h.ok, h.vals⟩
def OW (V W : World) : Prop := ∀ (k : Nat) (o : Obj), V.heap[k]? = some o -> (o.isCells = true \/ o.isWalk = true) -> W.heap[k]? = some o
variable {V W : World}
theorem K0 {a : Addr} {v : Value} (h : OW V W) (hc : mc (mp V.heap) a = some v) : mc (mp W.heap) a = some v := by
 unfold mc at hc ⊢;cases hm : mp V.heap a.block with
 | none => rw [hm] at hc; cases hc
 | some o =>
   cases o with
   | cells c t f =>
     have : mp W.heap a.block = some (.cells c t f) := h _ _ hm (.inl rfl);rw [this]; rw [hm] at hc; exact hc
   | _ => rw [hm] at hc; cases hc
theorem Lt.keep (h : Lt now (mp V.heap) bx gq gm c es ks l) (hk : OW V W) : Lt now (mp W.heap) bx gq gm c es ks l :=
 ⟨K0 hk h.cell, K0 hk h.fld, hk _ _ h.map (.inr rfl), h.ok, h.vals⟩
variable {n : Nat}
theorem MC {e sz : Nat} {A : Oa} {xs : Lv} (h : Go.Eng.Own (mp V.heap) e sz A n c xs) (hk : OW V W) : Go.Eng.Own (mp W.heap) e sz A n c xs := by
 obtain ⟨h1, h0, h2⟩ := h;refine ⟨h1, h0, ?_⟩;rcases h2 with h2 | ⟨g, o, cur, a, b, r⟩
 ·exact .inl h2
 ·exact .inr ⟨g, o, cur, a, hk _ _ b (.inl rfl), r⟩
def Tk3 (now : Int) : Type := { p : Int × Lv // ∃ v0 v1 u, p.2 = [.string v0, .int .i8 v1, .int .i64 u] /\ now <= u }
def RR {now : Int} (x : Tk3 now) : Array Value := #[.int .i64 x.1.1, .agg x.1.2.toArray]
def gc (l bx : Nat) (A : Oa) (n c : Nat) (k : Nat) : Env := [(0, .func (.yield l) #[] #[]), (1, .pointer (some ⟨bx, 0, none⟩)), (11, .slice A n c), (12, .int .i64 (n : Nat)), (13, .int .i64 (k : Nat))]
def QT (a : Act) : Nat := match a.tmps[13]? with
 | some (Value.int _ n) => n.toNat
 | _ => 0
set_option maxHeartbeats 8000000 in
theorem RU {n : Nat} {lv : Lv} {now : Int} {w : World} (hb : Lt now (mp w.heap) bx gq gm c es ks lv) :
  SeqStopsK Fence.wide (n + 1) Tryz.prog 314 #[.pointer (some ⟨bx, 0, none⟩)] (RR (now := now)) OW (fun _ => True) (fun _ => True) ks.length w := fun l J Jx W0 hB hJ hJx hY h0 => by
 have hE0 : Lt now (mp W0.heap) bx gq gm c es ks lv := hb.mono (fun k o hk => by
  have hlt : k < w.heap.size := (Array.getElem?_eq_some_iff.1 hk).1
  exact (hB.block k hlt).trans hk)
 have hJ' : ∀ {s : List (Tk3 now)} {x : Fx} {h h' : zZ} {d d' : Nat}, J s (W x h d) -> Le (mp h) (mp h') -> J s (W x h' d') := fun hs hle => hJ _ _ _ none hs (UO hle none) (fun r e => by cases e)
 have hfew : ks.length <= 2 := by
  have := congrArg List.length hb.ok.key;rw [List.length_map, List.length_map] at this;rw [<- this]; exact hb.ok.few
 have hll : lv.length = ks.length := by rw [<- hb.ok.sorted _ (.refl _), List.length_map, List.length_mergeSort]
 rw [show (#[Value.func (.yield l) #[] #[]] ++ #[.pointer (some ⟨bx, 0, none⟩)] : Array Value) = [Value.func (.yield l) #[] #[], .pointer (some ⟨bx, 0, none⟩)].toArray from rfl];refine callsIn_wide.2 (calls_of_wp Tryz.func314 rfl ?_);refine Sz (Qo W0) (fun a hag => ?_) (A8 (by show 2 <= 28; decide));have hm0 := hE0.cell;have hf0 := hE0.fld
 refine qY (m := mp W0.heap) (L := []) (K := fun env' L' => L' = [] /\ dF [(6, .bool false), (0, .func (.yield l) #[] #[]), (1, .pointer (some ⟨bx, 0, none⟩))] env') ?_ (HS.nil (Le.refl _)) hag ?_
 ·refine tr 2 ?_;refine Lo 0 LV rfl hm0 ?_;refine pe 4 (jp C0 rfl rfl) ?_;exact jo [] (zJ.nil _) ⟨rfl, rfl, rfl, rfl, trivial⟩
 rintro env1 _ h1 d1 a1 ⟨rfl, hsub⟩ hs1 hag1;have hag1 := hag1.sub hsub;have hm0 := hE0.cell;have hf0 := hE0.fld;refine qY (m := mp W0.heap) (L := []) (K := fun env' L' => ∃ A c, L' = [own 3 1 A ks.length c lv] /\ dF (gc l bx A ks.length c 0) env') ?_ hs1 hag1 ?_
 ·refine tr 1 ?_;refine Lo 2 LV rfl hm0 ?_;refine Lo 0 Tu rfl hf0 ?_;refine zg ((zr B7 rfl (fun m' hm he => IV (hm _ _ hE0.map) hb.ok) rfl ?_)) rfl;rintro _ _ ⟨A, c', rfl, rfl⟩;refine vr 3 ?_;exact jo [_] .p0 ⟨_, _, rfl, rfl, rfl, rfl, rfl, rfl, trivial⟩
 rintro env2 _ h2 d2 a2 ⟨A, cA, rfl, hsub⟩ hs2 hag2;have hag2 := hag2.sub hsub;have hA0 : Go.Eng.Own (mp h2) 3 1 A ks.length cA lv := hs2.inv _ (.head _);have hE2 := hE0.mono hs2.base;refine wp_block ?_
 refine wp_loop (fun a V => ∃ (x : Fx) (h : zZ) (d k : Nat) (xs : List (Tk3 now)), x.ds = [] /\ kj 28 x (gc l bx A ks.length cA k) a /\ V = W x h d /\ Lt now (mp h) bx gq gm c es ks lv /\ Go.Eng.Own (mp h) 3 1 A ks.length cA lv /\ k <= ks.length /\ xs.length = k /\ J xs V)
  (fun a _ => ks.length - (QT a)) ⟨_, h2, d2, 0, [], rfl, hag2, rfl, hE2, hA0, Nat.zero_le _, rfl, hJ' (x := ⟨W0.tape, W0.os, W0.output, []⟩) (d := W0.drawn) h0 hs2.base⟩ ?_
 clear hag hag1 hag2 hsub hs1 hs2 hm0 hf0 hE2 hA0;rintro a _ ⟨x, h, d, k, xs, hds, hag, rfl, hE, hA, hk, hxs, hJk⟩;have slot : ∀ {a : Act} {x : Fx} {k : Nat}, kj 28 x (gc l bx A ks.length cA k) a -> QT a = k := fun h => by unfold QT; rw [h.at_ 13 _ rfl]; rfl
 have hrun : ∀ (a : Act) (w : World), (results Tryz.f314 a.tmps).run Tryz.prog w = .ok (VG []) w := fun a w => bH (rs := []) rfl _ _;by_cases hlt : k < ks.length
 ·have hlv : lv[k]? = some (lv.getD k default) := by rw [List.getD_eq_getElem?_getD, List.getElem?_eq_getElem (by omega : k < lv.length)]; rfl
  obtain ⟨q, hq, hqv⟩ : ∃ q, q ∈ ks /\ lv[k]? = some (.int .i64 q) := by
   have h1 := hb.ok.sorted _ (.refl _);rw [<- h1, List.getElem?_map] at hlv ⊢;have hlt' : k < (ks.mergeSort fun x y => decide (x <= y)).length := by rw [List.length_mergeSort]; exact hlt
   rw [List.getElem?_eq_getElem hlt'];exact ⟨_, (List.mergeSort_perm ks _).mem_iff.1 (List.getElem_mem hlt'), rfl⟩
  clear hlv;refine qY (m := mp h) (L := []) (K := fun env' L' => L' = [] /\ dF ((14, .bool true) :: gc l bx A ks.length cA k) env') ?_ (HS.nil (Le.refl _)) hag ?_
  ·unfold gc;refine tr 1 ?_;refine xI 1 ?_;exact jo [] (zJ.nil _) ⟨rfl, rfl, rfl, rfl, rfl, rfl, rfl, trivial⟩
  rintro env1 _ h1 d1 a1 ⟨rfl, hsub⟩ hs1 hag1;have hJ1 := hJ' (d' := d1) hJk hs1.base;have hE1 := hE.mono hs1.base;have hA1 := hA.mono hs1.base;have hag1 := hag1.sub hsub;refine wp_seq (wp_cond_true (hag1.toAg.eval rfl) (wp_skip ?_));refine wp_seq (wp_block ?_)
  have hAs := vo (m := fun _ => none) (L := [own 3 1 A ks.length cA lv]) .here (by omega) h1 (HS.cons_iff.2 ⟨HS.nil (fun _ _ e => by cases e), hA1, fun _ _ => rfl, fun _ h => by cases h⟩);have hel : mc (mp h1) ((sa A).add k) = some (.int .i64 q) := (hA1.rd _ _ hqv).2
  refine qY (m := mp h1) (L := []) (K := fun env' L' => L' = [] /\ dF ((4, .int .i64 q) :: gc l bx A ks.length cA k) env') ?_ (HS.nil (Le.refl _)) hag1 ?_
  ·unfold gc;refine tr 1 ?_;refine pe 0 (yE ac rfl rfl hAs (by omega)) ?_;refine Lo 2 yH rfl hel ?_;exact jo [] (zJ.nil _) ⟨rfl, rfl, rfl, rfl, rfl, rfl, rfl, trivial⟩
  rintro env2 _ h2 d2 a2 ⟨rfl, hsub2⟩ hs2 hag2;have hJ2 := hJ' (d' := d2) hJ1 hs2.base;have hE2 := hE1.mono hs2.base;have hA2 := hA1.mono hs2.base;have hag2 := hag2.sub hsub2;obtain ⟨e, he, hR⟩ := HU hE2.ok.key hq;obtain ⟨v0, v1, u, hev, hnow⟩ := hE2.vals e he;refine wp_seq (wpIn_wide (n := n + 1).1 (wpIn_region_lit ?_));refine kW (zF rfl) rfl rfl hag2 ?_
  have hag3 := hag2.put 17 (.func (.yield l) #[] #[]) (by decide);refine kW (zF rfl) rfl rfl hag3 ?_;have hag3 := hag3.put 18 (.int .i64 q) (by decide);refine Vo (zL LV rfl hE2.cell) rfl rfl hag3 (Le.refl _) ?_;have hag3 := hag3.put 19 (.pointer (some ⟨gq, 0, none⟩)) (by decide);refine kW (eQ rfl) rfl rfl hag3 ?_
  have hag3 := hag3.put 20 (.pointer (some ⟨gq, 0, none⟩)) (by decide);refine kW (zj RD rfl) rfl rfl hag3 ?_;have hag3 := hag3.put 21 (.pointer (some ⟨gq, 0 + 1, none⟩)) (by decide);refine Vo (zL Tu rfl hE2.fld) rfl rfl hag3 (Le.refl _) ?_;have hag3 := hag3.put 22 (.map (some gm)) (by decide);refine kW (zF rfl) rfl rfl hag3 ?_
  have hag3 := hag3.put 23 (.int .i64 q) (by decide);refine Vo (hR Tryz.underlying387 Tryz.underlying3 rfl rfl hE2.map) rfl rfl hag3 (Le.refl _) ?_;have hag3 := hag3.put 24 e.val (by decide);rw [hev] at hag3 ⊢;have hY1 := hY xs ⟨(q, [.string v0, .int .i8 v1, .int .i64 u]), v0, v1, u, rfl, hnow⟩ _ hJ2 (by omega);refine OH rfl rfl rfl hag3 hY1 ?_;rintro e' W3 (⟨rfl, hJ3, hk3⟩ | ⟨rfl, hJ3⟩)
  ·refine ⟨_, rfl, ?_⟩;have hag3 := hag3.put 25 (.bool true) (by decide);refine kW (vJ rfl) rfl rfl hag3 (wpListIn_nil ?_);have hag3 := hag3.put 26 (.bool (!true)) (by decide);refine wp_cond_false (hag3.toAg.eval rfl) (wp_skip ?_);have hag7 := (hag3.re (x' := ⟨W3.tape, W3.os, W3.output, []⟩) hds).sub (r := gc l bx A ks.length cA k) ⟨rfl, rfl, rfl, rfl, rfl, trivial⟩
   refine Sz (Qo W3) (fun a3 hag3 => ?_) hag7;refine wp_T (m := mp W3.heap) (L := []) (K := fun env' L' => L' = [] /\ dF (gc l bx A ks.length cA (k + 1)) env') ?_ (HS.nil (Le.refl _)) hag3 ?_
   ·unfold gc;refine tr 1 ?_;refine Pa 2 ?_;exact jo [] (zJ.nil _) ⟨rfl, rfl, rfl, rfl, rfl, rfl, trivial⟩
   rintro env4 _ h4 d4 a4 ⟨rfl, hsub4⟩ hs4 hag8;have hag8 := hag8.sub hsub4;refine ⟨⟨_, h4, d4, k + 1, _, rfl, hag8, rfl, (hE2.keep hk3).mono hs4.base, (MC hA2 hk3).mono hs4.base, hlt, ?_, hJ' (x := ⟨W3.tape, W3.os, W3.output, []⟩) (d := W3.drawn) hJ3 hs4.base⟩, ?_⟩
   ·rw [List.length_append, hxs]; rfl
   ·rw [slot hag8, slot hag]; omega
  ·refine ⟨_, rfl, ?_⟩;have hag3 := hag3.put 25 (.bool false) (by decide);refine kW (vJ rfl) rfl rfl hag3 (wpListIn_nil ?_);have hag3 := hag3.put 26 (.bool (!false)) (by decide);refine wp_cond_true (hag3.toAg.eval rfl) (wp_ret ?_);exact ⟨hag3.defers.trans hds, _, hrun _ _, ⟨_, rfl⟩, .inr ⟨_, trivial, hJ3⟩⟩
 ·refine qY (m := mp h) (L := []) (K := fun env' L' => L' = [] /\ dF ((14, .bool false) :: gc l bx A ks.length cA k) env') ?_ (HS.nil (Le.refl _)) hag ?_
  ·unfold gc;refine tr 1 ?_;refine ym 1 ?_;exact jo [] (zJ.nil _) ⟨rfl, rfl, rfl, rfl, rfl, rfl, rfl, trivial⟩
  rintro env1 _ h1 d1 a1 ⟨rfl, hsub⟩ hs1 hag1;have hJ1 := hJ' (d' := d1) hJk hs1.base;have hag1 := hag1.sub hsub;refine wp_seq (wp_cond_false (hag1.toAg.eval rfl) (wp_exit ?_));exact ⟨hag1.defers.trans hds, _, hrun _ _, ⟨_, rfl⟩, .inl ⟨xs, trivial, hJ1⟩⟩
end Go.Proofs.YtijakengkacnlaaGreatDoor
namespace Go.Proofs.YtijakengkacnlaaGreatDoor
open Go.Eng Go.RowKit
open Go.Ev (KsOk KG)
set_option maxRecDepth 100000
structure Bl where
 b3 : Nat
 b4 : Nat
 bx : Nat
 gq : Nat
 now : Int
def Bl.L (z : Bl) : List ya := [cel z.bx [.pointer (some ⟨z.gq, 0, none⟩)] 184, cel z.b4 [.slice none 0 0] 26, cel z.b3 [.int .i64 z.now] 2]
def Bl.E (z : Bl) : Env := [(0, .pointer (some ⟨z.gq, 0, none⟩)), (3, .pointer (some ⟨z.b3, 0, none⟩)), (4, .pointer (some ⟨z.b4, 0, none⟩)), (10, .func (.func 314) #[] #[.pointer (some ⟨z.bx, 0, none⟩)])]
theorem Bl.only (z : Bl) : ∀ e ∈ z.L, qW e := by
 intro e he;simp only [Bl.L, List.mem_cons, List.not_mem_nil, or_false] at he;rcases he with rfl | rfl | rfl <;> exact ZU _ _ _
theorem Bq {A B C : World} (h1 : OW A B) (h2 : OW B C) : OW A C := fun k o hk ho => h2 _ _ (h1 _ _ hk ho) ho
variable {W : World}
theorem Br {l : Nat} {o o' : Obj} (ho : W.heap[l]? = some o) (hc : o.isCells = false) (hw : o.isWalk = false) : OW W (W.putObj l o') := fun k ob hk hkind => by
 have hne : k ≠ l := by
  rintro rfl;rw [ho] at hk; cases hk;rcases hkind with h | h
  ·rw [hc] at h; cases h
  ·rw [hw] at h; cases h
 exact (World.putObj_heap_other hne).trans hk
theorem M4 {V : World} (h : Le (mp V.heap) (mp W.heap)) : OW V W := fun k o hk _ => h k o hk
variable {m : Mp}
theorem Jr {L : List ya} {h h' : zZ} (hc : ∀ e ∈ L, ∃ b l t, e = cel b l t) (h1 : HS m L h) (h2 : HS (awayL L (mp h)) L h') : Le (mp h) (mp h') := fun k o hk => by
 by_cases ha : (L.any fun e => e.dom k) = true
 ·obtain ⟨e, he, hd⟩ := List.any_eq_true.1 ha;obtain ⟨b, l, t, rfl⟩ := hc e he;have i1 := h1.inv _ he;have i2 := h2.inv _ he
  have hb : b = k := by
   exact (by simpa [cel, blk] using hd)
  subst hb;have i1 : mp h b = some (.cells l.toArray t (0, 0)) := i1;rw [hk] at i1; cases i1;exact i2
 ·exact h2.base k o (by unfold awayL; rw [if_neg ha]; exact hk)
theorem Bl.cels (z : Bl) : ∀ e ∈ z.L, ∃ b l t, e = cel b l t := by
 intro e he;simp only [Bl.L, List.mem_cons, List.not_mem_nil, or_false] at he;rcases he with rfl | rfl | rfl <;> exact ⟨_, _, _, rfl⟩
set_option maxHeartbeats 8000000 in
theorem P6 {m : Mp} {gq gm c : Nat} {es : List MapEntry} {ks : List Int} {lv : Lv} {now : Int} (h1 : mc m ⟨gq, 1, none⟩ = some (.map (some gm))) (h2 : m gm = some (.map ⟨es⟩ c)) (hok : KsOk es c ks lv) (hvals : ∀ x ∈ es, ∃ v0 v1 u, x.val = .agg #[.string v0, .int .i8 v1, .int .i64 u] /\ now <= u) :
  CS Tryz.prog 141 [.pointer (some ⟨gq, 0, none⟩), .int .i64 now] m [] (uM (.slice none 0 0)) := by
 intro h hH x0 d0;refine (callsIn_wide (n := 3)).1 (callsIn_of_wp_marks Tryz.func141 rfl trivial ?_);refine wpIn_wide.2 ?_;refine Sz (x := ⟨x0.tape, x0.os, x0.out, []⟩) (h := h) (d := d0) rfl (fun a hag => ?_) (A8 (by show 2 <= 32; decide))
 refine qY (m := m) (L := []) (K := fun env' L' => ∃ b3 b4, L' = [cel b4 [.slice none 0 0] 26, cel b3 [.int .i64 now] 2] /\ dF [(0, .pointer (some ⟨gq, 0, none⟩)), (3, .pointer (some ⟨b3, 0, none⟩)), (4, .pointer (some ⟨b4, 0, none⟩))] env') ?_ hH hag ?_
 ·refine tr 1 ?_;refine Bx 0 rfl fun b1 => ?_;refine Al 1 zl26 fun b2 => ?_;exact jo _ (zJ.refl _) ⟨b1, b2, rfl, rfl, rfl, rfl, trivial⟩
 rintro env1 _ h1' d1 a1 ⟨b3, b4, rfl, hsub⟩ hs1 hag1;have hag1 := hag1.sub hsub;refine wp_seq ?_;refine qY (m := m) (K := fun env' L' => ∃ z : Bl, z.gq = gq /\ z.now = now /\ L' = z.L /\ dF z.E env') ?_ hs1 hag1 ?_
 ·refine tr 2 ?_;refine zg ((zr Aw rfl (fun m' hm he => Dy) rfl ?_)) rfl;rintro _ _ ⟨bx, rfl, rfl⟩;refine vr 1 ?_;exact jo _ (zJ.refl _) ⟨⟨b3, b4, bx, gq, now⟩, rfl, rfl, rfl, rfl, rfl, rfl, rfl, trivial⟩
 rintro env2 _ h6 d6 a6 ⟨z, hzq, hzn, rfl, hsub⟩ hs6 hag6;have hag6 := hag6.sub hsub;subst hzq hzn;clear hag hag1 hs1 hsub
 have hmB : ∀ k, h6.size <= k -> m k = none := fun k hk => by
  cases hm : m k with
  | none => rfl
  | some o =>
    have := hs6.base k o hm;have := (Array.getElem?_eq_some_iff.1 this).1;omega
 have ownG : ∀ {L : List ya} {V V' : World} {row : Option Nat}, (∀ e ∈ L, qW e) -> HS m L V.heap -> V.grownBy V' row -> (∀ r, row = some r -> h6.size <= r /\ ∃ o : Obj, V.heap[r]? = some o /\ o.isCells = false) -> HS m L V'.heap := fun hc hh hg hr =>
  hh.grow hc (fun k hk hne => hg.block k hk (fun e => hne e)) (fun r e => ⟨hmB r (hr r e).1, (hr r e).2⟩)
 have hLt : Lt z.now (mp h6) z.bx z.gq gm c es ks lv := ⟨zy (hs6.inv (cel z.bx [.pointer (some ⟨z.gq, 0, none⟩)] 184) (.head _)) rfl, yA hs6.base h1, hs6.base _ _ h2, hok, hvals⟩;refine wp_block ?_
 refine (wpIn_wide (n := 3)).1 (wpIn_rangeFunc_ownH (α := Tk3 z.now) (n := 3) (w0 := W ⟨x0.tape, x0.os, x0.out, []⟩ h6 d6) (N := ks.length) (S := fun _ => True) (Sp := fun _ => True) (Kp := OW) (encs := RR) rfl (by decide) (hag6.toAg.eval rfl) trivial (fun args w => wi B8 args w)
  (RU (n := 1) hLt) Bq (fun _ _ _ _ _ ho hc hw => Br ho hc hw) (Below.refl _ _) (fun _ => rfl)
  (fun pre V => V.tape = x0.tape /\ V.os = x0.os /\ V.output = x0.out /\ HS m z.L V.heap)
  (fun c pre V => False)
  ?hI ?hIx ⟨rfl, rfl, rfl, hs6⟩
  (fun x' a' V => ∃ b, HS m (cel b x'.1.2 110 :: z.L) V.heap /\ a'.defers = [] /\ Ag 32 ((6, .pointer (some ⟨b, 0, none⟩)) :: z.E) a') ?hAx ?hassign ?hbody ?hdone ?hstop)
 case hI =>
  rintro pre V V' row ⟨t1, t2, t3, hh⟩ hg hr;exact ⟨hg.tape.trans t1, hg.os.trans t2, hg.output.trans t3, ownG z.only hh hg hr⟩
 case hIx => exact fun _ _ _ _ _ hf => hf.elim
 case hAx =>
  rintro x a' _ V V' row ⟨b, hh, hd, ha⟩ hg hr;refine ⟨b, ownG (fun e he => ?_) hh hg hr, hd, ha⟩;rcases List.mem_cons.1 he with rfl | he
  ·exact ZU _ _ _
  ·exact z.only e he
 case hstop => exact fun _ _ _ _ _ _ hf => hf.elim
 case hassign =>
  rintro l pre ⟨⟨q, tl⟩, v0, v1, u, htl, hnow⟩ V K ⟨t1, t2, t3, hh⟩ hK;dsimp only at htl;subst htl;have hput := ((hag6.put 11 (.int .i64 q) (by decide)).put 12 (.agg #[.string v0, .int .i8 v1, .int .i64 u]) (by decide)).sub (r := (12, .agg #[.string v0, .int .i8 v1, .int .i64 u]) :: (11, .int .i64 q) :: z.E) ⟨rfl, rfl, rfl, rfl, rfl, rfl, trivial⟩
  refine Fo (n := 32) (env := (12, .agg #[.string v0, .int .i8 v1, .int .i64 u]) :: (11, .int .i64 q) :: z.E) (m := mp V.heap) (L := []) (Q0 := Hg (mp V.heap) (fun env' L' => ∃ b, L' = [cel b [.string v0, .int .i8 v1, .int .i64 u] 110] /\ dF ((6, .pointer (some ⟨b, 0, none⟩)) :: z.E) env') noQ) (x := ⟨V.tape, V.os, V.output, []⟩) (h := V.heap) (d := V.drawn) (Qo V)
   (Ov (bv rfl eI ?_)) (HS.nil (Le.refl _)) ⟨⟨by simpa [RR, Act.put] using hput.size, by simpa [RR, Act.put] using hput.at_⟩, rfl⟩ ?_
  ·unfold Bl.E;refine vr 2 ?_;refine jo _ (zJ.refl _) (bv rfl eI ?_);refine Al 0 Ci fun b1 => ?_;refine Sg 1 zai .here ?_;exact jo _ (zJ.refl _) ⟨_, rfl, rfl, rfl, rfl, rfl, rfl, trivial⟩
  rintro e a' w' ⟨env', h', d', hag', rfl, hq⟩;cases e with
  | normal =>
    obtain ⟨L', hs', b, rfl, hsub⟩ := hq;exact hK a' _ ⟨dv hs'.base, fun k o _ hk _ => hs'.base k o hk⟩ (M4 hs'.base) ⟨t1, t2, t3, hh.le hs'.base⟩ ⟨b, hh.frame0 hs', hag'.defers, (hag'.sub hsub).toAg⟩
  | ret => exact hq.elim
  | exit i => exact hq.elim
  | goto i => exact hq.elim
  | panic c => exact hq.elim
  | outgrown => exact hq.elim
 case hbody =>
  rintro l pre ⟨⟨q, tl⟩, v0, v1, u, htl, hnow⟩ a' V hl hr ⟨t1, t2, t3, hh⟩ ⟨b, hA, hda, haA⟩ hlen;dsimp only at htl;subst htl
  have honly : ∀ e ∈ cel b [.string v0, .int .i8 v1, .int .i64 u] 110 :: z.L, qW e := fun e he => by
   rcases List.mem_cons.1 he with rfl | he
   ·exact ZU _ _ _
   ·exact z.only _ he
  have hs0 := hA.awayL;obtain ⟨mA, hmA⟩ : ∃ mA, mA = awayL (cel b [.string v0, .int .i8 v1, .int .i64 u] 110 :: z.L) (mp V.heap) := ⟨_, rfl⟩;rw [<- hmA] at hs0
  refine Fo (n := 32) (env := (6, .pointer (some ⟨b, 0, none⟩)) :: z.E) (m := mA) (L := cel b [.string v0, .int .i8 v1, .int .i64 u] 110 :: z.L) (Q0 := fun e _ h' => match e with
    | .normal => HS mA (cel b [.string v0, .int .i8 v1, .int .i64 u] 110 :: z.L) h'
    | _ => False) (x := ⟨V.tape, V.os, V.output, []⟩) (h := V.heap) (d := V.drawn) (Qo V) ?_ hs0 ⟨haA, hda⟩ ?_
  ·have hnl : ¬ u < z.now := by omega
   refine Ox (Ov (bv rfl eI ?_));unfold Bl.L Bl.E;refine vr 1 ?_;refine Lb 0 DV .here ?_;refine Lb 0 DV .h3 ?_;refine zA 1 ?_;refine jo _ (zJ.refl _) (Ow rfl (SU ?_));exact fun h hs => hs
  ·rintro e a' w' ⟨env', h', d', hag', rfl, hq⟩;cases e with
   | normal =>
     rw [hmA] at hq;obtain ⟨g1, g2⟩ := JY (B := h6.size) (x := ⟨V.tape, V.os, V.output, []⟩) (x' := ⟨V.tape, V.os, V.output, []⟩) (d := V.drawn) (d' := d') hA (L' := cel b [.string v0, .int .i8 v1, .int .i64 u] 110 :: z.L) hq honly (fun k hk => hk)
     have hcels : ∀ e ∈ cel b [.string v0, .int .i8 v1, .int .i64 u] 110 :: z.L, ∃ b l t, e = cel b l t := fun e he => by
      rcases List.mem_cons.1 he with rfl | he
      ·exact ⟨_, _, _, rfl⟩
      ·exact z.cels _ he
     exact ⟨g1, M4 (Jr hcels hA hq), t1, t2, t3, g2.tail⟩
   | ret => exact hq.elim
   | exit i => exact hq.elim
   | goto i => exact hq.elim
   | panic c => exact hq.elim
   | outgrown => exact hq.elim
 case hdone =>
  rintro D xs V hD - ⟨t1, t2, t3, hh⟩ hdef
  have hV : V = W ⟨x0.tape, x0.os, x0.out, [{ target := .collected D, args := #[] }]⟩ V.heap V.drawn := by
   show (⟨_, V.tape, _, V.os, V.output⟩ : World) = ⟨_, x0.tape, _, x0.os, x0.out⟩;rw [t1, t2, t3]
  have hs0 := hh.awayL
  have hDA : awayL z.L (mp V.heap) D = some (.deferred (some [])) := by
   unfold awayL;rw [if_neg]
   ·exact hdef
   ·intro ha;obtain ⟨e, he, hdk⟩ := List.any_eq_true.1 ha;obtain ⟨o', h1, h2⟩ := z.only _ he _ D (hh.inv e he) hdk;rw [show mp V.heap D = some (.deferred (some [])) from hdef] at h1;cases h1;cases h2
  obtain ⟨mA, hmA⟩ : ∃ mA, mA = awayL z.L (mp V.heap) := ⟨_, rfl⟩;have hle := hh.le_away;rw [<- hmA] at hs0 hDA hle;refine Sz hV (fun a' hag' => ?_) (n := 32) (env := z.E) ⟨⟨hag6.size, (hag6.toAg).at_⟩, congrArg (_ :: ·) hag6.defers⟩;refine Cm (m := mA) (L := z.L) (Q0 := fun e env h' => e = .ret /\ dF [(4, .pointer (some ⟨z.b4, 0, none⟩))] env /\ HS mA z.L h') ?_ hs0 hag' ?_
  ·unfold Bl.L Bl.E;refine tr 3 ?_;refine Lb 5 wg .h1 ?_;refine zN (α := Unit) (fun _ => [(22, .int .i64 ((0 : Nat) : Int)), (23, .int .i64 0), (4, .pointer (some ⟨z.b4, 0, none⟩))]) (fun _ => [cel z.bx [.pointer (some ⟨z.gq, 0, none⟩)] 184, cel z.b4 [.slice none 0 0] 26, cel z.b3 [.int .i64 z.now] 2]) (fun _ => True) (fun _ => 0) () ⟨rfl, rfl, rfl, trivial⟩ (zJ.refl _) trivial ?_
   rintro ⟨⟩ -;refine tr 2 ?_;refine ym 6 ?_;refine zh ?_;refine zf ?_;refine qt 3 ?_;refine Lb 0 wg .h1 ?_;refine Sr 3 jP .h1 .here ?_;exact fun h hs => ⟨rfl, ⟨rfl, trivial⟩, hs⟩
  ·rintro e a2 w2 ⟨env2, h2, d2, hag2, rfl, rfl, hsub, hs2⟩;have hdf := hag2.defers;have hA := hag2.toAg.sub hsub;have hdef := hs2.base D _ hDA;show LeavesInM _ _ _ _ a2.tmps _ a2.defers _ _;rw [hdf];refine ⟨by simp, .inl ⟨D, _, rfl, run_takeDeferred hdef, ?_⟩⟩
   have hg := ownG (V := W ⟨x0.tape, x0.os, x0.out, [{ target := .collected D, args := #[] }]⟩ h2 d2) z.only (hs2.weak hle) (grownBy_putObj' _ D (.deferred none)) (fun r e => by cases e; exact ⟨hD, _, hdef, rfl⟩)
   have hres := gY.results (P := Tryz.prog) (fn := Tryz.f141) (fx := x0) (dr := d2) (rs := [.cell 4 26]) (vs := [.slice none 0 0]) rfl hA (Yy.ok hg (rs := [.cell 4 26]) (vs := [.slice none 0 0]) ⟨⟨z.b4, [.slice none 0 0], 26, _, rfl, .h1, .inl ⟨by kernel_rfl, rfl⟩⟩, trivial⟩);exact ⟨_, hres, _, _, _, rfl, rfl, [], ⟨rfl, rfl⟩, zJ.nil _ m _ hg⟩
end Go.Proofs.YtijakengkacnlaaGreatDoor
noncomputable section
namespace Go.Ev
open Go.Eng Go.Proofs Go.Proofs.YtijakengkacnlaaGreatDoor
def K4 (now : Int) : List MapEntry -> Bool
 | [] => true
 | ⟨_, .agg ⟨[.string _, .int .i8 _, .int .i64 u]⟩, _⟩ :: es => decide (now <= u) && K4 now es
 | _ => false
def Dh (vs : Lv) (s : St) (k : KS) : Rs := match vs with
 | [.pointer (some ⟨q, 0, none⟩), .int .i64 now] => oB (get s.h q) fun o => match o with
   | .cel (_ :: .map (some m) :: _) _ => oB (get s.h m) fun o => match o with
     | .mp es c => bB (K4 now es) (srt es c fun _ => k (.slice none 0 0) s)
     | _ => .no
   | _ => .no
 | _ => .no
end Go.Ev
end
namespace Go.Ev
open Go.Eng Go.Proofs Go.Proofs.YtijakengkacnlaaGreatDoor
variable {I : As}
theorem UE {now : Int} : ∀ {es us : List MapEntry}, qN I es us -> K4 now es = true -> ∀ x ∈ us, ∃ v0 v1 u, x.val = .agg #[.string v0, .int .i8 v1, .int .i64 u] /\ now <= u
 | _, _, .nil, _, x, hx => by cases hx
 | _, _, .cons (x := e) (y := y) h hs, hl, x, hx => by
   obtain ⟨ek, ev, eb⟩ := e;unfold K4 at hl
   split at hl
   ·rename_i h1; cases h1
   ·rename_i a b u d es' heq
    cases heq;rw [Bool.and_eq_true] at hl;rcases List.mem_cons.1 hx with rfl | hx
    ·have hv := h.val;generalize x.val = xv at hv;cases hv with
     | agg g =>
     cases g with
     | cons g1 g =>
     cases g with
     | cons g2 g =>
     cases g with
     | cons g3 g =>
     cases g;cases g1; cases g2; cases g3;exact ⟨_, _, _, rfl, of_decide_eq_true hl.1⟩
    ·exact UE hs hl.2 x hx
   ·cases hl
variable {u : Value}
theorem FM {b : Nat} (h : Rl I (.map (some b)) u) : ∃ g q c, I b = some (g, q, c) /\ u = .map (some g) := by
 cases h with
 | map h => exact ⟨_, _, _, h, rfl⟩
theorem Pr {k : IntKind} {n : Int} (h : Rl I (.int k n) u) : u = .int k n := by cases h; rfl
theorem Si : yZ Tryz.prog 141 Dh := ⟨AH, fun {vs s k r} h hr => by
 unfold Dh at h
 split at h
 case h_2 => exact absurd h.symm hr
 rename_i q now
 obtain ⟨o, ho, h⟩ := zt h hr
 split at h
 case h_2 => exact absurd h.symm hr
 rename_i v0 m rest t
 obtain ⟨o, hm, h⟩ := zt h hr
 split at h
 case h_2 => exact absurd h.symm hr
 rename_i es c
 obtain ⟨hlate, h⟩ := zl h hr;obtain ⟨ks, l, h, hk⟩ := LQ h hr;refine ⟨_, s, h, fun {x B I w} M us hus => ?_⟩;cases hus with
 | cons y1 hus =>
 obtain ⟨u2, rfl, y2⟩ := Wi hus;cases Pr y2;obtain ⟨gq, qq, cq, z1, rfl⟩ := Wh y1;obtain ⟨gb', us', fz, p1, p2, p3, -⟩ := M.hp.obj q _ _ ho z1;rw [z1] at p1; cases p1;cases p3 with
 | cons w0 p3 =>
 cases p3 with
 | cons w1 p3 =>
 obtain ⟨gm, qm, cm, z2, rfl⟩ := FM w1;obtain ⟨gm', es', r1, r2, r3⟩ := M.hp.obj m _ _ hm z2;rw [z2] at r1; cases r1;have e1 : mc (mp w.heap) ⟨gq, 1, none⟩ = some (.map (some gm)) := by unfold mc; rw [p2]; rfl
 have := P6 e1 r2 (hk.real r3) (UE r3 hlate) w.heap (HS.nil (Le.refl _)) x w.drawn;rw [<- M.wd] at this;refine this.mono ?_;rintro e w' ⟨u, h', d', rfl, rfl, L', ⟨rfl, rfl⟩, hh⟩
 exact ⟨_, I, rfl, wm.refl I s, .nils, M.grow d' hh.base⟩⟩
end Go.Ev
namespace Go.Proofs.YtijakengkacnlaaGreatDoor
open Go.Eng
set_option maxRecDepth 100000
variable {m : Mp}
abbrev uV (n : Nat) : Value := .int .u64 (n : Nat)
abbrev H3 (l : List Nat) : Lv := l.map uV
def Up (x : Nat) (l : List Nat) : Bool := l.all fun p => decide (x % p ≠ 0)
def XB (n : Nat) : Nat -> List Nat -> Nat -> Option (List Nat)
 | 0, _, _ => none
 | f + 1, l, x => if l.length < n then XB n f (if Up x l then l ++ [x] else l) (x + 1) else some l
set_option maxHeartbeats 8000000 in
theorem XA {n f : Nat} {r : List Nat} (hn : n <= 1000) (hf : f <= 100000) (h : XB n f [] 2 = some r) : CS Tryz.prog 327 [.int .i64 (n : Nat)] m [] (fun v L' => ∃ A c, v = .slice A r.length c /\ L' = [own 303 1 A r.length c (H3 r)]) := by
 refine zM [.tmp 2] Tryz.func327 rfl rfl rfl ?_;refine tr 17 ?_;refine uY 303 1 ?_
 refine jm (β := Nat × List Nat) (fun x A c y => [(0, .int .i64 (n : Nat)), (3, .slice A y.2.length c), (4, uV x)]) (fun x A c y => [own 303 1 A y.2.length c (H3 y.2)]) (fun x y => XB n y.1 y.2 x = some r /\ y.2.length <= n /\ (∀ p ∈ y.2, 0 < p) /\ 2 <= x /\ x + y.1 <= 200000) (fun x => 200000 - x) 2 none 0 (f, []) ⟨rfl, rfl, rfl, trivial⟩ .p0 ⟨h, by simp, by simp, by omega, by omega⟩ ?_
 rintro x A c ⟨f, l⟩ ⟨hF, hl, hp, hx, hxf⟩;cases f with
 | zero => cases hF
 | succ f =>
 unfold XB at hF;dsimp only at hF hl hp hx hxf ⊢;by_cases h1 : l.length < n
 ·rw [if_pos h1] at hF;refine tr 6 ?_;refine xI 19 ?_;refine zN (α := Nat × Bool) (fun y => [(0, .int .i64 (n : Nat)), (3, .slice A l.length c), (4, uV x), (5, .bool y.2), (6, .int .i64 (y.1 : Nat))]) (fun y => [own 303 1 A l.length c (H3 l)]) (fun y => y.1 <= l.length /\ y.2 = Up x (l.take y.1)) (fun y => l.length - y.1) (0, true) ⟨rfl, rfl, rfl, rfl, rfl, trivial⟩ .p0 ⟨by omega, rfl⟩ ?_
  rintro ⟨i, ok⟩ ⟨hi, hok⟩;dsimp only at hi hok ⊢;by_cases h2 : i < l.length
  ·obtain ⟨q, hq⟩ : ∃ q, l[i]? = some q := ⟨_, List.getElem?_eq_getElem h2⟩;have hel : (H3 l)[i]? = some (uV q) := by rw [List.getElem?_map, hq]; rfl
   have hq0 : 0 < q := hp q (List.mem_of_getElem? hq);have hqz : ((q : Nat) : Int) ≠ 0 := by omega
   have htk : l.take (i + 1) = l.take i ++ [q] := by rw [List.take_add_one, hq]; rfl
   have hmod : ((x : Nat) : Int).tmod (q : Nat) = ((x % q : Nat) : Int) := (Int.ofNat_tmod x q).symm;refine am (vo (A := A) .here (by rw [List.length_map]; omega)) (fun hA => ?_);cases ok with
   | true =>
     by_cases hd : (((x : Nat) : Int).tmod (q : Nat)) = 0
     ·refine tr 6 ?_;refine xI 13 ?_;refine pe 0 (yE Gh rfl rfl hA (by omega)) ?_;refine lr 0 (kQ Kw rfl .here hel) ?_;refine pe 0 (GO rfl rfl (by omega) rfl) ?_;refine ym 7 ?_;refine Pa 2 ?_;refine QR (i + 1, false) .p0 ⟨h2, ?_⟩ (by dsimp only; omega);rw [htk];unfold Up;rw [List.all_append, List.all_cons, decide_eq_false (by rw [hmod] at hd; omega)]
      simp
     ·refine tr 6 ?_;refine xI 13 ?_;refine pe 0 (yE Gh rfl rfl hA (by omega)) ?_;refine lr 0 (kQ Kw rfl .here hel) ?_;refine pe 0 (GO rfl rfl (by omega) rfl) ?_;refine yy 7 ?_;refine Pa 2 ?_;refine QR (i + 1, true) .p0 ⟨h2, ?_⟩ (by dsimp only; omega);rw [htk];unfold Up at hok ⊢;rw [List.all_append, <- hok, List.all_cons, decide_eq_true (by rw [hmod] at hd; omega)]
      rfl
   | false =>
     refine tr 6 ?_;refine xI 24 ?_;refine Pa 2 ?_;refine QR (i + 1, false) .p0 ⟨h2, ?_⟩ (by dsimp only; omega);rw [htk];unfold Up at hok ⊢;rw [List.all_append, <- hok]
     rfl
  ·have hil : i = l.length := by omega
   subst hil;rw [List.take_length] at hok;cases ok with
   | true =>
     rw [<- hok, if_pos rfl] at hF;have hlen : (l ++ [x]).length = l.length + 1 := by simp
     have he : H3 (l ++ [x]) = H3 l ++ [uV x] := by simp [H3]
     refine tr 6 ?_;refine ym 5 ?_;refine zh ?_;refine zf ?_;refine qt 10 ?_;refine Bs 0 Tq fun b1 => ?_;refine zg (xq Tq rfl rfl rfl rfl .here (fun _ _ => .h1) rfl rfl (by first | omega | (simp only [maxLen]; omega)) (by omega) rfl (fun A1 c1 => ?_)) rfl;refine vr 6 ?_;refine pe 2 (yp rfl rfl (QJ (by omega) (by omega))) ?_
     refine vA (Le.refl _) (x + 1) A1 c1 (f, l ++ [x]) ⟨rfl, by rw [hlen]; rfl, rfl, trivial⟩ (by show zJ _ [own 303 1 A1 (l ++ [x]).length c1 (H3 (l ++ [x]))]; rw [hlen, he]; exact .cons .h1 (.nil _)) ⟨hF, by simp; omega, fun p hp' => ?_, by omega, by omega⟩ (by omega);rcases List.mem_append.1 hp' with h3 | h3
     ·exact hp p h3
     ·rw [List.mem_singleton.1 h3]; omega
   | false =>
     rw [<- hok, if_neg (by decide)] at hF;refine tr 6 ?_;refine ym 5 ?_;refine zh ?_;refine zf ?_;refine qt 12 ?_;refine pe 2 (yp rfl rfl (QJ (by omega) (by omega))) ?_;exact vA (Le.refl _) (x + 1) A c (f, l) ⟨rfl, rfl, rfl, trivial⟩ .p0 ⟨hF, hl, hp, by omega, by omega⟩ (by omega)
 ·rw [if_neg h1] at hF
  injection hF with hF
  subst hF;refine tr 6 ?_;refine ym 5 ?_;refine xN ?_;refine zf ?_;refine qt 8 ?_;exact zB [_] ⟨rfl, trivial⟩ [_] .p0 ⟨_, _, rfl, rfl⟩
end Go.Proofs.YtijakengkacnlaaGreatDoor
namespace Go.Proofs.YtijakengkacnlaaGreatDoor
open Go.Eng
set_option maxRecDepth 100000
variable {m : Mp}
def Vv (x : Int) (i : Nat) : Int := bits .or .u64 x (wU (1 * 2 ^ ((i : Nat) : Int).toNat))
def TQ (n : Int) (third : Bool) (y : Int) : Bool := if third then (decide (y < 68719476736) && WP y n) else sqB y n
def EI (n : Int) (third : Bool) : Nat -> Int -> Int
 | 0, x => x
 | i + 1, x => EI n third i (if TQ n third (Vv x i) then Vv x i else x)
theorem Nl (n : Int) (third : Bool) (i : Nat) (x : Int) : EI n third (i + 1) x = EI n third i (if TQ n third (Vv x i) then Vv x i else x) := rfl
set_option maxHeartbeats 8000000 in
theorem K9 {n : Int} {third : Bool} : CS Tryz.prog 328 [.int .u64 n, .bool third] m [] (fun v L' => v = .int .u64 (EI n third 40 0) /\ L' = []) := by
 refine zM [.tmp 4] Tryz.func328 rfl rfl rfl ?_;refine tr 17 ?_;refine zN (α := Nat × Int) (fun y => [(0, .int .u64 n), (1, .bool third), (5, .int .u64 y.2), (6, .int .i64 ((y.1 : Nat) - 1 : Int))]) (fun _ => []) (fun y => y.1 <= 40 /\ EI n third y.1 y.2 = EI n third 40 0) (fun y => y.1) (40, 0) ⟨rfl, rfl, rfl, rfl, trivial⟩ (zJ.nil _) ⟨by omega, rfl⟩ ?_;rintro ⟨i, x⟩ ⟨hi, hF⟩
 cases i with
 | zero =>
   refine tr 4 ?_;refine ym 5 ?_;refine zh ?_;refine zf ?_;refine qt 8 ?_;exact xi ⟨rfl, trivial⟩ ⟨by rw [<- hF]; rfl, rfl⟩
 | succ i =>
   dsimp only at hi hF ⊢;have h0 : (((i + 1 : Nat) : Int) - 1) = ((i : Nat) : Int) := by omega
   rw [h0];rw [Nl n third i x] at hF;cases third with
   | false =>
     refine tr 4 ?_;refine xI 11 ?_;refine pe 0 (yr DT UM rfl (QJ (by omega) (by omega))) ?_;refine pe 0 (uF rfl rfl (by omega) (by show _ <= (64 : Int); omega) rfl) ?_;refine pe 21 (Kf rfl rfl rfl) ?_;refine Cr T1 rfl (fun m' hm he => (YJ)) ?_;rintro _ rfl;refine vr 4 ?_;refine ST rfl (fun hc1 => ?_) (fun hc1 => ?_);refine tr 8 ?_
     refine pe 2 (ke rfl rfl (qx (by omega) (by omega))) ?_
     ·have hB : TQ n false (Vv x i) = true := hc1;rw [hB, if_pos rfl] at hF;skip;exact QR (i, Vv x i) (zJ.nil _) ⟨by dsimp only; omega, hF⟩ (by dsimp only; omega)
     ·have hB : TQ n false (Vv x i) = false := hc1;rw [hB, if_neg (by decide)] at hF;refine tr 5 ?_;refine pe 2 (ke rfl rfl (qx (by omega) (by omega))) ?_;exact QR (i, x) (zJ.nil _) ⟨by dsimp only; omega, hF⟩ (by dsimp only; omega)
   | true =>
     by_cases hl : Vv x i < 68719476736
     ·have hl' := hl;unfold Vv wU at hl';have hbx : WP (bits .or .u64 x (IntKind.u64.wrap (1 * 2 ^ ((i : Nat) : Int).toNat))) n = WP (Vv x i) n := rfl;cases hb : WP (Vv x i) n with
      | true =>
        have hB : TQ n true (Vv x i) = true := (congrArg (fun b => b && WP (Vv x i) n) (decide_eq_true hl)).trans hb;rw [hB, if_pos rfl] at hF;rw [hb] at hbx;refine tr 4 ?_;refine xI 11 ?_;refine pe 0 (yr DT UM rfl (QJ (by omega) (by omega))) ?_;refine pe 0 (uF rfl rfl (by omega) (by show _ <= (64 : Int); omega) rfl) ?_;refine pe 8 (Kf rfl rfl rfl) ?_;refine yy 4 ?_
        refine Cr NQ rfl (fun m' hm he => (WO)) ?_;rintro _ rfl;rw [hbx];refine vr 21 ?_;refine pe 2 (ke rfl rfl (qx (by omega) (by omega))) ?_;exact QR (i, Vv x i) (zJ.nil _) ⟨by dsimp only; omega, hF⟩ (by dsimp only; omega)
      | false =>
        have hB : TQ n true (Vv x i) = false := (congrArg (fun b => b && WP (Vv x i) n) (decide_eq_true hl)).trans hb;rw [hB, if_neg (by decide)] at hF;rw [hb] at hbx;refine tr 4 ?_;refine xI 11 ?_;refine pe 0 (yr DT UM rfl (QJ (by omega) (by omega))) ?_;refine pe 0 (uF rfl rfl (by omega) (by show _ <= (64 : Int); omega) rfl) ?_;refine pe 8 (Kf rfl rfl rfl) ?_
        refine yy 4 ?_;refine Cr NQ rfl (fun m' hm he => (WO)) ?_;rintro _ rfl;rw [hbx];refine vr 18 ?_;refine pe 2 (ke rfl rfl (qx (by omega) (by omega))) ?_;exact QR (i, x) (zJ.nil _) ⟨by dsimp only; omega, hF⟩ (by dsimp only; omega)
     ·have hB : TQ n true (Vv x i) = false := by unfold TQ; rw [if_pos rfl, decide_eq_false hl, Bool.false_and]
      unfold Vv wU at hl;rw [hB, if_neg (by decide)] at hF;refine tr 4 ?_;refine xI 11 ?_;refine pe 0 (yr DT UM rfl (QJ (by omega) (by omega))) ?_;refine pe 0 (uF rfl rfl (by omega) (by show _ <= (64 : Int); omega) rfl) ?_;refine pe 8 (Kf rfl rfl rfl) ?_;refine zA 23 ?_;refine pe 2 (ke rfl rfl (qx (by omega) (by omega))) ?_
      exact QR (i, x) (zJ.nil _) ⟨by dsimp only; omega, hF⟩ (by dsimp only; omega)
end Go.Proofs.YtijakengkacnlaaGreatDoor
namespace Go.Proofs.YtijakengkacnlaaGreatDoor
open Go.Eng
set_option maxRecDepth 100000
variable {m : Mp}
def Gc (n : Nat) (third : Bool) (k : IntKind) (r : List Nat) : Nat -> Lv
 | 0 => List.replicate n (.int k 0)
 | i + 1 => (Gc n third k r i).set i (.int k (k.wrap (EI ((r.getD i 0 : Nat) : Int) third 40 0)))
theorem WF (n : Nat) (third : Bool) (k : IntKind) (r : List Nat) : ∀ i, (Gc n third k r i).length = n
 | 0 => List.length_replicate
 | i + 1 => by unfold Gc; rw [List.length_set]; exact WF n third k r i
theorem USet.set {v : Value} : ∀ {l : Lv} {i : Nat}, i < l.length -> Go.Eng.USet l i v (l.set i v)
 | _ :: _, 0, _ => .here
 | _ :: _, _ + 1, h => .there (USet.set (Nat.lt_of_succ_lt_succ h))
theorem zaj (b i : Nat) : some (Value.pointer (some (({ block := b, off := 0 } : Addr).add (((i : Nat) : Int).toNat * 1)))) = some (Value.pointer (some ⟨b, i, none⟩)) := by
 unfold Addr.add;by_cases h : i = 0
 ·subst h; rfl
 ·rw [if_neg (by omega), show (0 + ((i : Nat) : Int).toNat * 1) = i by omega]
def p8 : List Nat := [2, 3, 5, 7, 11, 13, 17, 19]
theorem C7 : XB 8 100 [] 2 = some p8 := by decide +kernel
theorem F2 : p8.length = 8 := by decide +kernel
set_option maxHeartbeats 8000000 in
theorem Nt : CS Tryz.prog 248 [] m [] (fun v L' => v = .agg (Gc 8 false .u32 p8 8).toArray /\ L' = []) := by
 refine zM [.cell 0 406] Tryz.func248 rfl rfl rfl ?_;refine tr 2 ?_;refine Al 4 Tc fun b1 => ?_;refine Al 4 Tc fun b2 => ?_;refine zg ((zr T3 rfl (fun m' hm he => XA (n := 8) (f := 100) (r := p8) (by decide) (by decide) C7) rfl ?_)) rfl;rintro _ _ ⟨A, c, rfl, rfl⟩;refine vr 10 ?_
 refine zN (α := Nat) (fun i => [(0, .pointer (some ⟨b1, 0, none⟩)), (1, .pointer (some ⟨b2, 0, none⟩)), (2, .slice A p8.length c), (3, .int .i64 (i : Nat))]) (fun i => [own 303 1 A p8.length c (H3 p8), cel b2 (Gc 8 false .u32 p8 i) 406, cel b1 (Gc 8 false .u32 p8 0) 406]) (fun i => i <= 8) (fun i => 8 - i) 0 ⟨rfl, rfl, rfl, rfl, trivial⟩ (.cons .here .pp) (Nat.zero_le _) ?_;intro i hi
 have hfl := WF 8 false .u32 p8 i;have hpl := F2;by_cases h1 : i < 8
 ·have h2 : i < p8.length := by rw [hpl]; exact h1
  have hq : p8[i]? = some (p8.getD i 0) := by rw [List.getD_eq_getElem?_getD, List.getElem?_eq_getElem h2]; rfl
  have hel : (H3 p8)[i]? = some (uV (p8.getD i 0)) := by rw [List.getElem?_map, hq]; rfl
  have h3 : i < (Gc 8 false .u32 p8 i).length := by rw [hfl]; exact h1
  refine am (vo (A := A) .here (by rw [List.length_map, hpl]; decide)) (fun hA => ?_);refine tr 4 ?_;refine xI 11 ?_;refine pe 0 (yE Gh rfl rfl hA (by omega)) ?_;refine lr 0 (kQ Kw rfl .here hel) ?_;refine Cr T2 rfl (fun m' hm he => (K9)) ?_;rintro _ rfl;refine pe 0 (yr Tm TO rfl rfl) ?_
  refine pe 0 (zQ A6 rfl rfl (by omega) (by omega)) ?_;refine zg (yx (i := i) (by kernel_rfl) (zaj b2 i) rfl rfl .h1 (USet.set h3) ?_) rfl;refine vr 5 ?_;refine Pa 2 ?_;exact QR (i + 1) (.cons .here .pp) h1 (by omega)
 ·have hin : i = 8 := by omega
  subst hin;refine tr 4 ?_;refine ym 5 ?_;refine zh ?_;refine zf ?_;refine qt 3 ?_;refine Lc 0 Fi .h1 ?_;refine Sg 3 Fi .h2 ?_;exact zB [_] ⟨⟨b1, _, _, _, rfl, .h2, .inr ⟨by rw [hfl]; kernel_rfl, rfl⟩⟩, trivial⟩ [] (zJ.nil _) ⟨rfl, rfl⟩
def Vs : List Nat := [2, 3, 5, 7, 11, 13, 17, 19, 23, 29, 31, 37, 41, 43, 47, 53, 59, 61, 67, 71, 73, 79, 83, 89, 97, 101, 103, 107, 109, 113, 127, 131, 137, 139, 149, 151, 157, 163, 167, 173, 179, 181, 191, 193, 197, 199, 211, 223, 227, 229, 233, 239, 241, 251, 257, 263, 269, 271, 277, 281, 283, 293, 307, 311]
theorem F3 : XB 64 1000 [] 2 = some Vs := by decide +kernel
theorem PN : Vs.length = 64 := by decide +kernel
theorem Tb : yB Tryz.prog 408 = some (Gc 64 true .u32 Vs 0) := by kernel_rfl
set_option maxHeartbeats 8000000 in
theorem IU : CS Tryz.prog 249 [] m [] (fun v L' => v = .agg (Gc 64 true .u32 Vs 64).toArray /\ L' = []) := by
 refine zM [.cell 0 408] Tryz.func249 rfl rfl rfl ?_;refine tr 2 ?_;refine Al 4 Tb fun b1 => ?_;refine Al 4 Tb fun b2 => ?_;refine zg ((zr T3 rfl (fun m' hm he => XA (n := 64) (f := 1000) (r := Vs) (by decide) (by decide) F3) rfl ?_)) rfl;rintro _ _ ⟨A, c, rfl, rfl⟩;refine vr 10 ?_
 refine zN (α := Nat) (fun i => [(0, .pointer (some ⟨b1, 0, none⟩)), (1, .pointer (some ⟨b2, 0, none⟩)), (2, .slice A Vs.length c), (3, .int .i64 (i : Nat))]) (fun i => [own 303 1 A Vs.length c (H3 Vs), cel b2 (Gc 64 true .u32 Vs i) 408, cel b1 (Gc 64 true .u32 Vs 0) 408]) (fun i => i <= 64) (fun i => 64 - i) 0 ⟨rfl, rfl, rfl, rfl, trivial⟩ (.cons .here .pp) (Nat.zero_le _) ?_
 intro i hi;have hfl := WF 64 true .u32 Vs i;have hpl := PN;by_cases h1 : i < 64
 ·have h2 : i < Vs.length := by rw [hpl]; exact h1
  have hq : Vs[i]? = some (Vs.getD i 0) := by rw [List.getD_eq_getElem?_getD, List.getElem?_eq_getElem h2]; rfl
  have hel : (H3 Vs)[i]? = some (uV (Vs.getD i 0)) := by rw [List.getElem?_map, hq]; rfl
  have h3 : i < (Gc 64 true .u32 Vs i).length := by rw [hfl]; exact h1
  refine am (vo (A := A) .here (by rw [List.length_map, hpl]; decide)) (fun hA => ?_);refine tr 4 ?_;refine xI 11 ?_;refine pe 0 (yE Gh rfl rfl hA (by omega)) ?_;refine lr 0 (kQ Kw rfl .here hel) ?_;refine Cr T2 rfl (fun m' hm he => (K9)) ?_;rintro _ rfl;refine pe 0 (yr Tm TO rfl rfl) ?_
  refine pe 0 (zQ A5 rfl rfl (by omega) (by omega)) ?_;refine zg (yx (i := i) (by kernel_rfl) (zaj b2 i) rfl rfl .h1 (USet.set h3) ?_) rfl;refine vr 5 ?_;refine Pa 2 ?_;exact QR (i + 1) (.cons .here .pp) h1 (by omega)
 ·have hin : i = 64 := by omega
  subst hin;refine tr 4 ?_;refine ym 5 ?_;refine zh ?_;refine zf ?_;refine qt 3 ?_;refine Lc 0 Fh .h1 ?_;refine Sg 3 Fh .h2 ?_;exact zB [_] ⟨⟨b1, _, _, _, rfl, .h2, .inr ⟨by rw [hfl]; kernel_rfl, rfl⟩⟩, trivial⟩ [] (zJ.nil _) ⟨rfl, rfl⟩
end Go.Proofs.YtijakengkacnlaaGreatDoor
set_option maxRecDepth 100000
namespace Go.Ev
open Go.Eng Go.Proofs Go.Proofs.YtijakengkacnlaaGreatDoor
def Bn : Lv := [.int .u32 (.ofNat 1779033703), .int .u32 (.ofNat 3144134277), .int .u32 (.ofNat 1013904242), .int .u32 (.ofNat 2773480762), .int .u32 (.ofNat 1359893119), .int .u32 (.ofNat 2600822924), .int .u32 (.ofNat 528734635), .int .u32 (.ofNat 1541459225)]
theorem P4 : Gc 8 false .u32 p8 8 = Bn := by kernel_rfl
def yJ : Lv := [.int .u32 (.ofNat 1116352408), .int .u32 (.ofNat 1899447441), .int .u32 (.ofNat 3049323471), .int .u32 (.ofNat 3921009573), .int .u32 (.ofNat 961987163), .int .u32 (.ofNat 1508970993), .int .u32 (.ofNat 2453635748), .int .u32 (.ofNat 2870763221), .int .u32 (.ofNat 3624381080), .int .u32 (.ofNat 310598401), .int .u32 (.ofNat 607225278), .int .u32 (.ofNat 1426881987), .int .u32 (.ofNat 1925078388), .int .u32 (.ofNat 2162078206), .int .u32 (.ofNat 2614888103), .int .u32 (.ofNat 3248222580), .int .u32 (.ofNat 3835390401), .int .u32 (.ofNat 4022224774), .int .u32 (.ofNat 264347078), .int .u32 (.ofNat 604807628), .int .u32 (.ofNat 770255983), .int .u32 (.ofNat 1249150122), .int .u32 (.ofNat 1555081692), .int .u32 (.ofNat 1996064986), .int .u32 (.ofNat 2554220882), .int .u32 (.ofNat 2821834349), .int .u32 (.ofNat 2952996808), .int .u32 (.ofNat 3210313671), .int .u32 (.ofNat 3336571891), .int .u32 (.ofNat 3584528711), .int .u32 (.ofNat 113926993), .int .u32 (.ofNat 338241895), .int .u32 (.ofNat 666307205), .int .u32 (.ofNat 773529912), .int .u32 (.ofNat 1294757372), .int .u32 (.ofNat 1396182291), .int .u32 (.ofNat 1695183700), .int .u32 (.ofNat 1986661051), .int .u32 (.ofNat 2177026350), .int .u32 (.ofNat 2456956037), .int .u32 (.ofNat 2730485921), .int .u32 (.ofNat 2820302411), .int .u32 (.ofNat 3259730800), .int .u32 (.ofNat 3345764771), .int .u32 (.ofNat 3516065817), .int .u32 (.ofNat 3600352804), .int .u32 (.ofNat 4094571909), .int .u32 (.ofNat 275423344), .int .u32 (.ofNat 430227734), .int .u32 (.ofNat 506948616), .int .u32 (.ofNat 659060556), .int .u32 (.ofNat 883997877), .int .u32 (.ofNat 958139571), .int .u32 (.ofNat 1322822218), .int .u32 (.ofNat 1537002063), .int .u32 (.ofNat 1747873779), .int .u32 (.ofNat 1955562222), .int .u32 (.ofNat 2024104815), .int .u32 (.ofNat 2227730452), .int .u32 (.ofNat 2361852424), .int .u32 (.ofNat 2428436474), .int .u32 (.ofNat 2756734187), .int .u32 (.ofNat 3204031479), .int .u32 (.ofNat 3329325298)]
theorem P3 : Gc 64 true .u32 Vs 64 = yJ := by kernel_rfl
noncomputable def cFst (vs : Lv) (s : St) (k : KS) : Rs := match vs with
 | [] => k (.agg ⟨Bn⟩) s
 | _ => .no
noncomputable def cRnd (vs : Lv) (s : St) (k : KS) : Rs := match vs with
 | [] => k (.agg ⟨yJ⟩) s
 | _ => .no
theorem L7 {I : As} {us : Lv} (h : xk I [] us) : us = [] := by cases h; rfl
theorem Sj : yZ Tryz.prog 248 cFst := ⟨Av, fun {vs s k r} h hr => by
 unfold cFst at h
 split at h
 case h_2 => exact absurd h.symm hr
 exact ⟨_, _, h, wv.pure (fun m => by have := Nt (m := m); rw [P4] at this; exact this) L7 fun J => cv J _ (by decide +kernel)⟩⟩
theorem Sb : yZ Tryz.prog 249 cRnd := ⟨Au, fun {vs s k r} h hr => by
 unfold cRnd at h
 split at h
 case h_2 => exact absurd h.symm hr
 exact ⟨_, _, h, wv.pure (fun m => by have := IU (m := m); rw [P3] at this; exact this) L7 fun J => cv J _ (by decide +kernel)⟩⟩
end Go.Ev
