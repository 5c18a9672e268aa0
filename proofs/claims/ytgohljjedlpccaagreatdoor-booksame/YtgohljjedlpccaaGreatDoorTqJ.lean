/- Parts of the proof: contracts of functions of the program, and plain lemmas. No condition. -/
import Derived.Test.YtgohljjedlpccaaGreatDoorUkH
import Derived.Test.YtgohljjedlpccaaGreatDoorFacts
import Derived.KernelRfl
import Derived.Test.YtgohljjedlpccaaGreatDoorEng2
import Derived.Test.YtgohljjedlpccaaGreatDoorRows
import Derived.Lib.LaidU8T
import Derived.MakeChecks
import Derived.Test.YtgohljjedlpccaaGreatDoorCards
import Derived.Test.YtgohljjedlpccaaGreatDoorTie
import Derived.ProofKit
import Derived.OpenShut
import Derived.LaidMore
import Derived.Lay
import Derived.SevenTiedAt
import Derived.Stop.Joined
import Derived.SizedLaws
set_option maxHeartbeats 64000000
set_option maxRecDepth 100000
namespace Go.Proofs.YtgohljjedlpccaaGreatDoor
open Go.Eng
namespace Tp
open Go Go.Eng Wd Kd
structure GoodW (L : Int) (w : Wrd) : Prop where
 name : w.kind = 1 → Word w.text
 num : w.kind = 2 → 0 ≤ w.n ∧ w.n ≤ 999
 lo : 0 ≤ w.at_
 hi : w.at_ ≤ L
def GW (L : Int) (ts : List Wrd) : Prop := ∀ w ∈ ts, GoodW L w
theorem GW.tail {L : Int} {ts : List Wrd} (h : GW L ts) : GW L ts.tail := fun w hw => h w (List.mem_of_mem_tail hw)
theorem GW.hd {L : Int} {ts : List Wrd} (h : GW L ts) (hL : 0 ≤ L) : GoodW L (hd ts) := by
 cases ts with
 | nil => exact ⟨fun h => absurd h (show ¬ (0 : Int) = 1 by decide), fun h => absurd h (show ¬ (0 : Int) = 2 by decide), Int.le_refl _, hL⟩
 | cons w r => exact h w (.head _)
theorem Xx {s : List UInt8} {p q : Nat} (hq : q ≤ s.length) : ∀ (d i n m : Nat), q - (p + i) = d → p + i ≤ q → nameGo s (p + i) n = (q, m) → nameGo (seg s p q) i n = (q - p, m) := by
 have hlen : (seg s p q).length = q - p := by
  unfold seg;rw [List.length_take, List.length_drop];omega
 intro d
 induction d using Nat.strongRecOn with
 | _ d ih =>
 intro i n m hd hi hn;by_cases hlt : p + i < q
 ·cases hx : rn s (p + i) with
  | none =>
    rw [wJ (by omega) hx] at hn;have := congrArg Prod.fst hn;dsimp only at this;omega
  | some c =>
    obtain ⟨x, k⟩ := c;rw [xR (by omega) hx] at hn;have hk := yf hx
    split at hn
    ·have := congrArg Prod.fst hn;dsimp only at this;omega
    ·rename_i hst
     have hle := (ym s (p + i + k) (n + 1)).le;rw [hn] at hle;dsimp only at hle
     have hx2 : rn (seg s p q) i = some (x, k) := by
      unfold seg;refine rn_take ?_ (by omega);rw [kC];exact hx
     rw [xR (by omega) hx2, if_neg hst];exact ih (q - (p + (i + k))) (by omega) (i + k) (n + 1) m rfl (by omega) (by rw [← Nat.add_assoc]; exact hn)
 ·have hie : p + i = q := by omega
  have hm : m = n := by
   rw [hie] at hn;by_cases hqs : q < s.length
   ·cases hx : rn s q with
    | none => rw [wJ hqs hx] at hn; exact (congrArg Prod.snd hn).symm
    | some c =>
      obtain ⟨x, k⟩ := c;rw [xR hqs hx] at hn;have hk := yf hx
      split at hn
      ·exact (congrArg Prod.snd hn).symm
      ·have hle := (ym s (q + k) (n + 1)).le;rw [hn] at hle;dsimp only at hle;omega
   ·rw [nameGo, if_neg hqs] at hn;exact (congrArg Prod.snd hn).symm
  rw [nameGo, if_neg (by omega), hm]
  congr 1
  omega
theorem Yq {s : List UInt8} {p q : Nat} {ws : List Wrd} (hp : p < s.length) (h : stepR s p = .next q ws) : GW s.length ws := by
 unfold stepR at h;cases hx : rn s p with
 | none => rw [hx] at h; cases h
 | some c =>
   obtain ⟨x, k⟩ := c;rw [hx] at h;dsimp only at h
   split at h
   ·cases h; exact fun w hw => by cases hw
   split at h
   ·split at h
    ·cases h
    ·cases h; exact fun w hw => by cases hw
   split at h
   ·rename_i hl
    unfold stepN at h
    split at h
    ·cases h
    ·rename_i h24
     cases h;intro w hw;rw [List.mem_singleton] at hw;subst hw;have hti := ym s p 0;have hle := hti.le;have hqs := hti.len (Nat.le_of_lt hp);have hseg := Xx (s := s) (p := p) hqs _ 0 0 _ rfl hle rfl
     have hlen : (seg s p (nameGo s p 0).1).length = (nameGo s p 0).1 - p := by
      unfold seg;rw [List.length_take, List.length_drop];omega
     have h1 : 1 ≤ (nameGo s p 0).2 := by
      rw [xR hp hx, if_neg (by unfold stopP; rw [hl]; simp)]
      have : ∀ (d p n : Nat), s.length - p = d → n ≤ (nameGo s p n).2 := by
       intro d
       induction d using Nat.strongRecOn with
       | _ d ih =>
       intro p n hd;by_cases hp : p < s.length
       ·cases hx : rn s p with
        | none => rw [wJ hp hx]; exact Nat.le_refl _
        | some c =>
          obtain ⟨x, k⟩ := c;have hk := yf hx;rw [xR hp hx]
          split
          ·exact Nat.le_refl _
          ·have := ih (s.length - (p + k)) (by omega) (p + k) (n + 1) rfl;omega
       ·rw [nameGo, if_neg hp]; exact Nat.le_refl _
      exact this _ (p + k) 1 rfl
     exact ⟨fun _ => ⟨by rw [hseg, hlen], by rw [hseg]; exact h1, by rw [hseg]; show (nameGo s p 0).2 ≤ 24; omega, by rw [hlen]; omega⟩, fun h => absurd h (show ¬ (1 : Int) = 2 by decide), Int.natCast_nonneg _, by dsimp only; omega⟩
   split at h
   ·unfold stepD at h
    split at h
    ·cases h
    split at h
    ·cases h
    ·rename_i h999
     cases h;intro w hw;rw [List.mem_singleton] at hw;subst hw;exact ⟨fun h => absurd h (show ¬ (2 : Int) = 1 by decide), fun _ => ⟨Int.natCast_nonneg _, by dsimp only; omega⟩, Int.natCast_nonneg _, by dsimp only; omega⟩
   ·unfold stepM at h
    split at h
    ·cases h
    ·cases h;intro w hw;rw [List.mem_singleton] at hw;subst hw;exact ⟨fun h => absurd h (show ¬ (3 : Int) = 1 by decide), fun h => absurd h (show ¬ (3 : Int) = 2 by decide), Int.natCast_nonneg _, by dsimp only; omega⟩
theorem go_good {s : List UInt8} : ∀ (d p : Nat) (acc ws : List Wrd), s.length - p = d → GW s.length acc → goR s p acc = .ok ws → GW s.length ws := by
 intro d
 induction d using Nat.strongRecOn with
 | _ d ih =>
 intro p acc ws hd ha h;rw [goR] at h
 split at h
 ·rename_i hp
  cases hs : stepR s p with
  | err e a => rw [hs] at h; cases h
  | next q us =>
    rw [hs] at h;dsimp only at h
    split at h
    ·rename_i hpq
     exact ih (s.length - q) (by omega) q _ ws rfl (fun w hw => by
      rcases List.mem_append.1 hw with hw | hw
      ·exact ha w hw
      ·exact Yq hp hs w hw) h
    ·cases h; exact fun w hw => by cases hw
 ·cases h;intro w hw;rcases List.mem_append.1 hw with hw | hw
  ·exact ha w hw
  ·rw [List.mem_singleton] at hw;subst hw;exact ⟨fun h => absurd h (show ¬ (0 : Int) = 1 by decide), fun h => absurd h (show ¬ (0 : Int) = 2 by decide), Int.natCast_nonneg _, Int.le_refl _⟩
theorem Zc {s : List UInt8} {ws : List Wrd} (h : cutP s = .ok ws) : GW s.length ws := by
 unfold cutP at h
 split at h
 ·cases h
 ·exact go_good _ 0 [] ws rfl (fun w hw => by cases hw) h
structure Fits {α : Type} (L : Int) (r : R α) (Q : α → Prop) : Prop where
 ok : ∀ x ts, r = .ok x ts → Q x ∧ GW L ts
 bad : ∀ e a, r = .bad e a → e ≠ 0 ∧ 0 ≤ a ∧ a ≤ L
section
variable {L : Int} {α β : Type}
theorem Fits.ret {x : α} {ts : List Wrd} {Q : α → Prop} (hq : Q x) (hg : GW L ts) : Fits L (.ok x ts) Q := ⟨fun y us e => (by cases e; exact ⟨hq, hg⟩), fun e a h => (by cases h)⟩
theorem Fits.fail {e : Int} {ts : List Wrd} {Q : α → Prop} (hL : 0 ≤ L) (hg : GW L ts) (he : e ≠ 0 := by decide) : Fits L (fail e ts : R α) Q := ⟨fun y us e => (by cases e), fun e a h => (by cases h; exact ⟨he, (hg.hd hL).lo, (hg.hd hL).hi⟩)⟩
theorem Fits.out {Q : α → Prop} : Fits L (.out : R α) Q := ⟨fun y us e => (by cases e), fun e a h => (by cases h)⟩
theorem Fits.bind {r : R α} {Q : α → Prop} {f : α → List Wrd → R β} {Q' : β → Prop} (h : Fits L r Q) (hf : ∀ x ts, Q x → GW L ts → Fits L (f x ts) Q') : Fits L (r.bind f) Q' := by
 cases r with
 | ok x ts => exact hf x ts (h.ok x ts rfl).1 (h.ok x ts rfl).2
 | bad e a => exact ⟨fun y us e => (by cases e), fun e' a' h' => (by cases h'; exact h.bad e a rfl)⟩
 | out => exact .out
theorem Fits.ite {c : Prop} [Decidable c] {a b : R α} {Q : α → Prop} (h1 : c → Fits L a Q) (h2 : ¬ c → Fits L b Q) : Fits L (if c then a else b) Q := by
 by_cases h : c
 ·rw [if_pos h]; exact h1 h
 ·rw [if_neg h]; exact h2 h
theorem Fits.mono {r : R α} {Q Q' : α → Prop} (h : Fits L r Q) (hq : ∀ x, Q x → Q' x) : Fits L r Q' := ⟨fun x ts e => ⟨hq x (h.ok x ts e).1, (h.ok x ts e).2⟩, h.bad⟩
variable (hL : 0 ≤ L) {ts : List Wrd} (hg : GW L ts)
include hL hg
theorem zj (s : List UInt8) : Fits L (must s ts) fun _ => True := .ite (fun _ => .ret trivial hg.tail) fun _ => .fail hL hg
theorem uE : ∀ (l : List (List UInt8)), Fits L (musts l ts) fun _ => True := by
 intro l
 induction l generalizing ts with
 | nil => exact .ret trivial hg
 | cons s r ih => exact (zj hL hg s).bind fun _ ts _ h => ih h
theorem zu : Fits L (pNumber ts) fun n => 0 ≤ n ∧ n ≤ 999 := .ite (fun h => .ret ((hg.hd hL).num h) hg.tail) fun _ => .fail hL hg
theorem wA : Fits L (pName ts) fun s => nameP s = true := .ite (fun h => .ret (by
  have hw := (hg.hd hL).name h.1;unfold nameP;rw [h.2, decide_eq_true ⟨hw.lo, hw.hi, hw.go, hw.len⟩]
  rfl) hg.tail) fun _ => .fail hL hg
theorem xy : Fits L (pSide ts) fun w => ∃ s, sideP w = some s := .ite (fun _ => .ret ⟨sMe, rfl⟩ hg.tail) fun _ => .ite (fun _ => .ret ⟨sFoe, rfl⟩ hg.tail) fun _ => .fail hL hg
theorem k8 : Fits L (pWho ts) fun w => ∃ s, whoP w = some s := .ite (fun _ => .ret ⟨sTarget, rfl⟩ hg.tail) fun _ => (xy hL hg).mono fun w ⟨s, hs⟩ => by
 unfold whoP
 split
 ·exact ⟨_, rfl⟩
 ·exact ⟨s, hs⟩
theorem qf (d : Nat) : Fits L (pIn d ts) fun _ => d + 1 ≤ 8 := .ite (fun _ => .fail hL hg) fun h => .ret (by omega) hg
end
theorem wY {L : Int} {α : Type} {one : List Wrd → R α} {signs : List (List UInt8 × Int)} {put : Int → α → α → α} {A Y : α → Prop} (ho : ∀ ts, GW L ts → Fits L (one ts) Y) (hp : ∀ sg ∈ signs, ∀ x y, A x → Y y → A (put sg.2 x y)) : ∀ (n : Nat) (x : α) (ts : List Wrd), A x → GW L ts → Fits L (pRest one signs put n x ts) A
 | 0, _, _, _, _ => .out
 | n + 1, x, ts, hx, hg => by
   rw [pRest]
   split
   ·exact .ret hx hg
   ·rename_i sg hsg
    exact (ho _ hg.tail).bind fun y ts hy hg => wY ho hp n _ ts (hp sg (List.mem_of_find?_eq_some hsg) x y hx hy) hg
theorem y5 {f : List UInt8 → List UInt8 → List UInt8} {a b : Option (List UInt8)} (ha : ∃ s, a = some s) (hb : ∃ s, b = some s) : ∃ s, putP f a b = some s := by
 obtain ⟨s, rfl⟩ := ha;obtain ⟨t, rfl⟩ := hb;exact ⟨_, rfl⟩
theorem ww {d : Nat} {f : Nat → Option (List UInt8)} (hd : d + 1 ≤ 8) (h : ∃ s, f (d + 1) = some s) : ∃ s, inP d f = some s := by
 obtain ⟨s, h⟩ := h;exact ⟨s, by unfold inP; rw [if_pos hd, h]⟩
theorem wN {br : Bool} {d : Nat} {f : Nat → Option (List UInt8)} (h1 : br = true → d + 1 ≤ 8 ∧ ∃ s, f (d + 1) = some s) (h2 : br = false → ∃ s, f d = some s) : ∃ s, brP br d f = some s := by
 cases br with
 | true =>
   obtain ⟨hd, h⟩ := h1 rfl;obtain ⟨s, h⟩ := ww hd h;exact ⟨_, by unfold brP; rw [if_pos rfl, h]; rfl⟩
 | false => exact h2 rfl
theorem qe {d : Nat} {f : Nat → Option (List UInt8)} {s : List UInt8} (hf : ∀ d s, f (d + 1) = some s → f d = some s) (h : inP (d + 1) f = some s) : inP d f = some s := by
 obtain ⟨h1, h2⟩ := jE h;unfold inP;rw [if_pos (by omega)];exact hf _ _ h2
theorem wO {br : Bool} {d : Nat} {f : Nat → Option (List UInt8)} {s : List UInt8} (hf : ∀ d s, f (d + 1) = some s → f d = some s) (h : brP br (d + 1) f = some s) : brP br d f = some s := by
 cases br with
 | true =>
   rcases WP h with ⟨h0, -⟩ | ⟨-, hd, t, h1, rfl⟩
   ·cases h0
   ·have : inP d f = some t := by unfold inP; rw [if_pos (by omega)]; exact hf _ _ h1
    unfold brP;rw [if_pos rfl, this]
    rfl
 | false => exact hf _ _ h
theorem vI {f : List UInt8 → List UInt8 → List UInt8} {a b a' b' : Option (List UInt8)} {s : List UInt8} (ha : ∀ s, a = some s → a' = some s) (hb : ∀ s, b = some s → b' = some s) (h : putP f a b = some s) : putP f a' b' = some s := by
 obtain ⟨u, v, h1, h2, rfl⟩ := xz h;rw [ha _ h1, hb _ h2]
 rfl
theorem vJ : ∀ (x : NumT) (d : Nat) (s : List UInt8), numP x (d + 1) = some s → numP x d = some s
 | .mk op n who k, d, s, h => by
   rcases Yu h with ⟨hk, h3⟩ | ⟨a, b, hk, hn0, hw0, h3⟩
   ·subst hk;rw [uz];exact h3
   ·have ia : ∀ d s, numP a (d + 1) = some s → numP a d = some s := fun d s h => vJ a d s h;have ib : ∀ d s, numP b (d + 1) = some s → numP b d = some s := fun d s h => vJ b d s h;subst hk hn0 hw0;rw [vK, if_neg (fun h => h ⟨rfl, rfl⟩)];unfold twoP at h3 ⊢
    split
    ·rename_i ho
     rw [if_pos ho] at h3;exact vI (fun s h => qe ia h) (fun s h => qe ib h) h3
    rename_i h11
    rw [if_neg h11] at h3
    split
    ·rename_i ho
     rw [if_pos ho] at h3;exact vI (fun s h => qe ia h) (fun s h => qe ib h) h3
    rename_i h12
    rw [if_neg h12] at h3
    split
    ·rename_i ho
     rw [if_pos ho] at h3;exact vI (fun s h => wO ia h) (fun s h => wO ib h) h3
    rename_i h10
    rw [if_neg h10] at h3
    split
    ·rename_i ho
     rw [if_pos ho] at h3;exact vI (fun s h => ia _ _ h) (fun s h => wO ib h) h3
    rename_i h8
    rw [if_neg h8] at h3
    split
    ·rename_i ho
     rw [if_pos ho] at h3;exact vI (fun s h => ia _ _ h) (fun s h => wO ib h) h3
    rename_i h9
    rw [if_neg h9] at h3;cases h3
termination_by x => SizeOf.sizeOf x
decreasing_by
 all_goals
  subst hk
  simp
  omega
def QS (d : Nat) (x : NumT) : Prop := ∃ s, numP x d = some s
def QO (d : Nat) (x : NumT) : Prop := QS d x ∧ (isSum x = true ∨ opN x = 10 → d + 1 ≤ 8 ∧ QS (d + 1) x)
def QA (d : Nat) (x : NumT) : Prop := QS d x ∧ (isSum x = true → d + 1 ≤ 8 ∧ QS (d + 1) x)
theorem QO.leaf {op n who : Int} {d : Nat} (h : ∃ s, leafP op n who = some s) (ho : ¬ 8 ≤ op) : QO d (plainN op n who) := by
 obtain ⟨s, h⟩ := h;refine ⟨⟨s, by unfold plainN; rw [uz, h]⟩, fun h2 => ?_⟩;rcases h2 with h2 | h2
 ·have h2 : (decide (op = 8) || decide (op = 9)) = true := h2;rw [decide_eq_false (by omega), decide_eq_false (by omega)] at h2;cases h2
 ·exact absurd (show op = 10 from h2) (by omega)
theorem QO.min {op : Int} {a b : NumT} {d : Nat} (ho : op = 11 ∨ op = 12) (hd : d + 1 ≤ 8) (ha : QS (d + 1) a) (hb : QS (d + 1) b) : QO d (putN op a b) := by
 refine ⟨?_, fun h2 => ?_⟩
 ·unfold QS putN;rw [vK, if_neg (fun h => h ⟨rfl, rfl⟩)];rcases ho with rfl | rfl
  ·exact y5 (f := minT sMin) (ww hd ha) (ww hd hb)
  ·exact y5 (f := minT sMax) (ww hd ha) (ww hd hb)
 ·rcases ho with rfl | rfl <;> rcases h2 with h2 | h2 <;> cases h2
theorem kY {L : Int} (hL : 0 ≤ L) {sum : Nat → List Wrd → R NumT} (hs : ∀ d ts, GW L ts → Fits L (sum d ts) (QS d)) (two : Bool) (d : Nat) {ts : List Wrd} (hg : GW L ts) : Fits L (pBr sum two d ts) fun x => d + 1 ≤ 8 ∧ QS (d + 1) x.1 ∧ (two = true → QS (d + 1) x.2) := by
 unfold pBr;refine .ite (fun _ => ?_) fun _ => .fail hL hg;refine (qf hL hg d).bind fun _ ts hd hg => (zj hL hg _).bind fun _ ts _ hg => (hs _ _ hg).bind fun a ts ha hg => .ite (fun _ => ?_) fun h => ?_
 ·exact (zj hL hg _).bind fun _ ts _ hg => (hs _ _ hg).bind fun b ts hb hg => (zj hL hg _).bind fun _ ts _ hg => .ret ⟨hd, ha, fun _ => hb⟩ hg
 ·exact (zj hL hg _).bind fun _ ts _ hg => .ret ⟨hd, ha, fun e => absurd e h⟩ hg
theorem ZH {L : Int} (hL : 0 ≤ L) {sum : Nat → List Wrd → R NumT} (hs : ∀ d ts, GW L ts → Fits L (sum d ts) (QS d)) (d : Nat) {ts : List Wrd} (hg : GW L ts) : Fits L (pOne sum d ts) (QO d) := by
 unfold pOne;refine .ite (fun _ => ?_) fun _ => .ite (fun h2 => ?_) fun _ => ?_
 ·refine (kY hL hs false d hg).bind fun x ts ⟨hd, ha, _⟩ hg => .ret ?_ hg;obtain ⟨s, hs⟩ := ha;exact ⟨⟨s, vJ _ _ _ hs⟩, fun _ => ⟨hd, s, hs⟩⟩
 ·have hn := (hg.hd hL).num h2;exact .ret (.leaf ⟨_, by unfold leafP; rw [if_pos rfl, if_pos ⟨rfl, hn.1, hn.2⟩]⟩ (by omega)) hg.tail
 split
 ·rename_i sg hsg
  have hm := List.mem_of_find?_eq_some hsg;refine (zj hL hg.tail _).bind fun _ ts _ hg => (xy hL hg).bind fun w ts ⟨s, hw⟩ hg => (zj hL hg _).bind fun _ ts _ hg => .ret ?_ hg;unfold whos at hm;simp only [List.mem_cons, List.not_mem_nil, or_false] at hm;rcases hm with rfl | rfl | rfl | rfl
  ·exact .leaf ⟨_, by show (sideP w).map _ = _; rw [hw]; rfl⟩ (by decide)
  ·exact .leaf ⟨_, by show (sideP w).map _ = _; rw [hw]; rfl⟩ (by decide)
  ·exact .leaf ⟨_, by show (sideP w).map _ = _; rw [hw]; rfl⟩ (by decide)
  ·exact .leaf ⟨_, by show (sideP w).map _ = _; rw [hw]; rfl⟩ (by decide)
 ·refine .ite (fun _ => (uE hL hg.tail _).bind fun _ ts _ hg => .ret (.leaf ⟨_, rfl⟩ (by decide)) hg) fun _ => .ite (fun _ => (uE hL hg.tail _).bind fun _ ts _ hg => .ret (.leaf ⟨_, rfl⟩ (by decide)) hg) fun _ => .ite (fun _ => (uE hL hg.tail _).bind fun _ ts _ hg => .ret (.leaf ⟨_, rfl⟩ (by decide)) hg) fun _ => ?_
  refine .ite (fun _ => (kY hL hs true d hg.tail).bind fun x ts ⟨hd, ha, hb⟩ hg => .ret (.min (.inl rfl) hd ha (hb rfl)) hg) fun _ => .ite (fun _ => (kY hL hs true d hg.tail).bind fun x ts ⟨hd, ha, hb⟩ hg => .ret (.min (.inr rfl) hd ha (hb rfl)) hg) fun _ => .fail hL hg
theorem jf {L : Int} (hL : 0 ≤ L) {sum : Nat → List Wrd → R NumT} (hs : ∀ d ts, GW L ts → Fits L (sum d ts) (QS d)) (n d : Nat) {ts : List Wrd} (hg : GW L ts) : Fits L (pTerm sum n d ts) (QA d) := by
 unfold pTerm pRow;refine (ZH hL hs d hg).bind fun x ts hx hg => wY (A := QA d) (Y := QO d) (fun ts hg => ZH hL hs d hg) (fun sg hsg a b ha hb => ?_) n x ts ⟨hx.1, fun h => hx.2 (.inl h)⟩ hg;unfold mulSigns at hsg;obtain rfl := List.mem_singleton.1 hsg;refine ⟨?_, fun h => by cases h⟩;unfold QS putN;rw [vK, if_neg (fun h => h ⟨rfl, rfl⟩)]
 refine y5 (f := sgnT sStar) (wN (fun h => ha.2 h) (fun _ => ha.1)) (wN (fun h => hb.2 ?_) (fun _ => hb.1));rcases Bool.or_eq_true_iff.1 h with h | h
 ·exact .inl h
 ·exact .inr (of_decide_eq_true h)
theorem qq {L : Int} (hL : 0 ≤ L) : ∀ (n d : Nat) (ts : List Wrd), GW L ts → Fits L (pSum n d ts) (QS d)
 | 0, _, _, _ => .out
 | n + 1, d, ts, hg => by
   unfold pSum pRow;have hs := fun d ts hg => qq hL n d ts hg;refine (jf hL hs (n + 1) d hg).bind fun x ts hx hg => wY (A := QS d) (Y := QA d) (fun ts hg => jf hL hs (n + 1) d hg) (fun sg hsg a b ha hb => ?_) (n + 1) x ts hx.1 hg;unfold sumSigns at hsg;simp only [List.mem_cons, List.not_mem_nil, or_false] at hsg;unfold QS putN;rw [vK, if_neg (fun h => h ⟨rfl, rfl⟩)]
   rcases hsg with rfl | rfl
   ·exact y5 (f := sgnT sPlus) ha (wN (fun h => hb.2 h) (fun _ => hb.1))
   ·exact y5 (f := sgnT sMinus) ha (wN (fun h => hb.2 h) (fun _ => hb.1))
end Tp
namespace Tp
open Go Go.Eng Wd Kd
theorem jq : ∀ (x : CondT) (d : Nat) (s : List UInt8), condP x (d + 1) = some s → condP x d = some s
 | .mk op who name ns ks, d, s, h => by
   have hk : ∀ k ∈ ks, ∀ d s, condP k (d + 1) = some s → condP k d = some s := fun k _ d s h => jq k d s h;have hc := YA h;clear h;generalize hx : CondT.mk op who name ns ks = x at hc;generalize hd : d + 1 = d1 at hc;cases hc with
   | @cmp o w a b _ u v hw ha hb =>
     cases hx;subst hd;have e : putP (sgnT w) (numP a d) (numP b d) = some (sgnT w u v) := by rw [vJ _ _ _ ha, vJ _ _ _ hb]; rfl
     rcases hw with ⟨rfl, rfl⟩ | ⟨rfl, rfl⟩ | ⟨rfl, rfl⟩
     ·rw [uM]; exact e
     ·rw [uL]; exact e
     ·rw [uK]; exact e
   | holds hn hs =>
     cases hx;rw [vQ, if_pos hn, hs]
     rfl
   | @not k _ s hd2 h1 =>
     cases hx;subst hd;rw [qB]
     have e : inP d (fun d => brP (decide (opC k = 4) || decide (opC k = 5)) d (condP k)) = some s := by
      unfold inP;rw [if_pos (by omega)];exact wO (hk _ (.head _)) h1
     rw [e]
     rfl
   | or ha hb =>
     cases hx;subst hd;rw [jM, hk _ (.head _) _ _ ha, wO (hk _ (.tail _ (.head _))) hb]
     rfl
   | and ha hb =>
     cases hx;subst hd;rw [qC, wO (hk _ (.head _)) ha, wO (hk _ (.tail _ (.head _))) hb]
     rfl
termination_by x => SizeOf.sizeOf x
decreasing_by
 have := List.sizeOf_lt_of_mem ‹k ∈ ks›
 simp
 omega
def QC (d : Nat) (x : CondT) : Prop := ∃ s, condP x d = some s
def QCO (d : Nat) (x : CondT) : Prop := QC d x ∧ (opC x = 4 ∨ opC x = 5 → d + 1 ≤ 8 ∧ QC (d + 1) x)
def QCA (d : Nat) (x : CondT) : Prop := QC d x ∧ (opC x = 5 → d + 1 ≤ 8 ∧ QC (d + 1) x)
theorem je {L : Int} (hL : 0 ≤ L) {sum : Nat → List Wrd → R NumT} {cond : Nat → List Wrd → R CondT} (hs : ∀ d ts, GW L ts → Fits L (sum d ts) (QS d)) (hc : ∀ d ts, GW L ts → Fits L (cond d ts) (QC d)) : ∀ (n d : Nat) (ts : List Wrd), GW L ts → Fits L (pTest sum cond n d ts) (QCO d)
 | 0, _, _, _ => .out
 | n + 1, d, ts, hg => by
   unfold pTest;refine .ite (fun _ => ?_) fun _ => .ite (fun _ => ?_) fun _ => .ite (fun _ => ?_) fun _ => ?_
   ·refine (qf hL hg d).bind fun _ ts hd hg => (je hL hs hc n (d + 1) _ hg.tail).bind fun k ts hk hg => .ret ⟨?_, fun h => by rcases h with h | h <;> cases h⟩ hg
    have e : ∃ s, inP d (fun d => brP (decide (opC k = 4) || decide (opC k = 5)) d (condP k)) = some s := ww hd (wN (fun h => hk.2 (by
     rcases Bool.or_eq_true_iff.1 h with h | h
     ·exact .inl (of_decide_eq_true h)
     ·exact .inr (of_decide_eq_true h))) fun _ => hk.1)
    obtain ⟨s, e⟩ := e;exact ⟨_, by rw [qB, e]; rfl⟩
   ·refine (qf hL hg d).bind fun _ ts hd hg => (hc _ _ hg.tail).bind fun x ts hx hg => (zj hL hg _).bind fun _ ts _ hg => .ret ⟨?_, fun _ => ⟨hd, hx⟩⟩ hg;obtain ⟨s, h⟩ := hx;exact ⟨s, jq _ _ _ h⟩
   ·refine (zj hL hg.tail _).bind fun _ ts _ hg => (xy hL hg).bind fun w ts ⟨s, hw⟩ hg => (zj hL hg _).bind fun _ ts _ hg => (wA hL hg).bind fun nm ts hn hg => (zj hL hg _).bind fun _ ts _ hg => .ret ⟨?_, fun h => by rcases h with h | h <;> cases h⟩ hg;exact ⟨_, by rw [vQ, if_pos hn, hw]; rfl⟩
   ·refine (hs _ _ hg).bind fun a ts ha hg => ?_
    split
    ·rename_i sg hsg
     have hm := List.mem_of_find?_eq_some hsg;refine (hs _ _ hg.tail).bind fun b ts hb hg => .ret ?_ hg;unfold lessSigns at hm;simp only [List.mem_cons, List.not_mem_nil, or_false] at hm;rcases hm with rfl | rfl | rfl
     ·refine ⟨?_, fun h => by rcases h with h | h <;> cases h⟩;unfold QC;rw [uM];exact y5 ha hb
     ·refine ⟨?_, fun h => by rcases h with h | h <;> cases h⟩;unfold QC;rw [uL];exact y5 ha hb
     ·refine ⟨?_, fun h => by rcases h with h | h <;> cases h⟩;unfold QC;rw [uK];exact y5 ha hb
    ·exact .fail hL hg
theorem jv {L : Int} (hL : 0 ≤ L) {cond : Nat → List Wrd → R CondT} (hc : ∀ d ts, GW L ts → Fits L (cond d ts) (QC d)) (n d : Nat) {ts : List Wrd} (hg : GW L ts) : Fits L (pBoth cond n d ts) (QCA d) := by
 have ht := fun ts hg => je hL (fun d ts hg => qq hL n d ts hg) hc n d ts hg;unfold pBoth pRow;refine (ht ts hg).bind fun x ts hx hg => wY (A := QCA d) (Y := QCO d) ht (fun sg hsg a b ha hb => ?_) n x ts ⟨hx.1, fun h => hx.2 (.inr h)⟩ hg;unfold andSigns at hsg;obtain rfl := List.mem_singleton.1 hsg;refine ⟨?_, fun h => by cases h⟩;unfold QC putC;rw [qC]
 refine y5 (f := sgnT sAnd) (wN (fun h => ha.2 (of_decide_eq_true h)) (fun _ => ha.1)) (wN (fun h => hb.2 ?_) (fun _ => hb.1));rcases Bool.or_eq_true_iff.1 h with h | h
 ·exact .inr (of_decide_eq_true h)
 ·exact .inl (of_decide_eq_true h)
theorem jr {L : Int} (hL : 0 ≤ L) : ∀ (n d : Nat) (ts : List Wrd), GW L ts → Fits L (pCond n d ts) (QC d)
 | 0, _, _, _ => .out
 | n + 1, d, ts, hg => by
   unfold pCond pRow;have hc := fun d ts hg => jr hL n d ts hg;refine (jv hL hc (n + 1) d hg).bind fun x ts hx hg => wY (A := QC d) (Y := QCA d) (fun ts hg => jv hL hc (n + 1) d hg) (fun sg hsg a b ha hb => ?_) (n + 1) x ts hx.1 hg;unfold orSigns at hsg;obtain rfl := List.mem_singleton.1 hsg;unfold QC putC;rw [jM]
   exact y5 (f := sgnT sOr) ha (wN (fun h => hb.2 (of_decide_eq_true h)) (fun _ => hb.1))
def QE (d : Nat) (x : EffT) : Prop := ∃ s, effP x d = some s
def QB (d : Nat) (l : List EffT) : Prop := ∀ x ∈ l, QE d x
theorem uq {d : Nat} : ∀ {l : List EffT}, QB d l → ∃ s, blkP l d = some s
 | [], _ => ⟨_, WQ d⟩
 | x :: r, h => by
   obtain ⟨s, hs⟩ := h x (.head _);obtain ⟨t, ht⟩ := uq (l := r) fun y hy => h y (.tail _ hy);exact ⟨_, by rw [XH, hs, ht]; rfl⟩
theorem bare0 : bareE cond0 [] [] := ⟨rfl, rfl⟩
theorem u4 {w : List UInt8} {a b : Option (List UInt8)} (ha : ∃ s, a = some s) (hb : ∃ s, b = some s) : ∃ s, lineP w a b = some s := y5 ha hb
theorem ud {w : List UInt8} {a : Option (List UInt8)} (ha : ∃ s, a = some s) : ∃ s, line1 w a = some s := by
 obtain ⟨s, rfl⟩ := ha;exact ⟨_, rfl⟩
theorem xO {L : Int} (hL : 0 ≤ L) {d : Nat} {x : EffT} (hx : QE d x) {ts : List Wrd} (hg : GW L ts) : Fits L (pSemi x ts) (QE d) := (zj hL hg _).bind fun _ _ _ hg => .ret hx hg
theorem WF {L : Int} (hL : 0 ≤ L) {blk : Nat → List Wrd → R (List EffT)} (hb : ∀ d ts, GW L ts → Fits L (blk d ts) (QB d)) (n d : Nat) {ts : List Wrd} (hg : GW L ts) : Fits L (pEff blk n d ts) (QE d) := by
 have hs := fun ts hg => qq hL n d ts hg;unfold pEff
 refine .ite (fun _ => (k8 hL hg.tail).bind fun w ts hw hg => (hs _ hg).bind fun x ts hx hg => xO hL ?_ hg) fun _ => .ite (fun _ => (k8 hL hg.tail).bind fun w ts hw hg => (hs _ hg).bind fun x ts hx hg => xO hL ?_ hg) fun _ =>
  .ite (fun _ => (xy hL hg.tail).bind fun w ts hw hg => (hs _ hg).bind fun x ts hx hg => xO hL ?_ hg) fun _ => .ite (fun _ => (hs _ hg.tail).bind fun x ts hx hg => xO hL ?_ hg) fun _ => .ite (fun _ => (hs _ hg.tail).bind fun x ts hx hg => xO hL ?_ hg) fun _ =>
  .ite (fun _ => (xy hL hg.tail).bind fun w ts hw hg => xO hL ?_ hg) fun _ => .ite (fun _ => (xy hL hg.tail).bind fun w ts hw hg => xO hL ?_ hg) fun _ => .ite (fun _ => (wA hL hg.tail).bind fun s ts hn hg => xO hL ?_ hg) fun _ => .ite (fun _ => ?_) fun _ => .fail hL hg
 ·unfold QE eff0; rw [Y7 bare0]; exact u4 hw hx
 ·unfold QE eff0; rw [Y5 bare0]; exact u4 hw hx
 ·unfold QE eff0; rw [XA bare0]; exact u4 hw hx
 ·unfold QE eff0; rw [Y8 bare0]; exact ud hx
 ·unfold QE eff0; rw [Y6 bare0]; exact ud hx
 ·unfold QE eff0; rw [Y9 bare0 rfl]; exact ud hw
 ·unfold QE eff0; rw [Y4 bare0 rfl]; exact ud hw
 ·unfold QE eff0; rw [Za bare0 rfl hn]; exact ⟨_, rfl⟩
 ·refine (qf hL hg d).bind fun _ ts hd hg => (jr hL _ _ _ hg.tail).bind fun c ts hc hg => (hb _ _ hg).bind fun t ts ht hg => (zj hL hg _).bind fun _ ts _ hg => (hb _ _ hg).bind fun e ts he hg => .ret ?_ hg;unfold QE;rw [effP_if, if_pos ⟨rfl, rfl, rfl⟩];refine ww hd ?_;obtain ⟨s, hc⟩ := hc;obtain ⟨u, ht⟩ := uq ht;obtain ⟨v, he⟩ := uq he
  exact ⟨_, by unfold ifP; rw [hc, ht, he]; rfl⟩
theorem jl {L : Int} {α : Type} {Q : α → Prop} {one : List Wrd → R α} (ho : ∀ ts, GW L ts → Fits L (one ts) Q) : ∀ (n : Nat) (acc : List α) (ts : List Wrd), (∀ x ∈ acc, Q x) → GW L ts → Fits L (pMany one n acc ts) fun l => ∀ x ∈ l, Q x
 | 0, _, _, _, _ => .out
 | n + 1, acc, ts, ha, hg => by
   unfold pMany;refine .ite (fun _ => .ret ha hg.tail) fun _ => (ho _ hg).bind fun x ts hx hg => jl ho n _ ts (fun y hy => ?_) hg;rcases List.mem_append.1 hy with hy | hy
   ·exact ha y hy
   ·rw [List.mem_singleton.1 hy]; exact hx
theorem xM {L : Int} (hL : 0 ≤ L) : ∀ (n d : Nat) (ts : List Wrd), GW L ts → Fits L (pBlock n d ts) (QB d)
 | 0, _, _, _ => .out
 | n + 1, d, ts, hg => by
   unfold pBlock;exact (zj hL hg _).bind fun _ ts _ hg => jl (Q := QE d) (fun ts hg => WF hL (fun d ts hg => xM hL n d ts hg) (n + 1) d hg) (n + 1) [] ts (fun x h => by cases h) hg
theorem wt {L : Int} (hL : 0 ≤ L) {σ : Type} {keys : List (List UInt8)} {read : List UInt8 → σ → List Wrd → R σ} {parts : σ → Nat} {I : σ → Prop} (hr : ∀ s c ts, I c → GW L ts → Fits L (read s c ts) I) : ∀ (n : Nat) (seen : List (List UInt8)) (c : σ) (ts : List Wrd), I c → GW L ts → Fits L (pRules keys read parts n seen c ts) fun c => I c ∧ parts c ≤ 200
 | 0, _, _, _, _, _ => .out
 | n + 1, seen, c, ts, hc, hg => by
   unfold pRules;exact .ite (fun _ => .ite (fun _ => .fail hL hg) fun h => .ret ⟨hc, by omega⟩ hg.tail) fun _ => .ite (fun _ => .ite (fun _ => .fail hL hg) fun _ => (hr _ _ _ hc hg.tail).bind fun c ts hc hg => wt hL hr n _ c ts hc hg) fun _ => .fail hL hg
structure CI (c : CardT) : Prop where
 name : nameP c.name = true
 kind : kindB c = true
 cost : smallB c.cost = true
 power : smallB c.power = true
 health : smallB c.health = true
 shield : smallB c.shield = true
 apow : smallB c.apow = true
 aheal : smallB c.aheal = true
 p : QB 0 c.played
 d : QB 0 c.dead
 w : QB 0 c.dawn
theorem yx {n : Int} (h : 0 ≤ n ∧ n ≤ 999) : smallB n = true := decide_eq_true h
theorem qr {w : List UInt8} {l : List EffT} (h : QB 0 l) : ∃ s, secP w l = some s := by
 unfold secP
 split
 ·exact ⟨_, rfl⟩
 ·obtain ⟨s, hs⟩ := uq h;rw [hs];exact ⟨_, rfl⟩
theorem CI.some {c : CardT} (h : CI c) (hw : cardWt c ≤ 200) : ∃ s, cardP c = some s := by
 obtain ⟨a, ha⟩ := qr (w := sPlayed) h.p;obtain ⟨b, hb⟩ := qr (w := sDead) h.d;obtain ⟨e, he⟩ := qr (w := sDawn) h.w;have hn : numsB c = true := by unfold numsB; rw [h.cost, h.power, h.health, h.shield, h.apow, h.aheal]; rfl
 exact ⟨_, by unfold cardP secsP; rw [if_pos ⟨h.name, h.kind, hn, hw⟩, ha, hb, he]; rfl⟩
theorem ja {L : Int} (hL : 0 ≤ L) (n : Nat) (s : List UInt8) (c : CardT) (ts : List Wrd) (h : CI c) (hg : GW L ts) : Fits L (cardRead n s c ts) CI := by
 unfold cardRead
 refine .ite (fun _ => (xM hL n 0 ts hg).bind fun l ts hl hg => .ret ?_ hg) fun _ => .ite (fun _ => (xM hL n 0 ts hg).bind fun l ts hl hg => .ret ?_ hg) fun _ => .ite (fun _ => (xM hL n 0 ts hg).bind fun l ts hl hg => .ret ?_ hg) fun _ =>
  .ite (fun _ => (zu hL hg).bind fun a ts ha hg => (zj hL hg _).bind fun _ ts _ hg => (zu hL hg).bind fun b ts hb hg => (zj hL hg _).bind fun _ ts _ hg => .ret ?_ hg) fun _ => (zu hL hg).bind fun a ts ha hg => (zj hL hg _).bind fun _ ts _ hg => .ret ?_ hg
 ·exact ⟨h.name, h.kind, h.cost, h.power, h.health, h.shield, h.apow, h.aheal, hl, h.d, h.w⟩
 ·exact ⟨h.name, h.kind, h.cost, h.power, h.health, h.shield, h.apow, h.aheal, h.p, hl, h.w⟩
 ·exact ⟨h.name, h.kind, h.cost, h.power, h.health, h.shield, h.apow, h.aheal, h.p, h.d, hl⟩
 ·exact ⟨h.name, h.kind, h.cost, h.power, h.health, h.shield, yx ha, yx hb, h.p, h.d, h.w⟩
 ·exact ⟨h.name, h.kind, h.cost, h.power, h.health, yx ha, h.apow, h.aheal, h.p, h.d, h.w⟩
theorem XF {L : Int} (hL : 0 ≤ L) (n : Nat) (a : Int) {ts : List Wrd} (hg : GW L ts) : Fits L (pCard cardWt n a ts) fun c => ∃ s, cardP c = some s := by
 unfold pCard;have h0 : QB 0 [] := fun x h => by cases h
 refine (wA hL hg).bind fun s ts hs hg => (Fits.bind (Q := CI) (.ite (fun _ => (zu hL hg.tail).bind fun c ts hc hg => (zu hL hg).bind fun p ts hp hg => (zj hL hg _).bind fun _ ts _ hg => (zu hL hg).bind fun e ts he hg => .ret ?_ hg) fun _ => (zj hL hg _).bind fun _ ts _ hg => (zu hL hg).bind fun c ts hc hg => .ret ?_ hg)
  fun c ts hc hg => (zj hL hg _).bind fun _ ts _ hg => (wt hL (ja hL n) n [] c ts hc hg).mono fun c ⟨h1, h2⟩ => h1.some h2)
 ·exact ⟨hs, rfl, yx hc, yx hp, yx he, rfl, rfl, rfl, h0, h0, h0⟩
 ·exact ⟨hs, rfl, yx hc, rfl, rfl, rfl, rfl, rfl, h0, h0, h0⟩
structure FI (f : FmtT) : Prop where
 name : nameP f.name = true
 least : smallB f.least = true
 most : smallB f.most = true
 copies : smallB f.copies = true
 b : ∀ s ∈ f.banned, nameP s = true
 s : ∀ s ∈ f.single, nameP s = true
theorem FI.some {f : FmtT} (h : FI f) : ∃ s, fmtP f = some s := ⟨_, by unfold fmtP; rw [if_pos ⟨h.name, h.least, h.most, h.copies, List.all_eq_true.2 h.b, List.all_eq_true.2 h.s⟩]⟩
theorem uD {L : Int} (hL : 0 ≤ L) : ∀ (n : Nat) (acc : List (List UInt8)) (ts : List Wrd), (∀ s ∈ acc, nameP s = true) → GW L ts → Fits L (pNames n acc ts) fun l => ∀ s ∈ l, nameP s = true
 | 0, _, _, _, _ => .out
 | n + 1, acc, ts, ha, hg => by
   unfold pNames;refine (wA hL hg).bind fun s ts hs hg => ?_
   have h2 : ∀ x ∈ acc ++ [s], nameP x = true := fun x hx => by
    rcases List.mem_append.1 hx with hx | hx
    ·exact ha x hx
    ·rw [List.mem_singleton.1 hx]; exact hs
   exact .ite (fun _ => uD hL n _ _ h2 hg.tail) fun _ => .ret h2 hg
theorem kS {L : Int} (hL : 0 ≤ L) (n : Nat) (s : List UInt8) (f : FmtT) (ts : List Wrd) (h : FI f) (hg : GW L ts) : Fits L (fmtRead n s f ts) FI := by
 have h0 : ∀ s ∈ ([] : List (List UInt8)), nameP s = true := fun s h => by cases h
 unfold fmtRead
 refine .ite (fun _ => (zu hL hg).bind fun a ts ha hg => (zj hL hg _).bind fun _ ts _ hg => .ret ?_ hg) fun _ => .ite (fun _ => (zu hL hg).bind fun a ts ha hg => (zj hL hg _).bind fun _ ts _ hg => .ret ?_ hg) fun _ => .ite (fun _ => (zu hL hg).bind fun a ts ha hg => (zj hL hg _).bind fun _ ts _ hg => .ret ?_ hg) fun _ =>
  .ite (fun _ => (uD hL n [] ts h0 hg).bind fun l ts hl hg => (zj hL hg _).bind fun _ ts _ hg => .ret ?_ hg) fun _ => (uD hL n [] ts h0 hg).bind fun l ts hl hg => (zj hL hg _).bind fun _ ts _ hg => .ret ?_ hg
 ·exact ⟨h.name, yx ha, h.most, h.copies, h.b, h.s⟩
 ·exact ⟨h.name, h.least, yx ha, h.copies, h.b, h.s⟩
 ·exact ⟨h.name, h.least, h.most, yx ha, h.b, h.s⟩
 ·exact ⟨h.name, h.least, h.most, h.copies, hl, h.s⟩
 ·exact ⟨h.name, h.least, h.most, h.copies, h.b, hl⟩
theorem ZT {L : Int} (hL : 0 ≤ L) (n : Nat) (a : Int) {ts : List Wrd} (hg : GW L ts) : Fits L (pFmt n a ts) fun f => ∃ s, fmtP f = some s := by
 have h0 : ∀ s ∈ ([] : List (List UInt8)), nameP s = true := fun s h => by cases h
 unfold pFmt;exact (wA hL hg).bind fun s ts hs hg => (zj hL hg _).bind fun _ ts _ hg => (wt hL (kS hL n) n [] _ ts ⟨hs, rfl, rfl, rfl, h0, h0⟩ hg).mono fun f ⟨h1, _⟩ => h1.some
structure BI (b : BkT) : Prop where
 lc : b.cards.length ≤ 240
 lf : b.fmts.length ≤ 240
 c : ∀ c ∈ b.cards, ∃ s, cardP c = some s
 f : ∀ f ∈ b.fmts, ∃ s, fmtP f = some s
theorem Zh : ∀ {l : List (Option (List UInt8))}, (∀ x ∈ l, ∃ t, x = some t) → ∃ s, catP l = some s
 | [], _ => ⟨_, rfl⟩
 | x :: r, h => by
   obtain ⟨t, rfl⟩ := h x (.head _);obtain ⟨u, hu⟩ := Zh (l := r) fun y hy => h y (.tail _ hy);exact ⟨_, by rw [catP, hu]; rfl⟩
theorem BI.some {b : BkT} (h : BI b) : ∃ s, bookP b = some s := by
 unfold bookP;rw [if_pos ⟨h.lc, h.lf⟩];refine Zh fun x hx => ?_;rcases List.mem_append.1 hx with hx | hx
 ·obtain ⟨c, hc, rfl⟩ := List.mem_map.1 hx;exact h.c c hc
 ·obtain ⟨f, hf, rfl⟩ := List.mem_map.1 hx;exact h.f f hf
theorem qF {L : Int} (hL : 0 ≤ L) (n0 : Nat) : ∀ (n : Nat) (cs : List CardT) (fs : List FmtT) (ts : List Wrd), BI ⟨cs, fs⟩ → GW L ts → Fits L (pBook cardWt n0 n cs fs ts) BI
 | 0, _, _, _, _, _ => .out
 | n + 1, cs, fs, ts, hb, hg => by
   unfold pBook;have hlc := hb.lc;have hlf := hb.lf;dsimp only at hlc hlf
   refine .ite (fun _ => .ret hb hg) fun _ => .ite (fun _ => .ite (fun _ => .fail hL hg) fun h => (XF hL n0 _ hg.tail).bind fun c ts hc hg => qF hL n0 n _ _ ts ⟨?_, hb.lf, fun x hx => ?_, hb.f⟩ hg) fun _ =>
    .ite (fun _ => .ite (fun _ => .fail hL hg) fun h => (ZT hL n0 _ hg.tail).bind fun f ts hf hg => qF hL n0 n _ _ ts ⟨hb.lc, ?_, hb.c, fun x hx => ?_⟩ hg) fun _ => .fail hL hg
   ·simp only [List.length_append, List.length_cons, List.length_nil];omega
   ·rcases List.mem_append.1 hx with hx | hx
    ·exact hb.c x hx
    ·rw [List.mem_singleton.1 hx]; exact hc
   ·simp only [List.length_append, List.length_cons, List.length_nil];omega
   ·rcases List.mem_append.1 hx with hx | hx
    ·exact hb.f x hx
    ·rw [List.mem_singleton.1 hx]; exact hf
def readB (s : List UInt8) : R BkT := match cutP s with
 | .error (e, a) => .bad e (a : Int)
 | .ok ws => pBook cardWt ws.length (ws.length + 1) [] [] ws
theorem Yy {s : List UInt8} : ∀ (d p : Nat) (acc : List Wrd) (e : Int) (a : Nat), s.length - p = d → p ≤ s.length → goR s p acc = .error (e, a) → a ≤ s.length := by
 intro d
 induction d using Nat.strongRecOn with
 | _ d ih =>
 intro p acc e a hd hp h;rw [goR] at h
 split at h
 ·rename_i hlt
  cases hs : stepR s p with
  | err e' a' =>
    rw [hs] at h;cases h;unfold stepR at hs;cases hx : rn s p with
    | none => rw [hx] at hs; cases hs; exact hp
    | some c =>
      obtain ⟨x, k⟩ := c;rw [hx] at hs;dsimp only at hs
      split at hs
      ·cases hs
      split at hs
      ·split at hs
       ·rename_i a2 hrem
        cases hs
        have : ∀ (d p a : Nat), s.length - p = d → remGo s p = .inl a → a ≤ s.length := by
         intro d
         induction d using Nat.strongRecOn with
         | _ d ih =>
         intro p a hd h;rw [remGo] at h
         split at h
         ·rename_i hpl
          split at h
          ·cases h; omega
          ·rename_i x k hk
           have := yf hk;exact ih (s.length - (p + k)) (by omega) (p + k) a rfl h
         ·cases h
        exact this _ p _ rfl hrem
       ·cases hs
      split at hs
      ·unfold stepN at hs
       split at hs
       ·cases hs; exact hp
       ·cases hs
      split at hs
      ·unfold stepD at hs
       split at hs
       ·cases hs; exact hp
       split at hs
       ·cases hs; exact hp
       ·cases hs
      ·unfold stepM at hs
       split at hs
       ·cases hs; exact hp
       ·cases hs
  | next q us =>
    rw [hs] at h;dsimp only at h
    split at h
    ·rename_i hpq
     have hq := (y3 hlt hs).2.len hp;exact ih (s.length - q) (by omega) q _ e a rfl hq h
    ·cases h
 ·cases h
theorem stepR_e {s : List UInt8} {p a : Nat} {e : Int} (h : stepR s p = .err e a) : e ≠ 0 := by
 unfold stepR at h
 split at h
 ·cases h; decide
 ·split at h
  ·cases h
  ·split at h
   ·split at h
    ·cases h; decide
    ·cases h
   ·split at h
    ·unfold stepN at h
     split at h
     ·cases h; decide
     ·cases h
    ·split at h
     ·unfold stepD at h
      split at h
      ·cases h; decide
      ·split at h
       ·cases h; decide
       ·cases h
     ·unfold stepM at h
      split at h
      ·cases h; decide
      ·cases h
theorem goR_e {s : List UInt8} {a : Nat} {e : Int} : ∀ {p : Nat} {acc : List Wrd}, goR s p acc = .error (e, a) → e ≠ 0 := by
 intro p acc
 fun_induction goR s p acc with
 | case1 p acc hp e' a' h => intro hw; cases hw; exact stepR_e h
 | case2 p acc hp q us h hq ih => exact ih
 | case3 p acc hp q us h hq => exact absurd (y3 hp h).1 hq
 | case4 => intro h; cases h
theorem cutP_e {s : List UInt8} {a : Nat} {e : Int} (h : cutP s = .error (e, a)) : e ≠ 0 := by
 unfold cutP at h
 split at h
 ·cases h; decide
 ·exact goR_e h
theorem jj (s : List UInt8) : Fits s.length (readB s) BI := by
 unfold readB;cases hc : cutP s with
 | error r =>
   obtain ⟨e, a⟩ := r;refine ⟨fun x ts h => (by cases h), fun e' a' h => ?_⟩;cases h;refine ⟨cutP_e hc, Int.natCast_nonneg _, ?_⟩;unfold cutP at hc
   split at hc
   ·cases hc; exact Int.natCast_nonneg _
   ·have := Yy _ 0 [] e a rfl (Nat.zero_le _) hc;omega
 | ok ws => exact qF (Int.natCast_nonneg _) _ _ [] [] ws ⟨Nat.zero_le _, Nat.zero_le _, fun c h => (by cases h), fun f h => (by cases h)⟩ (Zc hc)
end Tp
namespace Tp
open Go Go.Eng Wd Kd
theorem Zj {L : Int} (hL : 0 ≤ L) {a : Int} (n : Nat) (s : List UInt8) (c : CardT) (ts : List Wrd) (h : c.at_ = a) (hg : GW L ts) : Fits L (cardRead n s c ts) fun c => c.at_ = a := by
 unfold cardRead
 exact .ite (fun _ => (xM hL n 0 ts hg).bind fun l ts hl hg => .ret h hg) fun _ => .ite (fun _ => (xM hL n 0 ts hg).bind fun l ts hl hg => .ret h hg) fun _ => .ite (fun _ => (xM hL n 0 ts hg).bind fun l ts hl hg => .ret h hg) fun _ =>
  .ite (fun _ => (zu hL hg).bind fun a ts ha hg => (zj hL hg _).bind fun _ ts _ hg => (zu hL hg).bind fun b ts hb hg => (zj hL hg _).bind fun _ ts _ hg => .ret h hg) fun _ => (zu hL hg).bind fun a ts ha hg => (zj hL hg _).bind fun _ ts _ hg => .ret h hg
theorem card_at {L : Int} (hL : 0 ≤ L) (n : Nat) (a : Int) {ts : List Wrd} (hg : GW L ts) : Fits L (pCard cardWt n a ts) fun c => c.at_ = a := by
 unfold pCard
 exact (wA hL hg).bind fun s ts hs hg => (Fits.bind (Q := fun c => c.at_ = a) (.ite (fun _ => (zu hL hg.tail).bind fun c ts hc hg => (zu hL hg).bind fun p ts hp hg => (zj hL hg _).bind fun _ ts _ hg => (zu hL hg).bind fun e ts he hg => .ret rfl hg) fun _ => (zj hL hg _).bind fun _ ts _ hg => (zu hL hg).bind fun c ts hc hg => .ret rfl hg)
  fun c ts hc hg => (zj hL hg _).bind fun _ ts _ hg => (wt hL (Zj hL n) n [] c ts hc hg).mono fun c h => h.1)
theorem ka {L : Int} (hL : 0 ≤ L) (n0 : Nat) : ∀ (n : Nat) (cs : List CardT) (fs : List FmtT) (ts : List Wrd), (∀ c ∈ cs, 0 ≤ c.at_ ∧ c.at_ ≤ L) → GW L ts → Fits L (pBook cardWt n0 n cs fs ts) fun b => ∀ c ∈ b.cards, 0 ≤ c.at_ ∧ c.at_ ≤ L
 | 0, _, _, _, _, _ => .out
 | n + 1, cs, fs, ts, hb, hg => by
   unfold pBook
   refine .ite (fun _ => .ret hb hg) fun _ => .ite (fun _ => .ite (fun _ => .fail hL hg) fun h => (card_at hL n0 _ hg.tail).bind fun c ts hc hg2 => ka hL n0 n _ _ ts (fun x hx => ?_) hg2) fun _ =>
    .ite (fun _ => .ite (fun _ => .fail hL hg) fun h => (ZT hL n0 _ hg.tail).bind fun f ts hf hg => ka hL n0 n _ _ ts hb hg) fun _ => .fail hL hg
   rcases List.mem_append.1 hx with hx | hx
   ·exact hb x hx
   ·rw [List.mem_singleton.1 hx, hc];exact ⟨(hg.hd hL).lo, (hg.hd hL).hi⟩
theorem read_at (s : List UInt8) {b : BkT} {ts : List Wrd} (h : readB s = .ok b ts) : ∀ c ∈ b.cards, 0 ≤ c.at_ ∧ c.at_ ≤ s.length := by
 unfold readB at h;cases hc : cutP s with
 | error p =>
   obtain ⟨e, a⟩ := p;rw [hc] at h;cases h
 | ok ws =>
   rw [hc] at h;exact ((ka (Int.natCast_nonneg _) _ _ _ _ _ (fun c h => by cases h) (Zc hc)).ok b ts h).1
end Tp
section
open Wd Tp Kd La
variable {m : Mp}
theorem YP {n : Int} (h1 : -9223372036854775808 ≤ n) (h2 : n ≤ 9223372036854775807) : (Lit.int .i64 n).wf = true := by
 simp [Lit.wf, IntKind.min, IntKind.max, IntKind.signed, IntKind.bits]
 omega
theorem jh {n : Int} (h : smallB n = true) : 0 ≤ n ∧ n ≤ 999 := of_decide_eq_true h
theorem wU {n : Int} (h : smallB n = true) : (Lit.int .i64 n).wf = true := YP (by have := jh h; omega) (by have := jh h; omega)
theorem CardQ.r {vs : List Value} {c : CardT} (h : CardQ m vs c) (hn : numsB c = true) (ha : 0 ≤ c.at_ ∧ c.at_ ≤ 9223372036854775807) : CardR m vs c := by
 obtain ⟨q, rfl, h1, h2, h3, h4⟩ := h;unfold numsB at hn;simp only [Bool.and_eq_true] at hn;exact ⟨q.A, _, q.ca, q.B, _, q.cb, q.D, _, q.cd, rfl, by unfold maxLen; omega, h2, h3, h4, wU hn.1.1.1.1.1, wU hn.1.1.1.1.2, wU hn.1.1.1.2, wU hn.1.1.2, wU hn.1.2, wU hn.2, YP (by omega) ha.2⟩
structure CardsN (l : List CardT) : Prop where
 n : l.length ≤ 240
 c : ∀ c ∈ l, numsB c = true ∧ (0 ≤ c.at_ ∧ c.at_ ≤ 9223372036854775807) ∧ cardWt c ≤ 200
theorem CardsQ.r {A : Option Addr} {l : List CardT} (h : CardsQ m A l) (hn : CardsN l) : CardsR m A l.length l := by
 obtain ⟨vs, h1, h2, h3⟩ := h;exact ⟨rfl, by have := hn.n; unfold maxLen; omega, vs, h1, h2, fun i hi => CardQ.r (h3 i hi) (hn.c _ (List.getElem_mem hi)).1 (hn.c _ (List.getElem_mem hi)).2.1⟩
theorem CardsQ.name {A : Option Addr} {l : List CardT} (h : CardsQ m A l) (i : Nat) (hi : i < l.length) : l[i].name.length ≤ 65536 := by
 obtain ⟨vs, -, -, h3⟩ := h;obtain ⟨q, -, h, -⟩ := h3 i hi;exact h
theorem read_N {s : List UInt8} (hs : s.length ≤ 9223372036854775807) {b : BkT} {ts : List Wrd} (h : readP s = .ok b ts) : CardsN b.cards := by
 have h1 := ((jj s).ok b ts h).1;refine ⟨h1.lc, fun c hc => ?_⟩;obtain ⟨t, ht⟩ := h1.c c hc;obtain ⟨-, -, h2, h3, -⟩ := YC ht;have h4 := read_at s h c hc;exact ⟨h2, ⟨h4.1, by omega⟩, h3⟩
theorem Zv {F : Option Addr} {l : List FmtT} (h : FmtsQ m F l) : ∀ f ∈ l, FmtOk f := by
 obtain ⟨vs, -, -, h3⟩ := h;intro f hf;obtain ⟨i, hi, rfl⟩ := List.getElem_of_mem hf;obtain ⟨q, -, ho, -⟩ := h3 i hi;exact ho
theorem vq : ∀ l : List CardT, (lcheckP l = [0, 0] ∧ ∀ x ∈ l, rightC x = true) ∨ (∃ a, lcheckP l = [140, a]) ∧ ¬ ∀ x ∈ l, rightC x = true
 | [] => .inl ⟨rfl, fun x h => by cases h⟩
 | x :: r => by
   unfold lcheckP;by_cases hx : rightC x = true
   ·rw [if_pos hx];rcases vq r with ⟨h1, h2⟩ | ⟨h1, h2⟩
    ·refine .inl ⟨h1, fun y hy => ?_⟩;rcases List.mem_cons.1 hy with rfl | hy
     ·exact hx
     ·exact h2 y hy
    ·exact .inr ⟨h1, fun h => h2 fun y hy => h y (.tail _ hy)⟩
   ·rw [if_neg hx];exact .inr ⟨⟨_, rfl⟩, fun h => hx (h x (.head _))⟩
def LabPost (l : List CardT) (e a : Int) : Prop := (e = 0 ∧ a = 0 ∧ ∀ x ∈ l, rightC x = true) ∨ (e = 140 ∧ ¬ ∀ x ∈ l, rightC x = true)
theorem lcheck24 {A : Option Addr} {c : Nat} {l : List CardT} (hC : CardsR m A l.length l) : CS Tryz.prog 24 [.slice A l.length c] m [] (fun v L' => L' = [] ∧ ∃ e a, v = faultV e a ∧ LabPost l e a) := fun h hs => (XS hC h hs.base).mono fun v h' ⟨hv, hle⟩ => by
 rcases vq l with ⟨h1, h2⟩ | ⟨⟨a, h1⟩, h2⟩
 ·rw [h1] at hv;exact ⟨[], ⟨rfl, 0, 0, hv, .inl ⟨rfl, rfl, h2⟩⟩, hs.le hle⟩
 ·rw [h1] at hv;exact ⟨[], ⟨rfl, 140, a, hv, .inr ⟨rfl, h2⟩⟩, hs.le hle⟩
structure bookOk (b : BkT) : Prop where
 n : b.cards.length ≤ 240
 k : ∀ (i : Nat) (h : i < b.cards.length), okAt b.cards i h
 l : ∀ x ∈ b.cards, rightC x = true
 f : ∀ (i : Nat) (h : i < b.fmts.length), fmtOk b.cards i (seenF b.fmts i) b.fmts[i]
def BookPost (b : BkT) (e a : Int) : Prop := (e = 0 ∧ a = 0 ∧ bookOk b) ∨ (e ≠ 0 ∧ ¬ bookOk b ∧ (b.cards = [] → FmtsPost b e a))
theorem CheckPost.cases {l : List CardT} {e a : Int} (h : CheckPost l e a) : (e = 0 ∧ a = 0 ∧ l.length ≤ 240 ∧ ∀ (i : Nat) (h : i < l.length), okAt l i h) ∨ (e ≠ 0 ∧ l ≠ [] ∧ ¬ (l.length ≤ 240 ∧ ∀ (i : Nat) (h : i < l.length), okAt l i h)) := by
 rcases h with ⟨h1, rfl, rfl⟩ | ⟨h1, ⟨rfl, rfl, h2⟩ | ⟨i, hi, -, -, h2⟩⟩
 ·exact .inr ⟨by decide, fun h => by rw [h] at h1; exact absurd h1 (by decide), fun h => by omega⟩
 ·exact .inl ⟨rfl, rfl, h1, h2⟩
 ·have hl : l ≠ [] := fun h => by subst h; exact absurd hi (Nat.not_lt_zero _)
  rcases h2 with ⟨rfl, h3⟩ | ⟨rfl, -, h3⟩
  ·exact .inr ⟨by decide, hl, fun h => (h.2 i hi).1 h3⟩
  ·exact .inr ⟨by decide, hl, fun h => h3 (h.2 i hi).2⟩
theorem FmtsPost.cases {b : BkT} {e a : Int} (h : FmtsPost b e a) : (e = 0 ∧ a = 0 ∧ ∀ (i : Nat) (h : i < b.fmts.length), fmtOk b.cards i (seenF b.fmts i) b.fmts[i]) ∨ (e ≠ 0 ∧ ¬ ∀ (i : Nat) (h : i < b.fmts.length), fmtOk b.cards i (seenF b.fmts i) b.fmts[i]) := by
 rcases h with h | ⟨i, hi, -, h2, rfl, -⟩
 ·exact .inl h
 ·exact .inr ⟨by decide, fun h => h2 (h i hi)⟩
structure ChkSz (b : BkT) : Prop where
 c : b.cards.length ≤ 240 → ∀ (i : Nat) (h : i < b.cards.length), b.cards[i].name.length ≤ 140737488355328 ∧ cardW b.cards[i] ≤ 3999
 f : FmL b
 n : ∀ f ∈ b.fmts, f.name.length ≤ 140737488355328
section
variable {K F : Option Addr} {kc fc : Nat} {b : BkT}
theorem chk21 {b0 : Nat} (hT : Tabs m) (hB : At m ⟨b0, 0, none⟩ (bk2 K b.cards.length kc F b.fmts.length fc)) (hR : CardsR m K b.cards.length b.cards) (hz : ChkSz b) : CS Tryz.prog 21 [ptr b0] m [] (fun v L' => L' = [] ∧ ∃ e a, v = faultV e a ∧ CheckPost b.cards e a) := by
 have h0 : mc m ⟨b0, 0, none⟩ = some (.slice K b.cards.length kc) := hB.at_ (o := 0) rfl;refine zl [.cell 1 31] Tryz.func21 rfl rfl rfl ?_;refine tr 2 ?_;refine Al 5 zl31 fun b1 => ?_;refine Lo 0 sg22 rfl h0 ?_;refine zE ((zW cl22 rfl (fun m' hm he => Check5 (hT.mono hm) (hR.mono hm) hz.c) rfl ?_)) rfl;rintro _ _ ⟨rfl, e, a, rfl, hp⟩;unfold faultV;refine Sg 3 ag31 .here ?_
 exact zb [_] ⟨⟨b1, _, _, _, rfl, .here, .inr ⟨rfl, rfl⟩⟩, trivial⟩ [] (Pick.nil _) ⟨rfl, e, a, rfl, hp⟩
theorem chk23 {b0 : Nat} (hB : At m ⟨b0, 0, none⟩ (bk2 K b.cards.length kc F b.fmts.length fc)) (hR : CardsR m K b.cards.length b.cards) : CS Tryz.prog 23 [ptr b0] m [] (fun v L' => L' = [] ∧ ∃ e a, v = faultV e a ∧ LabPost b.cards e a) := by
 have h0 : mc m ⟨b0, 0, none⟩ = some (.slice K b.cards.length kc) := hB.at_ (o := 0) rfl;refine zl [.cell 1 31] Tryz.func23 rfl rfl rfl ?_;refine tr 2 ?_;refine Al 5 zl31 fun b1 => ?_;refine Lo 0 sg22 rfl h0 ?_;refine zE ((zW cl24 rfl (fun m' hm he => lcheck24 (hR.mono hm)) rfl ?_)) rfl;rintro _ _ ⟨rfl, e, a, rfl, hp⟩;unfold faultV;refine Sg 3 ag31 .here ?_
 exact zb [_] ⟨⟨b1, _, _, _, rfl, .here, .inr ⟨rfl, rfl⟩⟩, trivial⟩ [] (Pick.nil _) ⟨rfl, e, a, rfl, hp⟩
theorem chk25 {b0 : Nat} (hT : Tabs m) (hB : At m ⟨b0, 0, none⟩ (bk2 K b.cards.length kc F b.fmts.length fc)) (hC : CardsX m K b.cards) (hF : FmtsX m F b.fmts) (hz : ChkSz b) : CS Tryz.prog 25 [ptr b0] m [] (fun v L' => L' = [] ∧ ∃ e a, v = faultV e a ∧ FmtsPost b e a) := by
 refine zl [.cell 1 31] Tryz.func25 rfl rfl rfl ?_;refine tr 2 ?_;refine Al 4 zl31 fun b1 => ?_;refine La 0 ag25 hB ?_;refine zE ((zW cl26 rfl (fun m' hm he => formats26 (hT.mono hm) (hC.mono hm) (hF.mono hm) hz.f hz.n) rfl ?_)) rfl;rintro _ _ ⟨rfl, e, a, rfl, hp⟩;unfold faultV;refine Sg 3 ag31 .here ?_
 exact zb [_] ⟨⟨b1, _, _, _, rfl, .here, .inr ⟨rfl, rfl⟩⟩, trivial⟩ [] (Pick.nil _) ⟨rfl, e, a, rfl, hp⟩
abbrev chkF (f : FuncId) (b0 : Nat) : Value := .func (.func f) [].toArray [ptr b0].toArray
theorem Check10 (hT : Tabs m) (hR : CardsR m K b.cards.length b.cards) (hC : CardsX m K b.cards) (hF : FmtsX m F b.fmts) (hz : ChkSz b) : CS Tryz.prog 10 [.agg (bk2 K b.cards.length kc F b.fmts.length fc).toArray] m [] (fun v L' => L' = [] ∧ ∃ e a, v = faultV e a ∧ BookPost b e a) := by
 refine zl [.cell 2 31] Tryz.func10 rfl rfl rfl ?_;refine tr 2 ?_;refine Bx 0 rfl fun b1 => ?_;refine Al 8 zl31 fun b2 => ?_;refine pe 4 (yr ar57 zl57 rfl rfl) ?_
 refine zZ (α := Nat) (fun i => [(2, ptr b2), (9, .agg [chkF 21 b1, chkF 23 b1, chkF 25 b1].toArray), (10, .int .i64 (i : Nat))]) (fun _ => [cel b2 [.int .i64 0, .int .i64 0] 31, cel b1 (bk2 K b.cards.length kc F b.fmts.length fc) 25]) (fun i => i ≤ 3 ∧ (0 < i → b.cards.length ≤ 240 ∧ ∀ (i : Nat) (h : i < b.cards.length), okAt b.cards i h) ∧ (1 < i → ∀ x ∈ b.cards, rightC x = true) ∧ (2 < i → ∀ (i : Nat) (h : i < b.fmts.length), fmtOk b.cards i (seenF b.fmts i) b.fmts[i])) (fun i => 3 - i) 0 ⟨rfl, rfl, rfl, trivial⟩ (Pick.refl _) ⟨Nat.zero_le _, fun h => absurd h (by decide), fun h => absurd h (by decide), fun h => absurd h (by decide)⟩ ?_
 rintro i ⟨hi, hk, hlb, hfm⟩;have hc4 : i = 0 ∨ i = 1 ∨ i = 2 ∨ i = 3 := by omega
 rcases hc4 with rfl | rfl | rfl | rfl
 ·refine tr 2 ?_;refine cto 10 ?_;refine pe 6 ((ya ar57 ars57 rfl rfl (by omega) (by omega) rfl)) ?_;refine zE ((yp (p := []) (q := [ptr b1]) cl21 rfl rfl (fun m' hm he => chk21 (hT.mono hm) (At.blk (he _ (.tail _ (.head _)))) (hR.mono hm) hz) rfl ?_)) rfl;rintro _ _ ⟨rfl, e, a, rfl, hp⟩;unfold faultV;rcases hp.cases with ⟨rfl, rfl, h1⟩ | ⟨hne, hcl, hno⟩
  ·refine Al 0 zl31 fun b3 => ?_;refine Sg 5 ag31 .here ?_;refine Lb 0 sg29 .here ?_;refine cfo 7 ?_;refine Pa 2 ?_;exact QR (1 : Nat) (.cons .h1 .p1) ⟨by omega, fun _ => h1, fun h => absurd h (by decide), fun h => absurd h (by decide)⟩ (by decide)
  ·refine Al 0 zl31 fun b3 => ?_;refine Sg 5 ag31 .here ?_;refine Lb 0 sg29 .here ?_;refine cta 5 ?_;refine Lc 0 ag31 .here ?_;refine Sg 5 ag31 .h1 ?_;refine zI ?_;refine zH ?_;refine zL ?_;exact zb [_] ⟨⟨b2, _, _, _, rfl, .h1, .inr ⟨rfl, rfl⟩⟩, trivial⟩ [] (Pick.nil _) ⟨rfl, e, a, rfl, .inr ⟨hne, fun h => hno ⟨h.n, h.k⟩, fun h => absurd h hcl⟩⟩
 ·refine tr 2 ?_;refine cto 10 ?_;refine pe 6 ((ya ar57 ars57 rfl rfl (by omega) (by omega) rfl)) ?_;refine zE ((yp (p := []) (q := [ptr b1]) cl23 rfl rfl (fun m' hm he => chk23 (At.blk (he _ (.tail _ (.head _)))) (hR.mono hm)) rfl ?_)) rfl;rintro _ _ ⟨rfl, e, a, rfl, hp⟩;unfold faultV;rcases hp with ⟨rfl, rfl, h1⟩ | ⟨rfl, hno⟩
  ·refine Al 0 zl31 fun b3 => ?_;refine Sg 5 ag31 .here ?_;refine Lb 0 sg29 .here ?_;refine cfo 7 ?_;refine Pa 2 ?_;exact QR (2 : Nat) (.cons .h1 .p1) ⟨by omega, fun _ => hk (by decide), fun _ => h1, fun h => absurd h (by decide)⟩ (by decide)
  ·refine Al 0 zl31 fun b3 => ?_;refine Sg 5 ag31 .here ?_;refine Lb 0 sg29 .here ?_;refine cto 5 ?_;refine Lc 0 ag31 .here ?_;refine Sg 5 ag31 .h1 ?_;refine zI ?_;refine zH ?_;refine zL ?_
   exact zb [_] ⟨⟨b2, _, _, _, rfl, .h1, .inr ⟨rfl, rfl⟩⟩, trivial⟩ [] (Pick.nil _) ⟨rfl, 140, a, rfl, .inr ⟨by decide, fun h => hno h.l, fun h => absurd (by rw [h]; exact fun x h => by cases h) hno⟩⟩
 ·refine tr 2 ?_;refine cto 10 ?_;refine pe 6 ((ya ar57 ars57 rfl rfl (by omega) (by omega) rfl)) ?_;refine zE ((yp (p := []) (q := [ptr b1]) cl25 rfl rfl (fun m' hm he => chk25 (hT.mono hm) (At.blk (he _ (.tail _ (.head _)))) (hC.mono hm) (hF.mono hm) hz) rfl ?_)) rfl;rintro _ _ ⟨rfl, e, a, rfl, hp⟩;unfold faultV;have hp0 := hp;rcases hp.cases with ⟨rfl, rfl, h1⟩ | ⟨hne, hno⟩
  ·refine Al 0 zl31 fun b3 => ?_;refine Sg 5 ag31 .here ?_;refine Lb 0 sg29 .here ?_;refine cfo 7 ?_;refine Pa 2 ?_;exact QR (3 : Nat) (.cons .h1 .p1) ⟨by omega, fun _ => hk (by decide), fun _ => hlb (by decide), fun _ => h1⟩ (by decide)
  ·refine Al 0 zl31 fun b3 => ?_;refine Sg 5 ag31 .here ?_;refine Lb 0 sg29 .here ?_;refine cta 5 ?_;refine Lc 0 ag31 .here ?_;refine Sg 5 ag31 .h1 ?_;refine zI ?_;refine zH ?_;refine zL ?_;exact zb [_] ⟨⟨b2, _, _, _, rfl, .h1, .inr ⟨rfl, rfl⟩⟩, trivial⟩ [] (Pick.nil _) ⟨rfl, e, a, rfl, .inr ⟨hne, fun h => hno h.f, fun _ => hp0⟩⟩
 ·refine tr 2 ?_;refine cfo 6 ?_;refine zG ?_;refine zF ?_;refine qt 3 ?_;refine pe 0 (zT zl31 pl31 rfl rfl) ?_;refine Sg 3 ag31 .here ?_;exact zb [_] ⟨⟨b2, _, _, _, rfl, .here, .inr ⟨rfl, rfl⟩⟩, trivial⟩ [] (Pick.nil _) ⟨rfl, 0, 0, rfl, .inl ⟨rfl, rfl, ⟨(hk (by decide)).1, (hk (by decide)).2, hlb (by decide), hfm (by decide)⟩⟩⟩
end
def BkPost (s : List UInt8) (v : Value) (L' : List Ent) : Prop :=
 (∃ bk ts K kc F fc e, readP s = .ok bk ts ∧ bookOk bk ∧ v = .tuple [bkV K bk.cards.length kc F bk.fmts.length fc, faultV 0 0].toArray ∧ L' = [e] ∧ bk.cards.length ≤ 240 ∧ bk.fmts.length ≤ 240 ∧ ∀ ns, e.inv ns → CardsQ ns K bk.cards ∧ FmtsQ ns F bk.fmts) ∨
 (∃ e a, v = .tuple [bkV none 0 0 none 0 0, faultV e a].toArray ∧ L' = [] ∧ e ≠ 0 ∧ (readP s = .bad e a ∨ ∃ bk ts, readP s = .ok bk ts ∧ ¬ bookOk bk ∧ (bk.cards = [] → FmtsPost bk e a)))
theorem WK {b : BkT} {K F : Option Addr} (hN : CardsN b.cards) (hf : b.fmts.length ≤ 240) (hC : CardsQ m K b.cards) (hF : FmtsQ m F b.fmts) : ChkSz b :=
 ⟨fun _ i hi => ⟨by have := hC.name i hi; omega, by have := (hN.c _ (List.getElem_mem hi)).2.2; exact Nat.le_trans this (by decide)⟩, ⟨by have := hN.n; omega, by omega, fun f h => by have := Zv hF f h; exact ⟨Nat.le_trans this.ban (by decide), Nat.le_trans this.sin (by decide)⟩⟩, fun f h => Nat.le_trans (Zv hF f h).name (by decide)⟩
theorem CardR.xx {vs : List Value} {c : CardT} (h : CardR m vs c) : CardX m vs c := by
 obtain ⟨A, la, ca, B, lb, cb, D, ld, cd, rfl, -, h1, h2, h3, -⟩ := h;obtain rfl := h1.1;obtain rfl := h2.1;obtain rfl := h3.1;exact ⟨⟨A, ca, B, cb, D, cd⟩, rfl, h1, h2, h3⟩
theorem Read9 (hT : Tabs m) {s : List UInt8} (hs : s.length ≤ 9223372036854775807) : CS Tryz.prog 9 [.string (bs s)] m [] (BkPost s) := by
 skip;refine zl [.cell 2 25, .cell 3 31] Tryz.func9 rfl rfl rfl ?_;refine tr 2 ?_;refine Al 0 zl25 fun b1 => ?_;refine Al 5 zl31 fun b2 => ?_;refine zE ((zW cl20 rfl (fun m' hm he => Read_ok (hT.mono hm) hs) rfl ?_)) rfl;rintro _ _ hq;rcases hq with ⟨bk, ts, K, kc, F, fc, en, h1, rfl, rfl, h2, h3, h4⟩ | ⟨e, a, h1, rfl, rfl⟩
 ·have hN := read_N hs h1;unfold faultV;refine vr 3 ?_;refine Al 0 zl25 fun b3 => ?_;refine Al 0 zl31 fun b4 => ?_;refine Sg 0 ag25 .h1 ?_;refine Sg 6 ag31 .here ?_;refine Lb 0 sg29 .here ?_;refine ctr 4 ?_;refine Lc 0 ag25 .h1 ?_
  refine zE ((zW cl10 rfl (fun m' hm he => Check10 (hT.mono hm) ((h4 m' (he _ (.tail _ (.tail _ (.head _))))).1.r hN) (h4 m' (he _ (.tail _ (.tail _ (.head _))))).1.x (h4 m' (he _ (.tail _ (.tail _ (.head _))))).2.x (WK hN h3 (h4 m' (he _ (.tail _ (.tail _ (.head _))))).1 (h4 m' (he _ (.tail _ (.tail _ (.head _))))).2)) rfl ?_)) rfl;rintro _ _ ⟨rfl, e, a, rfl, hp⟩;unfold faultV
  rcases hp with ⟨rfl, rfl, hok⟩ | ⟨hne, hno, hfm⟩
  ·refine Sg 6 ag31 .here ?_;refine Lb 0 sg29 .here ?_;refine cfo 7 ?_;refine Lc 0 ag25 .h1 ?_;refine pe 0 (zT zl31 pl31 rfl rfl) ?_;refine Sg 0 ag25 .h4 ?_;refine Sg 3 ag31 .h3 ?_;exact zb [_, _] ⟨⟨b1, _, _, _, rfl, .h4, .inr ⟨rfl, rfl⟩⟩, ⟨b2, _, _, _, rfl, .h3, .inr ⟨rfl, rfl⟩⟩, trivial⟩ [en] .p2 (.inl ⟨bk, ts, K, kc, F, fc, en, h1, hok, rfl, rfl, h2, h3, h4⟩)
  ·refine Sg 6 ag31 .here ?_;refine Lb 0 sg29 .here ?_;refine cta 4 ?_;refine zc (sT [0] (.fork (sT [201, 302, 303] .done) (sT [302, 101, 303] .done))) mixed (by kernel_rfl) (fun _ _ _ _ hq => hq) ?_;refine Vt 0 rfl (zT zl25 pl25 rfl rfl) ?_;refine xY ?_ ?_;refine xA rfl (yI ag31 rfl .here rfl) rfl rfl rfl ?_
   refine zS rfl rfl (zQ ag25 rfl rfl rfl .h4 rfl rfl ?_) rfl;refine zS rfl rfl (zQ ag31 rfl rfl rfl .h3 rfl rfl ?_) rfl;refine Vm 3 ?_
   ·exact zb [_, _] ⟨⟨b1, _, _, _, rfl, .h4, .inr ⟨rfl, rfl⟩⟩, ⟨b2, _, _, _, rfl, .h3, .inr ⟨rfl, rfl⟩⟩, trivial⟩ [] (Pick.nil _) (.inr ⟨e, a, rfl, rfl, hne, .inr ⟨bk, ts, h1, hno, hfm⟩⟩)
   ·refine zS rfl rfl (zQ ag25 rfl rfl rfl .h4 rfl rfl ?_) rfl;refine Vu 0 rfl (yI ag31 rfl .here rfl) ?_;refine zS rfl rfl (zQ ag31 rfl rfl rfl .h3 rfl rfl ?_) rfl;refine Vm 3 ?_;exact zb [_, _] ⟨⟨b1, _, _, _, rfl, .h4, .inr ⟨rfl, rfl⟩⟩, ⟨b2, _, _, _, rfl, .h3, .inr ⟨rfl, rfl⟩⟩, trivial⟩ [] (Pick.nil _) (.inr ⟨e, a, rfl, rfl, hne, .inr ⟨bk, ts, h1, hno, hfm⟩⟩)
 ·have hne := ((jj s).bad e a h1).1;unfold faultV;refine vr 3 ?_;refine Al 0 zl25 fun b3 => ?_;refine Al 0 zl31 fun b4 => ?_;refine Sg 0 ag25 .h1 ?_;refine Sg 6 ag31 .here ?_;refine Lb 0 sg29 .here ?_;refine cfa 9 ?_;refine Lb 0 sg29 .here ?_;refine cta 4 ?_;refine zc (sT [0] (.fork (sT [201, 302, 303] .done) (sT [302, 101, 303] .done))) mixed (by kernel_rfl) (fun _ _ _ _ hq => hq) ?_
  refine Vt 0 rfl (zT zl25 pl25 rfl rfl) ?_;refine xY ?_ ?_;refine xA rfl (yI ag31 rfl .here rfl) rfl rfl rfl ?_;refine zS rfl rfl (zQ ag25 rfl rfl rfl .h3 rfl rfl ?_) rfl;refine zS rfl rfl (zQ ag31 rfl rfl rfl .h2 rfl rfl ?_) rfl;refine Vm 3 ?_
  ·exact zb [_, _] ⟨⟨b1, _, _, _, rfl, .h3, .inr ⟨rfl, rfl⟩⟩, ⟨b2, _, _, _, rfl, .h2, .inr ⟨rfl, rfl⟩⟩, trivial⟩ [] (Pick.nil _) (.inr ⟨e, a, rfl, rfl, hne, .inl h1⟩)
  ·refine zS rfl rfl (zQ ag25 rfl rfl rfl .h3 rfl rfl ?_) rfl;refine Vu 0 rfl (yI ag31 rfl .here rfl) ?_;refine zS rfl rfl (zQ ag31 rfl rfl rfl .h2 rfl rfl ?_) rfl;refine Vm 3 ?_;exact zb [_, _] ⟨⟨b1, _, _, _, rfl, .h3, .inr ⟨rfl, rfl⟩⟩, ⟨b2, _, _, _, rfl, .h2, .inr ⟨rfl, rfl⟩⟩, trivial⟩ [] (Pick.nil _) (.inr ⟨e, a, rfl, rfl, hne, .inl h1⟩)
end
section
open Wd Tp Kd La
def wk1 : List UInt8 := [99, 97, 114, 100, 32, 73, 109, 112, 32, 117, 110, 105, 116, 32, 49, 32, 50, 47, 49, 32, 123, 32, 125, 32, 102, 111, 114, 109, 97, 116, 32, 115, 116, 100, 32, 123, 32, 108, 101, 97, 115, 116, 32, 49, 59, 32, 109, 111, 115, 116, 32, 57, 59, 32, 99, 111, 112, 105, 101, 115, 32, 51, 59, 32, 98, 97, 110, 110, 101, 100, 32, 73, 109, 112, 59, 32, 125]
def wk2 : List UInt8 := [102, 111, 114, 109, 97, 116, 32, 115, 116, 100, 32, 123, 32, 108, 101, 97, 115, 116, 32, 57, 59, 32, 109, 111, 115, 116, 32, 49, 59, 32, 99, 111, 112, 105, 101, 115, 32, 51, 59, 32, 125]
def wkC : CardT := ⟨[73, 109, 112], true, 1, 2, 1, 0, 0, 0, [], [], [], 0⟩
def wkF : FmtT := ⟨[115, 116, 100], 1, 9, 3, [[73, 109, 112]], [], 24⟩
def wkG : FmtT := ⟨[115, 116, 100], 9, 1, 3, [], [], 0⟩
def okB : R BkT → Option BkT
 | .ok b _ => some b
 | _ => none
theorem wake1 : okB (readP wk1) = some ⟨[wkC], [wkF]⟩ := by kernel_rfl
theorem wake2 : okB (readP wk2) = some ⟨[], [wkG]⟩ := by kernel_rfl
theorem wk_imp : nameP [73, 109, 112] = true := by kernel_rfl
theorem wk_std : nameP [115, 116, 100] = true := by kernel_rfl
theorem wk_may : mayP (uC [wkC]) wkC := by
 refine ⟨?_, wk_imp, by decide +kernel, by decide, by decide, ⟨by decide, by decide, fun i h => by cases h⟩, ⟨by decide, by decide, fun i h => by cases h⟩, by decide, by decide, fun i h => by cases h⟩;unfold cardQ wkC
 decide
theorem Xa : namesOk [wkC] [[73, 109, 112]] := by
 refine ⟨fun s hs => ?_, by decide⟩;rw [List.mem_singleton.1 hs];exact List.mem_singleton.2 rfl
theorem wk_nil : namesOk [wkC] [] := ⟨fun s hs => (by cases hs), by decide⟩
theorem wk_fmt : fmtOk [wkC] 0 [] wkF := ⟨⟨by decide, wk_std, by decide, by decide, by decide, by decide, by decide, by decide⟩, Xa, wk_nil⟩
theorem wk_ok : bookOk ⟨[wkC], [wkF]⟩ where
 n := by decide
 k := fun i h => by
  obtain rfl : i = 0 := Nat.lt_one_iff.1 h;exact ⟨(by decide : wkC.name ∉ ([] : List (List UInt8))), wk_may⟩
 l := fun x hx => by
  rw [List.mem_singleton.1 hx];exact (by kernel_rfl : rightC wkC = true)
 f := fun i h => by
  obtain rfl : i = 0 := Nat.lt_one_iff.1 h;exact wk_fmt
theorem wk_no : ¬ fmtOk [] 0 [] wkG := fun h => absurd h.1.2.2.2.2.1 (by decide)
theorem XZ : ¬ bookOk ⟨[], [wkG]⟩ := fun h => wk_no (h.f 0 (by decide))
theorem Xb {e a : Int} (h : FmtsPost ⟨[], [wkG]⟩ e a) : e = 151 ∧ a = 0 := by
 rcases h with ⟨-, -, h⟩ | ⟨i, hi, -, -, rfl, rfl⟩
 ·exact (wk_no (h 0 (by decide))).elim
 ·obtain rfl : i = 0 := Nat.lt_one_iff.1 hi;exact ⟨rfl, rfl⟩
end
section
open Wd Tp Kd La
variable {m : Mp}
theorem ok_of {r : R BkT} {b : BkT} (h : okB r = some b) : ∃ ts, r = .ok b ts := by
 cases r with
 | ok x ts => exact ⟨ts, by rw [Option.some.inj h]⟩
 | bad e a => cases h
 | out => cases h
theorem wakes6 (hT : Tabs m) : CS Tryz.prog 6 [] m [] (Gives (.bool true)) := by
 refine zl [.tmp 0] Tryz.func6 rfl rfl rfl ?_;obtain ⟨ts1, hw1⟩ := ok_of wake1;obtain ⟨ts2, hw2⟩ := ok_of wake2;refine tr 7 ?_;refine zE ((zW cl9 rfl (fun m' hm he => Read9 (s := wk1) (hT.mono hm) (by decide)) rfl ?_)) rfl;rintro _ _ hq;rcases hq with ⟨bk, ts, K, kc, F, fc, en, h1, hok, rfl, rfl, h2, h3, h4⟩ | ⟨e, a, rfl, rfl, hne, h1 | ⟨bk, ts, h1, hno, -⟩⟩
 rotate_left
 ·rw [hw1] at h1; cases h1
 ·rw [hw1] at h1; cases h1; exact (hno wk_ok).elim
 rw [hw1] at h1;cases h1;clear h2 h3 hok;unfold faultV;refine vr 3 ?_;refine Al 0 zl25 fun b1 => ?_;refine Al 0 zl31 fun b2 => ?_;refine Sg 0 ag25 .h1 ?_;refine Sg 3 ag31 .here ?_;refine zw .h2 (fun ns hi _ hd => ?_);obtain ⟨hCq, hFq⟩ := h4 ns hi;have hCq := hCq.mono (yU hd (m := m));have hFq := hFq.mono (yU hd (m := m));have hl2 : Le m (uni m ns) := yL _ _;clear hi hd h4
 generalize uni m ns = m9 at hCq hFq hl2;have hT := hT.mono hl2;refine tr 1 ?_;refine zE ((zW cl9 rfl (fun m' hm he => Read9 (s := wk2) (hT.mono hm) (by decide)) rfl ?_)) rfl;rintro _ _ hq;rcases hq with ⟨bk, ts, K2, kc2, F2, fc2, en2, h1, hok, rfl, rfl, -⟩ | ⟨e, a, rfl, rfl, hne, h1 | ⟨bk, ts, h1, hno, hf⟩⟩
 ·rw [hw2] at h1; cases h1; exact (XZ hok).elim
 ·rw [hw2] at h1; cases h1
 rw [hw2] at h1;cases h1;obtain ⟨rfl, rfl⟩ := Xb (hf rfl);clear hf hno hne;unfold faultV;refine vr 3 ?_;refine Al 0 zl25 fun b3 => ?_;refine Al 0 zl31 fun b4 => ?_;refine Sg 0 ag25 .h1 ?_;refine Sg 4 ag31 .here ?_;refine Lc 0 ag25 .h3 ?_;refine zE ((zW cl13 rfl (fun m' hm he => Find13 (b := ⟨[wkC], [wkF]⟩) (s := [73, 109, 112]) (hCq.mono hm).x (by decide)) rfl ?_)) rfl
 rintro _ _ ⟨⟨rfl, hno⟩ | ⟨ix, hix, rfl, -⟩, rfl⟩
 ·exact (hno 0 (by decide) rfl).elim
 obtain rfl : ix = 0 := Nat.lt_one_iff.1 hix;refine vr 9 ?_;refine Lc 0 ag25 .h3 ?_;refine zE ((zW cl14 rfl (fun m' hm he => Format14 (b := ⟨[wkC], [wkF]⟩) (s := [115, 116, 100]) (hFq.mono hm).x (by decide) (by decide)) rfl ?_)) rfl;rintro _ _ ⟨⟨cs, rfl, hno⟩ | ⟨f, q, n1, n2, hf, -, rfl⟩, rfl⟩
 ·exact (hno 0 (by decide) rfl).elim
 rw [List.mem_singleton.1 hf];clear hf;obtain ⟨vs, hrd, hvl, hel⟩ := hCq;obtain ⟨qc, hqv, -⟩ := hel 0 (by decide);have hat := hrd.elem (0 * 12) 12;rw [hqv] at hat;have hc3 : mc m9 (((sa K).add (0 * 12)).add 3) = some (.int .i64 2) := hat 3 _ rfl;have hX1 : K.isSome = true := hrd.isSome (by rw [hvl]; decide);refine vr 3 ?_;refine Al 0 zl40 fun b5 => ?_;refine Sg 6 ag40 .here ?_
 refine Lb 0 sg29 .h3 ?_;refine ctr 2 ?_;refine Lb 1 sg22 .h4 ?_;refine ctr 3 ?_;refine Lb 0 sg22 .h4 ?_;refine pe 1 (zC ez22 rfl rfl hX1 (by omega)) ?_;refine Lo 0 sg3 rfl hc3 ?_;refine ctr 3 ?_;refine ctr 9 ?_;refine Lb 0 sg3 .here ?_;refine ctr 2 ?_;refine Lc 0 ag31 .h1 ?_;refine pe 0 (zT zl31 pl31 rfl rfl) ?_
 refine pe 5 ((Zs [.i .i64 151, .i .i64 0] [.i .i64 151, .i .i64 0] fg31 rfl rfl rfl rfl)) ?_;exact rt2 hl2 ⟨rfl, trivial⟩ ⟨rfl, rfl⟩
end
section
open Wd Tp Kd La
variable {m : Mp}
theorem law3 (hT : Tabs m) {K F K' F' : Option Addr} {kc fc kc' fc' : Nat} {a b : BkT} (hC : CardsR m K a.cards.length a.cards) (hX : CardsX m K a.cards) (hF : FmtsX m F a.fmts) (hs : FmL a) (hC' : CardsR m K' b.cards.length b.cards) (hX' : CardsX m K' b.cards) (hF' : FmtsX m F' b.fmts) (hs' : FmL b) :
  CS Tryz.prog 3 [.agg (bk2 K a.cards.length kc F a.fmts.length fc).toArray, .agg (bk2 K' b.cards.length kc' F' b.fmts.length fc').toArray] m [] (Gives (.bool true)) := by
 skip;refine zl [.tmp 4] Tryz.func3 rfl rfl rfl ?_;refine tr 2 ?_;refine Bx 0 rfl fun b1 => ?_;refine Bx 5 rfl fun b2 => ?_;refine zw .here (fun ns hi _ hd1 => ?_);refine zw .here (fun ns2 hi2 _ hd2 => ?_);have hR2 : Rd (uni (uni m ns) ns2) (some ⟨b2, 0, none⟩) (bk2 K' b.cards.length kc' F' b.fmts.length fc') := ((Rd.blk hi).mono (yU hd1)).mono (yL _ _)
 have hR1 : Rd (uni (uni m ns) ns2) (some ⟨b1, 0, none⟩) (bk2 K a.cards.length kc F a.fmts.length fc) := (Rd.blk hi2).mono (yU hd2);have hl2 : Le m (uni (uni m ns) ns2) := (yL _ _).trans (yL _ _);clear hi hd1 hi2 hd2;generalize uni (uni m ns) ns2 = m9 at hR1 hR2 hl2;have ha : At m9 ⟨b1, 0, none⟩ (bk2 K a.cards.length kc F a.fmts.length fc) := fun i u hi => hR1.at_ hi
 have hb : At m9 ⟨b2, 0, none⟩ (bk2 K' b.cards.length kc' F' b.fmts.length fc') := fun i u hi => hR2.at_ hi;clear hR1 hR2;have hT := hT.mono hl2;have hC := hC.mono hl2;have hX := hX.mono hl2;have hF := hF.mono hl2;have hC' := hC'.mono hl2;have hX' := hX'.mono hl2;have hF' := hF'.mono hl2;refine tr 1 ?_;refine La 0 ag25 ha ?_
 refine zE ((zW cl5 rfl (fun m' hm he => Great5 (hC.mono hm) (hF.mono hm) hs) rfl ?_)) rfl;rintro _ _ ⟨rfl, r, rfl⟩;cases r with
 | true =>
   refine vr 9 ?_;refine Cr cl6 rfl (fun m' hm he => (wakes6 (hT.mono hm))) ?_;rintro _ rfl;refine vr 5 ?_;exact rt2 hl2 ⟨rfl, trivial⟩ ⟨rfl, rfl⟩
 | false =>
 refine vr 1 ?_;refine La 0 ag25 hb ?_;refine zE ((zW cl5 rfl (fun m' hm he => Great5 (hC'.mono hm) (hF'.mono hm) hs') rfl ?_)) rfl;rintro _ _ ⟨rfl, r, rfl⟩;cases r with
 | true =>
   refine vr 6 ?_;refine Cr cl6 rfl (fun m' hm he => (wakes6 (hT.mono hm))) ?_;rintro _ rfl;refine vr 5 ?_;exact rt2 hl2 ⟨rfl, trivial⟩ ⟨rfl, rfl⟩
 | false =>
 refine vr 7 ?_;refine Db (sq [0, 1, 3, 4, 102, 105, 6, 7, 8, 9, 110, 11, 12, 113, 14, 15] .done) ?_;refine Vr 0 rfl (zg ag25 rfl rfl ha) ?_;refine Vr 0 rfl (zg ag25 rfl rfl hb) ?_;refine Vr 0 rfl (zg ag25 rfl rfl ha) ?_;refine Vr 0 rfl (zg ag25 rfl rfl hb) ?_
 refine zk rfl ((zW cl7 rfl (fun m' hm he => Same7 (hX.mono hm) (hF.mono hm) (hX'.mono hm) (hF'.mono hm) hs hs') rfl ?_)) rfl;rintro _ _ ⟨⟨rfl, h1⟩ | ⟨rfl, h1⟩, rfl⟩
 ·skip;refine zk rfl ((zW cl8 rfl (fun m' hm he => Same8 (hX.mono hm) (hF.mono hm) (hX'.mono hm) (hF'.mono hm) hs hs') rfl ?_)) rfl;rintro _ _ ⟨⟨rfl, h2⟩ | ⟨rfl, h2⟩, rfl⟩
  rotate_left
  ·exact (h2 h1).elim
  refine Vb 1 rfl (yk bo4 rfl rfl) ?_;refine Vr 0 rfl (zg ag25 rfl rfl ha) ?_;refine Vr 0 rfl (zg ag25 rfl rfl ha) ?_;refine zk rfl ((zW cl7 rfl (fun m' hm he => Same7 (hX.mono hm) (hF.mono hm) (hX.mono hm) (hF.mono hm) hs hs) rfl ?_)) rfl;rintro _ _ ⟨⟨rfl, h3⟩ | ⟨rfl, h3⟩, rfl⟩
  rotate_left
  ·exact (h3 (sameB.rfl a)).elim
  refine vB 2 ?_;refine zk rfl (xv cl6 rfl (fun m' hm he => (wakes6 (hT.mono hm))) rfl ?_) rfl;rintro _ rfl;refine vB 2 ?_;refine Vn 2 ?_;exact rt2 hl2 ⟨rfl, trivial⟩ ⟨rfl, rfl⟩
 ·skip;refine zk rfl ((zW cl8 rfl (fun m' hm he => Same8 (hX.mono hm) (hF.mono hm) (hX'.mono hm) (hF'.mono hm) hs hs') rfl ?_)) rfl;rintro _ _ ⟨⟨rfl, h2⟩ | ⟨rfl, h2⟩, rfl⟩
  ·exact (h1 h2).elim
  refine Vb 1 rfl (yk bo4 rfl rfl) ?_;refine Vr 0 rfl (zg ag25 rfl rfl ha) ?_;refine Vr 0 rfl (zg ag25 rfl rfl ha) ?_;refine zk rfl ((zW cl7 rfl (fun m' hm he => Same7 (hX.mono hm) (hF.mono hm) (hX.mono hm) (hF.mono hm) hs hs) rfl ?_)) rfl;rintro _ _ ⟨⟨rfl, h3⟩ | ⟨rfl, h3⟩, rfl⟩
  rotate_left
  ·exact (h3 (sameB.rfl a)).elim
  refine vB 2 ?_;refine zk rfl (xv cl6 rfl (fun m' hm he => (wakes6 (hT.mono hm))) rfl ?_) rfl;rintro _ rfl;refine vB 2 ?_;refine Vn 2 ?_;exact rt2 hl2 ⟨rfl, trivial⟩ ⟨rfl, rfl⟩
end
section
open Wd Tp Kd La Go.WideShapes
def Yb : BTy := ⟨82, 3, 9, 85, 83, 88, 86, 90, 46⟩
def Yc : CTy := ⟨Yb, 4, 48, 22⟩
theorem Yc_ok : Yc.ok Tryz.prog = true := by kernel_rfl
theorem row_get {vs l : List Value} {o sz j : Nat} {u : Value} (h : (vs.drop o).take sz = l) (hu : l[j]? = some u) : vs[o + j]? = some u := by
 rw [← h, List.getElem?_take] at hu
 split at hu
 ·rw [List.getElem?_drop] at hu; exact hu
 ·cases hu
section
variable {H : Type} {enc : TypeId × Value → H} {w : World} {base : Nat} {spare : Nat → Bool} {held : Bool} {fuel : Nat} {cs : List Value} {x : DataW H × List MemPlace}
theorem qD {t e sz by_ : Nat} (ht : sliceT Tryz.prog t e = true) (hc : Tryz.prog.cellsOf e = sz) (hb : Tryz.prog.bytesOf e = by_) (h1 : 1 ≤ by_) (h : DataW.trod enc Tryz.prog w base spare held fuel t cs = some x) (hg : GoodR Tryz.prog w t x) :
  ∃ (A : Option Addr) (len cap : Nat) (vs : List Value) (n : Nat), cs = [.slice A len cap] ∧ Rd (mp w.heap) A vs ∧ vs.length = len * sz ∧ len ≤ cap ∧ len ≤ 140737488355328 ∧ n ≤ fuel ∧
   ∀ i, i < len → ∃ y, DataW.trod enc Tryz.prog w base spare held n e ((vs.drop (i * sz)).take sz) = some y ∧ GoodR Tryz.prog w e y := by
 obtain ⟨A, len, cap, vs, n, rfl, hA, hbl, hw, hl, hn, hel⟩ := XE ht hc hb h hg;obtain ⟨A', len', cap', vs', n', e', -, -, hcap, -⟩ := xn ht hc h
 simp at e'
 obtain ⟨rfl, rfl, rfl⟩ := e';refine ⟨A, len, cap, vs, n, rfl, fun i u hi => ⟨hA ?_, (hw i u hi).1⟩, hl, hcap, ?_, hn, hel⟩
 ·have h3 := (List.getElem?_eq_some_iff.1 hi).1;rw [hl] at h3;rcases Nat.eq_zero_or_pos len with h4 | h4
  ·rw [h4, Nat.zero_mul] at h3; omega
  ·exact h4
 ·unfold reachBytes at hbl;have h5 : len * 1 ≤ len * by_ := Nat.mul_le_mul_left len h1;omega
theorem ZA (h : DataW.trod enc Tryz.prog w base spare held fuel 38 cs = some x) (hg : GoodR Tryz.prog w 38 x) : ∃ (A : Option Addr) (c : Nat) (xs : List (List UInt8)), cs = [.slice A xs.length c] ∧ RdN (mp w.heap) A c xs ∧ xs.length ≤ 140737488355328 ∧ ∀ s ∈ xs, s.length ≤ 140737488355328 := by
 obtain ⟨A, len, cap, vs, n, rfl, hrd, hl, hcap, hlen, _, hel⟩ := qD (e := 9) (sz := 1) (by kernel_rfl) (by kernel_rfl) rfl (Nat.le_of_ble_eq_true (by kernel_rfl)) h hg
 obtain ⟨xs, hxl, hx⟩ := yP (n := len) (p := fun i (b : List UInt8) => vs[i]? = some (strV b) ∧ b.length ≤ 140737488355328) (fun i hi => by
  obtain ⟨y, hy, hgy⟩ := hel i hi;obtain ⟨n, e, hlen⟩ := YQ (by kernel_rfl) hy hgy;refine ⟨n, ?_, hlen⟩;have := row_get (j := 0) e rfl;rw [Nat.mul_one, Nat.add_zero] at this
  exact this)
 subst hxl;refine ⟨A, cap, xs, rfl, ⟨fun i u hi => ?_, hcap⟩, hlen, fun s hs => by obtain ⟨i, hi, rfl⟩ := List.getElem_of_mem hs; exact (hx i hi).2⟩;rw [List.getElem?_map] at hi;cases hq : xs[i]? with
 | none => rw [hq] at hi; cases hi
 | some q =>
   rw [hq] at hi;obtain ⟨hlt, rfl⟩ := List.getElem?_eq_some_iff.1 hq;cases hi;exact hrd i _ (hx i hlt).1
theorem fmt_inG (h : DataW.trod enc Tryz.prog w base spare held fuel 40 cs = some x) (hg : GoodR Tryz.prog w 40 x) : ∃ T : FmtT, FmtX (mp w.heap) cs T ∧ T.banned.length ≤ 140737488355328 ∧ T.single.length ≤ 140737488355328 := by
 obtain ⟨_, _, rfl, hl, r0, g0⟩ := xq (i := 0) (zd (ft := 9) (off := 0) (by kernel_rfl)) h hg;obtain ⟨_, _, _, _, r1, _⟩ := xq (i := 1) (zd (ft := 3) (off := 1) (by kernel_rfl)) h hg;obtain ⟨_, _, _, _, r2, _⟩ := xq (i := 2) (zd (ft := 3) (off := 2) (by kernel_rfl)) h hg
 obtain ⟨_, _, _, _, r3, _⟩ := xq (i := 3) (zd (ft := 3) (off := 3) (by kernel_rfl)) h hg;obtain ⟨_, _, _, _, r4, g4⟩ := xq (i := 4) (zd (ft := 38) (off := 4) (by kernel_rfl)) h hg;obtain ⟨_, _, _, _, r5, g5⟩ := xq (i := 5) (zd (ft := 38) (off := 5) (by kernel_rfl)) h hg
 obtain ⟨_, _, _, _, r6, _⟩ := xq (i := 6) (zd (ft := 3) (off := 6) (by kernel_rfl)) h hg;rw [show Tryz.prog.cellsOf 40 = 7 by kernel_rfl] at hl;rw [show Tryz.prog.cellsOf 9 = 1 by kernel_rfl] at r0;rw [show Tryz.prog.cellsOf 3 = 1 by kernel_rfl] at r1 r2 r3 r6;rw [show Tryz.prog.cellsOf 38 = 1 by kernel_rfl] at r4 r5
 match cs, hl with
 | [c0, c1, c2, c3, c4, c5, c6], _ =>
   obtain ⟨name, q0, w0⟩ := YQ (by kernel_rfl) r0 g0;obtain ⟨i1, q1, _⟩ := yy (k := .i64) (by kernel_rfl) r1;obtain ⟨i2, q2, _⟩ := yy (k := .i64) (by kernel_rfl) r2;obtain ⟨i3, q3, _⟩ := yy (k := .i64) (by kernel_rfl) r3;obtain ⟨A, ca, e4, q4, k4, n4, s4⟩ := ZA r4 g4;obtain ⟨B, cb, e5, q5, k5, n5, s5⟩ := ZA r5 g5
   obtain ⟨i6, q6, _⟩ := yy (k := .i64) (by kernel_rfl) r6
   simp at q0 q1 q2 q3 q4 q5 q6
   subst q0 q1 q2 q3 q4 q5 q6;exact ⟨⟨name, i1, i2, i3, e4, e5, i6⟩, ⟨⟨A, ca, B, cb⟩, rfl, k4, k5⟩, n4, n5⟩
theorem Zi {A : Option Addr} {l : List CardT} {m : Mp} (h : CardsR m A l.length l) : CardsX m A l := by
 obtain ⟨-, -, vs, h1, h2, h3⟩ := h;exact ⟨vs, h1, h2, fun i hi => CardR.xx (h3 i hi)⟩
theorem Zk (h : DataW.trod enc Tryz.prog w base spare held fuel 25 cs = some x) (hg : GoodR Tryz.prog w 25 x) : ∃ (b : BkT) (K : Option Addr) (kc : Nat) (F : Option Addr) (fc : Nat), cs = bk2 K b.cards.length kc F b.fmts.length fc ∧ CardsR (mp w.heap) K b.cards.length b.cards ∧ FmtsX (mp w.heap) F b.fmts ∧ FmL b := by
 obtain ⟨_, y0, rfl, hlen, r0, g0⟩ := xq (i := 0) (zd (ft := 22) (off := 0) (by kernel_rfl)) h hg;obtain ⟨_, y1, _, _, r1, g1⟩ := xq (i := 1) (zd (ft := 23) (off := 1) (by kernel_rfl)) h hg;rw [show Tryz.prog.cellsOf 25 = 2 by kernel_rfl] at hlen;rw [show Tryz.prog.cellsOf 22 = 1 by kernel_rfl] at r0;rw [show Tryz.prog.cellsOf 23 = 1 by kernel_rfl] at r1
 match cs, hlen with
 | [c0, c1], _ =>
   obtain ⟨K, la, kc, vs, m3, q0, ha1, ha2, ha3, ha4, ha5, ha6⟩ := qD (e := 48) (sz := 12) (by kernel_rfl) (by kernel_rfl) rfl (Nat.le_of_ble_eq_true (by kernel_rfl)) r0 g0;obtain ⟨F, lb, fc, us, m4, q1, hb1, hb2, hb3, hb4, hb5, hb6⟩ := qD (e := 40) (sz := 7) (by kernel_rfl) (by kernel_rfl) rfl (Nat.le_of_ble_eq_true (by kernel_rfl)) r1 g1
   simp at q0 q1
   subst q0 q1;obtain ⟨cl, hcl, -⟩ := WL (c := Yc) Yc_ok r0;have hll : cl.length = la := hcl.1;subst hll
   obtain ⟨fl, hfl, hf⟩ := yP (p := fun i (T : FmtT) => FmtX (mp w.heap) ((us.drop (i * 7)).take 7) T ∧ T.banned.length ≤ 140737488355328 ∧ T.single.length ≤ 140737488355328) (fun i hi => by
    obtain ⟨z, hz, hgz⟩ := hb6 i hi
    exact fmt_inG hz hgz)
   subst hfl;refine ⟨⟨cl, fl⟩, K, kc, F, fc, rfl, hcl, ⟨us, hb1, hb2, fun i hi => (hf i hi).1⟩, ⟨ha4, hb4, fun y hy => ?_⟩⟩;obtain ⟨i, hi, rfl⟩ := List.getElem_of_mem hy;exact (hf i hi).2
end
end
section
open Go.Lib Go.Shelf
theorem XI : (Rows.laid_unicode_utf8_acceptRanges : DataW Unit) = acceptData := by kernel_rfl
theorem WE : Rows.laid_unicode_utf8_first = firstData := by kernel_rfl
theorem Xh : (Rows.laid_strings_asciiSpace : DataW Unit) = tabData .u8 asciiSpaceTab := by kernel_rfl
theorem YI {P : Program} {W w : World} {n : String} {k : IntKind} {zs : List Int} (h : TabIs P W n k zs) (hl : Le (mp W.heap) (mp w.heap)) : TabIs P w n k zs := by
 unfold TabIs World.var? at *;cases hg : P.globalNamed n with
 | none => rw [hg] at h; cases h
 | some g =>
   rw [hg] at h;simp only [Option.bind_some] at h ⊢;cases ho : W.heap[g]? with
   | none => rw [ho] at h; cases h
   | some o => rw [ho] at h; rw [show w.heap[g]? = some o from hl g o ho]; exact h
theorem qE {W w : World} {a : Addr} {v : Value} (h : W.cell? a = some v) (hl : Le (mp W.heap) (mp w.heap)) : w.cell? a = some v := by
 unfold World.cell? at *;cases ho : W.heap[a.block]? with
 | none => simp [ho] at h
 | some o => rw [ho] at h; rw [show w.heap[a.block]? = some o from hl _ o ho]; exact h
theorem j8 {W : World} (h : laidMetH Tryz.prog Rows.bookSameRow.laid W) : Tabs (mp W.heap) := by
 rw [MakeChecks.laidMetH_plain _ _ _ (by kernel_rfl)] at h;have r1 := Lib.laidMet.reads h (.head _);have r3 := Lib.laidMet.reads h (.tail _ (.tail _ (.head _)));have r4 := Lib.laidMet.reads h (.tail _ (.tail _ (.tail _ (.head _))));rw [XI] at r1;rw [Xh] at r3;rw [WE] at r4
 have hu := utf8Tabs_of_readsT (P := Tryz.prog) (ρ := Tryz.lays197_ren) ⟨Tryz.lays197.t5, Tryz.lays197.t119, Tryz.lays197.t138, Tryz.lays197.t139⟩ ⟨by kernel_rfl, by kernel_rfl, by kernel_rfl, by kernel_rfl, by kernel_rfl, by kernel_rfl, by kernel_rfl⟩ r4 r1
 have hs : TabIs Tryz.prog W "strings.asciiSpace" .u8 asciiSpaceTab := by
  obtain ⟨g, t, cs, fuel, p, hg, ht, hv, hd⟩ := r3;obtain rfl := Option.some.inj ((show Tryz.prog.globalNamed "strings.asciiSpace" = some 2 by kernel_rfl).symm.trans hg);obtain rfl := Option.some.inj ((show (Tryz.prog.globals[2]?).map (·.type) = some 190 by kernel_rfl).symm.trans ht);unfold TabIs;rw [hv, ← cells_of_tab Tryz.underlying190 Tryz.underlying5 (by kernel_rfl) (by kernel_rfl) hd]
 exact fun w hl => ⟨YI hs hl, fun c hc => qE (hu.1 c hc) hl, fun i hi => ⟨qE (hu.2 i hi).1 hl, qE (hu.2 i hi).2 hl⟩⟩
open Go.WideShapes Wd Tp Kd
theorem qN {v : Value} {W : World} {t base : Nat} {fs : Array Field} (ht : Tryz.prog.underlying t = some (.struct fs)) (h : Value.okWide Tryz.prog W .any base t v) : ∃ cs : List Value, v = .agg cs.toArray := by
 obtain ⟨cs, rfl, _⟩ := okWide_struct ht h;exact ⟨cs.toList, by simp⟩
theorem Zl {H : Type} {enc : TypeId × Value → H} {base b0 fuel : Nat} {spare : Nat → Bool} {held : Bool} {base1 b1 fuel1 : Nat} {spare1 : Nat → Bool} {held1 : Bool} (W : World) (hT : Tabs (mp W.heap)) {x0 : DataW H × List MemPlace} (v0 : Value) (o0 : Value.okWide Tryz.prog W .any b0 25 v0) (k0 : DataW.trod enc Tryz.prog W base spare held fuel 25 v0.cells.toList = some x0) (g0 : GoodR Tryz.prog W 25 x0)
  {x1 : DataW H × List MemPlace} (v1 : Value) (o1 : Value.okWide Tryz.prog W .any b1 25 v1) (k1 : DataW.trod enc Tryz.prog W base1 spare1 held1 fuel1 25 v1.cells.toList = some x1) (g1 : GoodR Tryz.prog W 25 x1) :
  C Tryz.prog 3 #[v0, v1] W.heap fun v h' => v = .bool true ∧ Le (mp W.heap) (mp h') := by
 obtain ⟨cs, rfl⟩ := qN Tryz.underlying25 o0;obtain ⟨b, K, kc, F, fc, e, hC, hF, hs⟩ := Zk k0 g0;have e : cs = bk2 K b.cards.length kc F b.fmts.length fc := by simpa [Value.cells] using e
 subst e;obtain ⟨cs', rfl⟩ := qN Tryz.underlying25 o1;obtain ⟨b', K', kc', F', fc', e', hC', hF', hs'⟩ := Zk k1 g1;have e' : cs' = bk2 K' b'.cards.length kc' F' b'.fmts.length fc' := by simpa [Value.cells] using e'
 subst e';exact (CS.toLe (law3 hT hC (Zi hC) hF hs hC' (Zi hC') hF' hs')).mono fun _ _ ⟨⟨_, e, _⟩, hl⟩ => ⟨e, hl⟩
end
section
open Go.ChangeShapes Go.WideShapes Go.ChangeAt Go.RowKit
open Go.ChangeMaps (open_string shut_string)
theorem kb : ownKnob Tryz.prog.godebug = none := by kernel_rfl
theorem wi : laidOutB Tryz.prog = true := by kernel_rfl
theorem qa (os : Os) (started : os.Started) (H : Type) (enc : TypeId × Value → H) :
  ReturnsInHanded {} Tryz.checked os 3 .any (fun w args => (Rows.bookSameSpec.pre enc Tryz.prog Tryz.f3 [] false w args ∧ laidMetH Tryz.prog Rows.bookSameRow.laid w) ∧ sizedMet enc Tryz.prog Tryz.f3 (OpenSpec.ofChange Rows.bookSameSpec) false w args)
   (Rows.bookSameSpec.post enc Tryz.prog Tryz.f3 false true false false) := by
 refine returnsInHanded_of_change_and (C := Tryz.checked) (X := fun w _ => laidMetH Tryz.prog Rows.bookSameRow.laid w) (fun _ _ _ hh h => h.of_heap hh) kb started (by kernel_rfl) Tryz.func3
  (ChangeSpec.witness_shaped (enc := enc) (C := Tryz.checked) (os := os) (X := fun w _ => laidMetH Tryz.prog Rows.bookSameRow.laid w) false (World.laidAll Tryz.prog os Rows.bookSameRow.laid) #[.agg #[.slice none 0 0, .slice none 0 0], .agg #[.slice none 0 0, .slice none 0 0]] 8 (World.laidAll_os _ _ _)
   (World.shaped_of_ZipB (by kernel_rfl) (by kernel_rfl)) (by kernel_rfl) (by kernel_rfl) (by kernel_rfl)
   (by rw [MakeChecks.laidMetH_plain _ _ _ (by kernel_rfl)]; exact laidMet_laidAll _ (by kernel_rfl) (by kernel_rfl))) ?_
 intro W base args ds gs before hval0 hW _ hsz0 hL _;have hsz : (DataW.weightsEach Tryz.prog (Tryz.f3.params.toList ++ Rows.bookSameSpec.plain.varTypes Tryz.prog) (ds ++ gs)).all (· ≤ reachBytes) = true := hsz0;clear hsz0;have hval : ∀ (j : Nat) t v, Tryz.f3.params[j]? = some t → args[j]? = some v → Value.okWide Tryz.prog W .any base t v := hval0;have hW' := hW
 obtain ⟨p, q, hA0, hV, rfl, hfz, hnd⟩ := hW;have hA : DataW.TrodAll enc Tryz.prog W 0 (fun _ => true) true Tryz.f3.params.toList args.toList ds p := hA0;rw [Tryz.params3] at hA hval hsz;obtain ⟨v0, vs0, d0, ds0, p0, q0, hargs, rfl, rfl, h0, r0⟩ := trodAll_cons hA;obtain ⟨v1, vs1, d1, ds1, p1, q1, rfl, rfl, rfl, h1, r1⟩ := trodAll_cons r0;obtain ⟨rfl, rfl, rfl⟩ := trodAll_nil r1
 obtain rfl : args = #[v0, v1] := by cases args; simp_all
 obtain ⟨rfl, rfl⟩ := trodVars_none hV;have k0 := h0;have lt0 : ∀ x ∈ p0, x.block < W.heap.size := by obtain ⟨m, hm⟩ := k0; exact DataW.trod_lt m _ _ _ hm
 obtain ⟨fu0, hf0⟩ := h0;have g0 : GoodR Tryz.prog W 25 (d0, p0) := ⟨fun b o hm => hfz b o (by simp [hm]), fun k hk => of_decide_eq_true (List.all_eq_true.1 hsz k (DataW.weights_mem_each (j := 0) (t := 25) rfl rfl k hk))⟩;have k1 := h1;have lt1 : ∀ x ∈ p1, x.block < W.heap.size := by obtain ⟨m, hm⟩ := k1; exact DataW.trod_lt m _ _ _ hm
 obtain ⟨fu1, hf1⟩ := h1;have g1 : GoodR Tryz.prog W 25 (d1, p1) := ⟨fun b o hm => hfz b o (by simp [hm]), fun k hk => of_decide_eq_true (List.all_eq_true.1 hsz k (DataW.weights_mem_each (j := 1) (t := 25) rfl rfl k hk))⟩;clear hA0 hval0;refine (WR (Zl W (j8 hL) v0 (hval 0 25 v0 rfl rfl) hf0 g0 v1 (hval 1 25 v1 rfl rfl) hf1 g1)).mono fun e W' ⟨he, bel⟩ => ?_;subst he
 exact ⟨_, rfl, _, _, _, [], _, [], hW', trodAll_mk1 (shut_bool Tryz.underlying4 _), (trodAll_cons_mk (Below.trod wi (by kernel_rfl) (of_decide_eq_true (by kernel_rfl)) k0 bel lt0) (trodAll_cons_mk (Below.trod wi (by kernel_rfl) (of_decide_eq_true (by kernel_rfl)) k1 bel lt1) trodAll_mk0)), rfl, bel.frame _, fun h => by cases h⟩
theorem jO : Rows.BookSameSaid :=
 OpenClaim.holds_of_wide 3 Tryz.f3 rfl rfl rfl rfl rfl rfl rfl ⟨rfl, rfl, rfl, rfl, rfl⟩ rfl rfl rfl rfl rfl (by kernel_rfl) Tryz.func3 (by kernel_rfl)
  (of_decide_eq_true (by kernel_rfl)) (by unfold Func.isWrapper; first | (rw [if_pos (by decide +kernel)]; kernel_rfl) | (rw [if_neg (by decide +kernel)]; exact ⟨rfl, rfl⟩))
  (fun os started H enc _ => qa os started H enc)
theorem bookSame_card : Rows.BookSameCardSaid :=
 Claim7.holds_tied_plain_at .later [] [.data, .listed, .data, .pinned] true (true, "e116ae26eb80f958be8f15b391a85b22725debab0d50c3db2e5cdb7ae65aa75a") true
  jO (fun _ h => by cases h) (by kernel_rfl) (fun _ h => by cases h) bookSame_row_tie rfl ⟨rfl, rfl⟩ (by kernel_rfl) rfl
  (fun f fn hf hfn => by
   obtain rfl : f = 3 := Option.some.inj ((show Tryz.prog.funcNamed Rows.bookSameRow.func = some 3 by kernel_rfl).symm.trans hf) |>.symm
   obtain rfl : fn = Tryz.f3 := (Option.some.inj (Tryz.func3.symm.trans hfn)).symm
   exact ⟨by kernel_rfl, fun j t ht => by
    rw [Tryz.params3] at ht
    have h3 : t = 25 := by
     rcases j with _ | j
     ·simp at ht; subst ht; decide
     rcases j with _ | j
     ·simp at ht; subst ht; decide
     ·simp at ht
    rcases h3 with rfl
    ·exact (show Tryz.prog.wantsStandIn 25 = false by kernel_rfl)⟩)
  (by kernel_rfl)
#print axioms bookSame_card
end
end Go.Proofs.YtgohljjedlpccaaGreatDoor
