/- Parts of the proof: contracts of functions of the program, and plain lemmas. No condition. -/
import Derived.Test.YtgohljjedlpccaaGreatDoorUkD
import Derived.Test.YtgohljjedlpccaaGreatDoorFacts
import Derived.KernelRfl
import Derived.Test.YtgohljjedlpccaaGreatDoorUxW
import Derived.Test.YtgohljjedlpccaaGreatDoorEng2
import Derived.Test.YtgohljjedlpccaaGreatDoorRows
import Derived.Lib.LaidU8T
import Derived.MakeChecks
import Derived.Test.YtgohljjedlpccaaGreatDoorCards
import Derived.Test.YtgohljjedlpccaaGreatDoorTie
import Derived.ProofKit
import Derived.OpenShut
import Derived.LaidMore
import Derived.Lay
import Derived.SevenTiedAt
import Derived.Stop.Joined
import Derived.SizedLaws
set_option maxHeartbeats 64000000
set_option maxRecDepth 100000
namespace Go.Proofs.YtgohljjedlpccaaGreatDoor
open Go.Eng
namespace Tp
open Go Go.Eng Wd Kd
structure SP (L : Int) (w : yf) : Prop where
 name : w.kind = 1 -> OG w.text
 num : w.kind = 2 -> 0 <= w.n /\ w.n <= 999
 lo : 0 <= w.at_
 hi : w.at_ <= L
def GW (L : Int) (ts : List yf) : Prop := ∀ w ∈ ts, SP L w
variable {L : Int} {ts : List yf}
theorem GW.tail (h : GW L ts) : GW L ts.tail := fun w hw => h w (List.mem_of_mem_tail hw)
theorem GW.hd (h : GW L ts) (hL : 0 <= L) : SP L (hd ts) := by
 cases ts with
 | nil => exact ⟨fun h => absurd h (show ¬ (0 : Int) = 1 by decide), fun h => absurd h (show ¬ (0 : Int) = 2 by decide), Int.le_refl _, hL⟩
 | cons w r => exact h w (.head _)
variable {p q : Nat} {s : Bt}
theorem Nf (hq : q <= s.length) : ∀ (d i n m : Nat), q - (p + i) = d -> p + i <= q -> yZ s (p + i) n = (q, m) -> yZ (JD s p q) i n = (q - p, m) := by
 have hlen : (JD s p q).length = q - p := by
  unfold JD;rw [List.length_take, List.length_drop];omega
 intro d
 induction d using Nat.strongRecOn with
 | _ d ih =>
 intro i n m hd hi hn;by_cases hlt : p + i < q
 ·cases hx : rn s (p + i) with
  | none =>
    rw [jL za hx] at hn;have := congrArg Prod.fst hn;dsimp only at this;omega
  | some c =>
    obtain ⟨x, k⟩ := c;rw [wW za hx] at hn;have hk := ue hx
    split at hn
    ·have := congrArg Prod.fst hn;dsimp only at this;omega
    ·rename_i hst
     have hle := (uI s (p + i + k) (n + 1)).le;rw [hn] at hle;dsimp only at hle
     have hx2 : rn (JD s p q) i = some (x, k) := by
      unfold JD;refine Py ?_ za;rw [Zp];exact hx
     rw [wW za hx2, if_neg hst];exact ih (q - (p + (i + k))) za (i + k) (n + 1) m rfl za (by rw [<- Nat.add_assoc]; exact hn)
 ·have hie : p + i = q := by omega
  have hm : m = n := by
   rw [hie] at hn;by_cases hqs : q < s.length
   ·cases hx : rn s q with
    | none => rw [jL hqs hx] at hn; exact (congrArg Prod.snd hn).symm
    | some c =>
      obtain ⟨x, k⟩ := c;rw [wW hqs hx] at hn;have hk := ue hx
      split at hn
      ·exact (congrArg Prod.snd hn).symm
      ·have hle := (uI s (q + k) (n + 1)).le;rw [hn] at hle;dsimp only at hle;omega
   ·rw [yZ, if_neg hqs] at hn;exact (congrArg Prod.snd hn).symm
  rw [yZ, if_neg za, hm]
  congr 1
  omega
variable {ws : List yf}
theorem HM {s : Bt} {p : Nat} (hp : p < s.length) (h : wA s p = .next q ws) : GW s.length ws := by
 unfold wA at h;cases hx : rn s p with
 | none => rw [hx] at h; cases h
 | some c =>
   obtain ⟨x, k⟩ := c;rw [hx] at h;dsimp only at h
   split at h
   ·cases h; exact fun w hw => by cases hw
   split at h
   ·split at h
    ·cases h
    ·cases h; exact fun w hw => by cases hw
   split at h
   ·rename_i hl
    unfold au at h
    split at h
    ·cases h
    ·rename_i h24
     cases h;intro w hw;rw [List.mem_singleton] at hw;subst hw;have hti := uI s p 0;have hle := hti.le;have hqs := hti.len (Nat.le_of_lt hp);have hseg := Nf (s := s) (p := p) hqs _ 0 0 _ rfl hle rfl
     have hlen : (JD s p (yZ s p 0).1).length = (yZ s p 0).1 - p := by
      unfold JD;rw [List.length_take, List.length_drop];omega
     have h1 : 1 <= (yZ s p 0).2 := by
      rw [wW hp hx, if_neg (by unfold g8; rw [hl]; simp)]
      have : ∀ (d p n : Nat), s.length - p = d -> n <= (yZ s p n).2 := by
       intro d
       induction d using Nat.strongRecOn with
       | _ d ih =>
       intro p n hd;by_cases hp : p < s.length
       ·cases hx : rn s p with
        | none => rw [jL hp hx]; exact Nat.le_refl _
        | some c =>
          obtain ⟨x, k⟩ := c;have hk := ue hx;rw [wW hp hx]
          split
          ·exact Nat.le_refl _
          ·have := ih (s.length - (p + k)) za (p + k) (n + 1) rfl;omega
       ·rw [yZ, if_neg hp]; exact Nat.le_refl _
      exact this _ (p + k) 1 rfl
     exact ⟨fun _ => ⟨by rw [hseg, hlen], by rw [hseg]; exact h1, by rw [hseg]; show (yZ s p 0).2 <= 24; omega, by rw [hlen]; omega⟩, fun h => absurd h (show ¬ (1 : Int) = 2 by decide), Int.natCast_nonneg _, by dsimp only; omega⟩
   split at h
   ·unfold ag at h
    split at h
    ·cases h
    split at h
    ·cases h
    ·rename_i h999
     cases h;intro w hw;rw [List.mem_singleton] at hw;subst hw;exact ⟨fun h => absurd h (show ¬ (2 : Int) = 1 by decide), fun _ => ⟨Int.natCast_nonneg _, by dsimp only; omega⟩, Int.natCast_nonneg _, by dsimp only; omega⟩
   ·unfold eE at h
    split at h
    ·cases h
    ·cases h;intro w hw;rw [List.mem_singleton] at hw;subst hw;exact ⟨fun h => absurd h (show ¬ (3 : Int) = 1 by decide), fun h => absurd h (show ¬ (3 : Int) = 2 by decide), Int.natCast_nonneg _, by dsimp only; omega⟩
theorem P0 : ∀ (d p : Nat) (acc ws : List yf), s.length - p = d -> GW s.length acc -> Xy s p acc = .ok ws -> GW s.length ws := by
 intro d
 induction d using Nat.strongRecOn with
 | _ d ih =>
 intro p acc ws hd ha h;rw [Xy] at h
 split at h
 ·rename_i hp
  cases hs : wA s p with
  | err e a => rw [hs] at h; cases h
  | next q us =>
    rw [hs] at h;dsimp only at h
    split at h
    ·rename_i hpq
     exact ih (s.length - q) za q _ ws rfl (fun w hw => by
      rcases List.mem_append.1 hw with hw | hw
      ·exact ha w hw
      ·exact HM hp hs w hw) h
    ·cases h; exact fun w hw => by cases hw
 ·cases h;intro w hw;rcases List.mem_append.1 hw with hw | hw
  ·exact ha w hw
  ·rw [List.mem_singleton] at hw;subst hw;exact ⟨fun h => absurd h (show ¬ (0 : Int) = 1 by decide), fun h => absurd h (show ¬ (0 : Int) = 2 by decide), Int.natCast_nonneg _, Int.le_refl _⟩
theorem Kq (h : gN s = .ok ws) : GW s.length ws := by
 unfold gN at h
 split at h
 ·cases h
 ·exact P0 _ 0 [] ws rfl (fun w hw => by cases hw) h
structure wx {α : Type} (L : Int) (r : R α) (Q : α -> Prop) : Prop where
 ok : ∀ x ts, r = .ok x ts -> Q x /\ GW L ts
 bad : ∀ e a, r = .bad e a -> e ≠ 0 /\ 0 <= a /\ a <= L
section
variable {L : Int} {α β : Type}
variable {Q : α -> Prop}
theorem wx.ret {x : α} {ts : List yf} (hq : Q x) (hg : GW L ts) : wx L (.ok x ts) Q := ⟨fun y us e => (by cases e; exact ⟨hq, hg⟩), fun e a h => (by cases h)⟩
theorem wx.fail {e : Int} {ts : List yf} (hL : 0 <= L) (hg : GW L ts) (he : e ≠ 0 := by decide) : wx L (fail e ts : R α) Q := ⟨fun y us e => (by cases e), fun e a h => (by cases h; exact ⟨he, (hg.hd hL).lo, (hg.hd hL).hi⟩)⟩
theorem wx.out : wx L (.out : R α) Q := ⟨fun y us e => (by cases e), fun e a h => (by cases h)⟩
variable {r : R α}
theorem wx.bind {f : α -> List yf -> R β} {Q' : β -> Prop} (h : wx L r Q) (hf : ∀ x ts, Q x -> GW L ts -> wx L (f x ts) Q') : wx L (r.bind f) Q' := by
 cases r with
 | ok x ts => exact hf x ts (h.ok x ts rfl).1 (h.ok x ts rfl).2
 | bad e a => exact ⟨fun y us e => (by cases e), fun e' a' h' => (by cases h'; exact h.bad e a rfl)⟩
 | out => exact .out
theorem wx.ite {c : Prop} [Decidable c] {a b : R α} (h1 : c -> wx L a Q) (h2 : ¬ c -> wx L b Q) : wx L (if c then a else b) Q := by
 by_cases h : c
 ·rw [if_pos h]; exact h1 h
 ·rw [if_neg h]; exact h2 h
theorem wx.mono {Q' : α -> Prop} (h : wx L r Q) (hq : ∀ x, Q x -> Q' x) : wx L r Q' := ⟨fun x ts e => ⟨hq x (h.ok x ts e).1, (h.ok x ts e).2⟩, h.bad⟩
variable (hL : 0 <= L) {ts : List yf} (hg : GW L ts)
include hL hg
theorem yJ (s : Bt) : wx L (wi s ts) fun _ => True := .ite (fun _ => .ret trivial hg.tail) fun _ => .fail hL hg
theorem dR : ∀ (l : List Bt), wx L (eM l ts) fun _ => True := by
 intro l
 induction l generalizing ts with
 | nil => exact .ret trivial hg
 | cons s r ih => exact (yJ hL hg s).bind fun _ ts _ h => ih h
theorem xj : wx L (xY ts) fun n => 0 <= n /\ n <= 999 := .ite (fun h => .ret ((hg.hd hL).num h) hg.tail) fun _ => .fail hL hg
theorem gW : wx L (kn ts) fun s => yL s = true := .ite (fun h => .ret (by
  have hw := (hg.hd hL).name h.1;unfold yL;rw [h.2, decide_eq_true ⟨hw.lo, hw.hi, hw.go, hw.len⟩]
  rfl) hg.tail) fun _ => .fail hL hg
theorem gU : wx L (j4 ts) fun w => ∃ s, xA w = some s := .ite (fun _ => .ret ⟨ar, rfl⟩ hg.tail) fun _ => .ite (fun _ => .ret ⟨fL, rfl⟩ hg.tail) fun _ => .fail hL hg
theorem Jq : wx L (Xu ts) fun w => ∃ s, gY w = some s := .ite (fun _ => .ret ⟨xX, rfl⟩ hg.tail) fun _ => (gU hL hg).mono fun w ⟨s, hs⟩ => by
 unfold gY
 split
 ·exact ⟨_, rfl⟩
 ·exact ⟨s, hs⟩
theorem XI (d : Nat) : wx L (Wl d ts) fun _ => d + 1 <= 8 := .ite (fun _ => .fail hL hg) fun h => .ret za hg
end
variable {L : Int}
theorem eH {α : Type} {one : List yf -> R α} {signs : List (Bt × Int)} {put : Int -> α -> α -> α} {A Y : α -> Prop} (ho : ∀ ts, GW L ts -> wx L (one ts) Y) (hp : ∀ sg ∈ signs, ∀ x y, A x -> Y y -> A (put sg.2 x y)) : ∀ (n : Nat) (x : α) (ts : List yf), A x -> GW L ts -> wx L (wM one signs put n x ts) A
 | 0, _, _, _, _ => .out
 | n + 1, x, ts, hx, hg => by
   rw [wM]
   split
   ·exact .ret hx hg
   ·rename_i sg hsg
    exact (ho _ hg.tail).bind fun y ts hy hg => eH ho hp n _ ts (hp sg (List.mem_of_find?_eq_some hsg) x y hx hy) hg
variable {a b : Option Bt}
theorem qr {f : Bt -> Bt -> Bt} (ha : ∃ s, a = some s) (hb : ∃ s, b = some s) : ∃ s, uf f a b = some s := by
 obtain ⟨s, rfl⟩ := ha;obtain ⟨t, rfl⟩ := hb;exact ⟨_, rfl⟩
variable {d : Nat} {f : Nat -> Option Bt}
theorem cU (hd : d + 1 <= 8) (h : ∃ s, f (d + 1) = some s) : ∃ s, fX d f = some s := by
 obtain ⟨s, h⟩ := h;exact ⟨s, by unfold fX; rw [if_pos hd, h]⟩
variable {br : Bool}
theorem f6 (h1 : br = true -> d + 1 <= 8 /\ ∃ s, f (d + 1) = some s) (h2 : br = false -> ∃ s, f d = some s) : ∃ s, jW br d f = some s := by
 cases br with
 | true =>
   obtain ⟨hd, h⟩ := h1 rfl;obtain ⟨s, h⟩ := cU hd h;exact ⟨_, by unfold jW; rw [if_pos rfl, h]; rfl⟩
 | false => exact h2 rfl
variable {s : Bt}
theorem XH (hf : ∀ d s, f (d + 1) = some s -> f d = some s) (h : fX (d + 1) f = some s) : fX d f = some s := by
 obtain ⟨h1, h2⟩ := wD h;unfold fX;rw [if_pos za];exact hf _ _ h2
theorem f7 (hf : ∀ d s, f (d + 1) = some s -> f d = some s) (h : jW br (d + 1) f = some s) : jW br d f = some s := by
 cases br with
 | true =>
   rcases fE h with ⟨h0, -⟩ | ⟨-, hd, t, h1, rfl⟩
   ·cases h0
   ·have : fX d f = some t := by unfold fX; rw [if_pos za]; exact hf _ _ h1
    unfold jW;rw [if_pos rfl, this]
    rfl
 | false => exact hf _ _ h
theorem aB {f : Bt -> Bt -> Bt} {a' b' : Option Bt} (ha : ∀ s, a = some s -> a' = some s) (hb : ∀ s, b = some s -> b' = some s) (h : uf f a b = some s) : uf f a' b' = some s := by
 obtain ⟨u, v, h1, h2, rfl⟩ := y2 h;rw [ha _ h1, hb _ h2]
 rfl
theorem aE : ∀ (x : zY) (d : Nat) (s : Bt), yC x (d + 1) = some s -> yC x d = some s
 | .mk op n who k, d, s, h => by
   rcases eK h with ⟨hk, h3⟩ | ⟨a, b, hk, hn0, hw0, h3⟩
   ·subst hk;rw [wI];exact h3
   ·have ia : ∀ d s, yC a (d + 1) = some s -> yC a d = some s := fun d s h => aE a d s h;have ib : ∀ d s, yC b (d + 1) = some s -> yC b d = some s := fun d s h => aE b d s h;subst hk hn0 hw0;rw [k8, if_neg (fun h => h ⟨rfl, rfl⟩)];unfold b7 at h3 ⊢
    split
    ·rename_i ho
     rw [if_pos ho] at h3;exact aB (fun s h => XH ia h) (fun s h => XH ib h) h3
    rename_i h11
    rw [if_neg h11] at h3
    split
    ·rename_i ho
     rw [if_pos ho] at h3;exact aB (fun s h => XH ia h) (fun s h => XH ib h) h3
    rename_i h12
    rw [if_neg h12] at h3
    split
    ·rename_i ho
     rw [if_pos ho] at h3;exact aB (fun s h => f7 ia h) (fun s h => f7 ib h) h3
    rename_i h10
    rw [if_neg h10] at h3
    split
    ·rename_i ho
     rw [if_pos ho] at h3;exact aB (fun s h => ia _ _ h) (fun s h => f7 ib h) h3
    rename_i h8
    rw [if_neg h8] at h3
    split
    ·rename_i ho
     rw [if_pos ho] at h3;exact aB (fun s h => ia _ _ h) (fun s h => f7 ib h) h3
    rename_i h9
    rw [if_neg h9] at h3;cases h3
termination_by x => SizeOf.sizeOf x
decreasing_by
 all_goals
  subst hk
  simp
  omega
def QS (d : Nat) (x : zY) : Prop := ∃ s, yC x d = some s
def QO (d : Nat) (x : zY) : Prop := QS d x /\ (xM x = true \/ Jh x = 10 -> d + 1 <= 8 /\ QS (d + 1) x)
def QA (d : Nat) (x : zY) : Prop := QS d x /\ (xM x = true -> d + 1 <= 8 /\ QS (d + 1) x)
variable {op : Int}
theorem QO.leaf {n who : Int} (h : ∃ s, uB op n who = some s) (ho : ¬ 8 <= op) : QO d (qs op n who) := by
 obtain ⟨s, h⟩ := h;refine ⟨⟨s, by unfold qs; rw [wI, h]⟩, fun h2 => ?_⟩;rcases h2 with h2 | h2
 ·have h2 : (decide (op = 8) || decide (op = 9)) = true := h2;rw [decide_eq_false za, decide_eq_false za] at h2;cases h2
 ·exact absurd (show op = 10 from h2) za
theorem QO.min {a b : zY} (ho : op = 11 \/ op = 12) (hd : d + 1 <= 8) (ha : QS (d + 1) a) (hb : QS (d + 1) b) : QO d (vz op a b) := by
 refine ⟨?_, fun h2 => ?_⟩
 ·unfold QS vz;rw [k8, if_neg (fun h => h ⟨rfl, rfl⟩)];rcases ho with rfl | rfl
  ·exact qr (f := cR Xs) (cU hd ha) (cU hd hb)
  ·exact qr (f := cR Xt) (cU hd ha) (cU hd hb)
 ·rcases ho with rfl | rfl <;> rcases h2 with h2 | h2 <;> cases h2
variable {sum : Nat -> List yf -> R zY} {ts : List yf}
theorem QK (hL : 0 <= L) (hs : ∀ d ts, GW L ts -> wx L (sum d ts) (QS d)) (two : Bool) (d : Nat) (hg : GW L ts) : wx L (JQ sum two d ts) fun x => d + 1 <= 8 /\ QS (d + 1) x.1 /\ (two = true -> QS (d + 1) x.2) := by
 unfold JQ;refine .ite (fun _ => ?_) fun _ => .fail hL hg;refine (XI hL hg d).bind fun _ ts hd hg => (yJ hL hg _).bind fun _ ts _ hg => (hs _ _ hg).bind fun a ts ha hg => .ite (fun _ => ?_) fun h => ?_
 ·exact (yJ hL hg _).bind fun _ ts _ hg => (hs _ _ hg).bind fun b ts hb hg => (yJ hL hg _).bind fun _ ts _ hg => .ret ⟨hd, ha, fun _ => hb⟩ hg
 ·exact (yJ hL hg _).bind fun _ ts _ hg => .ret ⟨hd, ha, fun e => absurd e h⟩ hg
theorem JT (hL : 0 <= L) (hs : ∀ d ts, GW L ts -> wx L (sum d ts) (QS d)) (d : Nat) (hg : GW L ts) : wx L (ja sum d ts) (QO d) := by
 unfold ja;refine .ite (fun _ => ?_) fun _ => .ite (fun h2 => ?_) fun _ => ?_
 ·refine (QK hL hs false d hg).bind fun x ts ⟨hd, ha, _⟩ hg => .ret ?_ hg;obtain ⟨s, hs⟩ := ha;exact ⟨⟨s, aE _ _ _ hs⟩, fun _ => ⟨hd, s, hs⟩⟩
 ·have hn := (hg.hd hL).num h2;exact .ret (.leaf ⟨_, by unfold uB; rw [if_pos rfl, if_pos ⟨rfl, hn.1, hn.2⟩]⟩ za) hg.tail
 split
 ·rename_i sg hsg
  have hm := List.mem_of_find?_eq_some hsg;refine (yJ hL hg.tail _).bind fun _ ts _ hg => (gU hL hg).bind fun w ts ⟨s, hw⟩ hg => (yJ hL hg _).bind fun _ ts _ hg => .ret ?_ hg;unfold gX at hm;simp only [List.mem_cons, List.not_mem_nil, or_false] at hm;rcases hm with rfl | rfl | rfl | rfl
  ·exact .leaf ⟨_, by show (xA w).map _ = _; rw [hw]; rfl⟩ zb
  ·exact .leaf ⟨_, by show (xA w).map _ = _; rw [hw]; rfl⟩ zb
  ·exact .leaf ⟨_, by show (xA w).map _ = _; rw [hw]; rfl⟩ zb
  ·exact .leaf ⟨_, by show (xA w).map _ = _; rw [hw]; rfl⟩ zb
 ·refine .ite (fun _ => (dR hL hg.tail _).bind fun _ ts _ hg => .ret (.leaf ⟨_, rfl⟩ zb) hg) fun _ => .ite (fun _ => (dR hL hg.tail _).bind fun _ ts _ hg => .ret (.leaf ⟨_, rfl⟩ zb) hg) fun _ => .ite (fun _ => (dR hL hg.tail _).bind fun _ ts _ hg => .ret (.leaf ⟨_, rfl⟩ zb) hg) fun _ => ?_
  refine .ite (fun _ => (QK hL hs true d hg.tail).bind fun x ts ⟨hd, ha, hb⟩ hg => .ret (.min (.inl rfl) hd ha (hb rfl)) hg) fun _ => .ite (fun _ => (QK hL hs true d hg.tail).bind fun x ts ⟨hd, ha, hb⟩ hg => .ret (.min (.inr rfl) hd ha (hb rfl)) hg) fun _ => .fail hL hg
theorem V0 (hL : 0 <= L) (hs : ∀ d ts, GW L ts -> wx L (sum d ts) (QS d)) (n d : Nat) (hg : GW L ts) : wx L (ai sum n d ts) (QA d) := by
 unfold ai qk;refine (JT hL hs d hg).bind fun x ts hx hg => eH (A := QA d) (Y := QO d) (fun ts hg => JT hL hs d hg) (fun sg hsg a b ha hb => ?_) n x ts ⟨hx.1, fun h => hx.2 (.inl h)⟩ hg;unfold wj at hsg;obtain rfl := List.mem_singleton.1 hsg;refine ⟨?_, fun h => by cases h⟩;unfold QS vz;rw [k8, if_neg (fun h => h ⟨rfl, rfl⟩)]
 refine qr (f := xe wo) (f6 (fun h => ha.2 h) (fun _ => ha.1)) (f6 (fun h => hb.2 ?_) (fun _ => hb.1));rcases Bool.or_eq_true_iff.1 h with h | h
 ·exact .inl h
 ·exact .inr (of_decide_eq_true h)
theorem X0 (hL : 0 <= L) : ∀ (n d : Nat) (ts : List yf), GW L ts -> wx L (xa n d ts) (QS d)
 | 0, _, _, _ => .out
 | n + 1, d, ts, hg => by
   unfold xa qk;have hs := fun d ts hg => X0 hL n d ts hg;refine (V0 hL hs (n + 1) d hg).bind fun x ts hx hg => eH (A := QS d) (Y := QA d) (fun ts hg => V0 hL hs (n + 1) d hg) (fun sg hsg a b ha hb => ?_) (n + 1) x ts hx.1 hg;unfold qo at hsg;simp only [List.mem_cons, List.not_mem_nil, or_false] at hsg;unfold QS vz;rw [k8, if_neg (fun h => h ⟨rfl, rfl⟩)]
   rcases hsg with rfl | rfl
   ·exact qr (f := xe jd) ha (f6 (fun h => hb.2 h) (fun _ => hb.1))
   ·exact qr (f := xe uc) ha (f6 (fun h => hb.2 h) (fun _ => hb.1))
end Tp
namespace Tp
open Go Go.Eng Wd Kd
theorem Uv : ∀ (x : zI) (d : Nat) (s : Bt), yx x (d + 1) = some s -> yx x d = some s
 | .mk op who name ns ks, d, s, h => by
   have hk : ∀ k ∈ ks, ∀ d s, yx k (d + 1) = some s -> yx k d = some s := fun k _ d s h => Uv k d s h;have hc := kF h;clear h;generalize hx : zI.mk op who name ns ks = x at hc;generalize hd : d + 1 = d1 at hc;cases hc with
   | @cmp o w a b _ u v hw ha hb =>
     cases hx;subst hd;have e : uf (xe w) (yC a d) (yC b d) = some (xe w u v) := by rw [aE _ _ _ ha, aE _ _ _ hb]; rfl
     rcases hw with ⟨rfl, rfl⟩ | ⟨rfl, rfl⟩ | ⟨rfl, rfl⟩
     ·rw [c9]; exact e
     ·rw [c8]; exact e
     ·rw [c7]; exact e
   | holds hn hs =>
     cases hx;rw [fY, if_pos hn, hs]
     rfl
   | @not k _ s hd2 h1 =>
     cases hx;subst hd;rw [bR]
     have e : fX d (fun d => jW (decide (qd k = 4) || decide (qd k = 5)) d (yx k)) = some s := by
      unfold fX;rw [if_pos za];exact f7 (hk _ (.head _)) h1
     rw [e]
     rfl
   | or ha hb =>
     cases hx;subst hd;rw [ZR, hk _ (.head _) _ _ ha, f7 (hk _ (.tail _ (.head _))) hb]
     rfl
   | and ha hb =>
     cases hx;subst hd;rw [bS, f7 (hk _ (.head _)) ha, f7 (hk _ (.tail _ (.head _))) hb]
     rfl
termination_by x => SizeOf.sizeOf x
decreasing_by
 have := List.sizeOf_lt_of_mem ‹k ∈ ks›
 simp
 omega
def QC (d : Nat) (x : zI) : Prop := ∃ s, yx x d = some s
def C9 (d : Nat) (x : zI) : Prop := QC d x /\ (qd x = 4 \/ qd x = 5 -> d + 1 <= 8 /\ QC (d + 1) x)
def CX (d : Nat) (x : zI) : Prop := QC d x /\ (qd x = 5 -> d + 1 <= 8 /\ QC (d + 1) x)
variable {L : Int} {cond : Nat -> List yf -> R zI}
theorem VZ (hL : 0 <= L) {sum : Nat -> List yf -> R zY} (hs : ∀ d ts, GW L ts -> wx L (sum d ts) (QS d)) (hc : ∀ d ts, GW L ts -> wx L (cond d ts) (QC d)) : ∀ (n d : Nat) (ts : List yf), GW L ts -> wx L (wL sum cond n d ts) (C9 d)
 | 0, _, _, _ => .out
 | n + 1, d, ts, hg => by
   unfold wL;refine .ite (fun _ => ?_) fun _ => .ite (fun _ => ?_) fun _ => .ite (fun _ => ?_) fun _ => ?_
   ·refine (XI hL hg d).bind fun _ ts hd hg => (VZ hL hs hc n (d + 1) _ hg.tail).bind fun k ts hk hg => .ret ⟨?_, fun h => by rcases h with h | h <;> cases h⟩ hg
    have e : ∃ s, fX d (fun d => jW (decide (qd k = 4) || decide (qd k = 5)) d (yx k)) = some s := cU hd (f6 (fun h => hk.2 (by
     rcases Bool.or_eq_true_iff.1 h with h | h
     ·exact .inl (of_decide_eq_true h)
     ·exact .inr (of_decide_eq_true h))) fun _ => hk.1)
    obtain ⟨s, e⟩ := e;exact ⟨_, by rw [bR, e]; rfl⟩
   ·refine (XI hL hg d).bind fun _ ts hd hg => (hc _ _ hg.tail).bind fun x ts hx hg => (yJ hL hg _).bind fun _ ts _ hg => .ret ⟨?_, fun _ => ⟨hd, hx⟩⟩ hg;obtain ⟨s, h⟩ := hx;exact ⟨s, Uv _ _ _ h⟩
   ·refine (yJ hL hg.tail _).bind fun _ ts _ hg => (gU hL hg).bind fun w ts ⟨s, hw⟩ hg => (yJ hL hg _).bind fun _ ts _ hg => (gW hL hg).bind fun nm ts hn hg => (yJ hL hg _).bind fun _ ts _ hg => .ret ⟨?_, fun h => by rcases h with h | h <;> cases h⟩ hg;exact ⟨_, by rw [fY, if_pos hn, hw]; rfl⟩
   ·refine (hs _ _ hg).bind fun a ts ha hg => ?_
    split
    ·rename_i sg hsg
     have hm := List.mem_of_find?_eq_some hsg;refine (hs _ _ hg.tail).bind fun b ts hb hg => .ret ?_ hg;unfold yy at hm;simp only [List.mem_cons, List.not_mem_nil, or_false] at hm;rcases hm with rfl | rfl | rfl
     ·refine ⟨?_, fun h => by rcases h with h | h <;> cases h⟩;unfold QC;rw [c9];exact qr ha hb
     ·refine ⟨?_, fun h => by rcases h with h | h <;> cases h⟩;unfold QC;rw [c8];exact qr ha hb
     ·refine ⟨?_, fun h => by rcases h with h | h <;> cases h⟩;unfold QC;rw [c7];exact qr ha hb
    ·exact .fail hL hg
variable {ts : List yf}
theorem UF (hL : 0 <= L) (hc : ∀ d ts, GW L ts -> wx L (cond d ts) (QC d)) (n d : Nat) (hg : GW L ts) : wx L (aj cond n d ts) (CX d) := by
 have ht := fun ts hg => VZ hL (fun d ts hg => X0 hL n d ts hg) hc n d ts hg;unfold aj qk;refine (ht ts hg).bind fun x ts hx hg => eH (A := CX d) (Y := C9 d) ht (fun sg hsg a b ha hb => ?_) n x ts ⟨hx.1, fun h => hx.2 (.inr h)⟩ hg;unfold wE at hsg;obtain rfl := List.mem_singleton.1 hsg;refine ⟨?_, fun h => by cases h⟩;unfold QC qL;rw [bS]
 refine qr (f := xe gJ) (f6 (fun h => ha.2 (of_decide_eq_true h)) (fun _ => ha.1)) (f6 (fun h => hb.2 ?_) (fun _ => hb.1));rcases Bool.or_eq_true_iff.1 h with h | h
 ·exact .inr (of_decide_eq_true h)
 ·exact .inl (of_decide_eq_true h)
theorem Uw (hL : 0 <= L) : ∀ (n d : Nat) (ts : List yf), GW L ts -> wx L (xL n d ts) (QC d)
 | 0, _, _, _ => .out
 | n + 1, d, ts, hg => by
   unfold xL qk;have hc := fun d ts hg => Uw hL n d ts hg;refine (UF hL hc (n + 1) d hg).bind fun x ts hx hg => eH (A := QC d) (Y := CX d) (fun ts hg => UF hL hc (n + 1) d hg) (fun sg hsg a b ha hb => ?_) (n + 1) x ts hx.1 hg;unfold kP at hsg;obtain rfl := List.mem_singleton.1 hsg;unfold QC qL;rw [ZR]
   exact qr (f := xe JF) ha (f6 (fun h => hb.2 (of_decide_eq_true h)) (fun _ => hb.1))
def QE (d : Nat) (x : zW) : Prop := ∃ s, vG x d = some s
def QB (d : Nat) (l : List zW) : Prop := ∀ x ∈ l, QE d x
variable {d : Nat}
theorem ZW : ∀ {l : List zW}, QB d l -> ∃ s, vi l d = some s
 | [], _ => ⟨_, ci d⟩
 | x :: r, h => by
   obtain ⟨s, hs⟩ := h x (.head _);obtain ⟨t, ht⟩ := ZW (l := r) fun y hy => h y (.tail _ hy);exact ⟨_, by rw [kH, hs, ht]; rfl⟩
theorem Xl : xS UB [] [] := ⟨rfl, rfl⟩
variable {w : Bt}
theorem Yj {a b : Option Bt} (ha : ∃ s, a = some s) (hb : ∃ s, b = some s) : ∃ s, fV w a b = some s := qr ha hb
theorem Zz {a : Option Bt} (ha : ∃ s, a = some s) : ∃ s, kp w a = some s := by
 obtain ⟨s, rfl⟩ := ha;exact ⟨_, rfl⟩
theorem jE (hL : 0 <= L) {x : zW} (hx : QE d x) (hg : GW L ts) : wx L (v6 x ts) (QE d) := (yJ hL hg _).bind fun _ _ _ hg => .ret hx hg
theorem N2 (hL : 0 <= L) {blk : Nat -> List yf -> R (List zW)} (hb : ∀ d ts, GW L ts -> wx L (blk d ts) (QB d)) (n d : Nat) (hg : GW L ts) : wx L (ky blk n d ts) (QE d) := by
 have hs := fun ts hg => X0 hL n d ts hg;unfold ky
 refine .ite (fun _ => (Jq hL hg.tail).bind fun w ts hw hg => (hs _ hg).bind fun x ts hx hg => jE hL ?_ hg) fun _ => .ite (fun _ => (Jq hL hg.tail).bind fun w ts hw hg => (hs _ hg).bind fun x ts hx hg => jE hL ?_ hg) fun _ =>
  .ite (fun _ => (gU hL hg.tail).bind fun w ts hw hg => (hs _ hg).bind fun x ts hx hg => jE hL ?_ hg) fun _ => .ite (fun _ => (hs _ hg.tail).bind fun x ts hx hg => jE hL ?_ hg) fun _ => .ite (fun _ => (hs _ hg.tail).bind fun x ts hx hg => jE hL ?_ hg) fun _ =>
  .ite (fun _ => (gU hL hg.tail).bind fun w ts hw hg => jE hL ?_ hg) fun _ => .ite (fun _ => (gU hL hg.tail).bind fun w ts hw hg => jE hL ?_ hg) fun _ => .ite (fun _ => (gW hL hg.tail).bind fun s ts hn hg => jE hL ?_ hg) fun _ => .ite (fun _ => ?_) fun _ => .fail hL hg
 ·unfold QE qm; rw [bM Xl]; exact Yj hw hx
 ·unfold QE qm; rw [bL Xl]; exact Yj hw hx
 ·unfold QE qm; rw [YA Xl]; exact Yj hw hx
 ·unfold QE qm; rw [Yx Xl]; exact Zz hx
 ·unfold QE qm; rw [Yw Xl]; exact Zz hx
 ·unfold QE qm; rw [Yz Xl rfl]; exact Zz hw
 ·unfold QE qm; rw [Yv Xl rfl]; exact Zz hw
 ·unfold QE qm; rw [aS Xl rfl hn]; exact ⟨_, rfl⟩
 ·refine (XI hL hg d).bind fun _ ts hd hg => (Uw hL _ _ _ hg.tail).bind fun c ts hc hg => (hb _ _ hg).bind fun t ts ht hg => (yJ hL hg _).bind fun _ ts _ hg => (hb _ _ hg).bind fun e ts he hg => .ret ?_ hg;unfold QE;rw [QG, if_pos ⟨rfl, rfl, rfl⟩];refine cU hd ?_;obtain ⟨s, hc⟩ := hc;obtain ⟨u, ht⟩ := ZW ht;obtain ⟨v, he⟩ := ZW he
  exact ⟨_, by unfold H3; rw [hc, ht, he]; rfl⟩
theorem Ue {α : Type} {Q : α -> Prop} {one : List yf -> R α} (ho : ∀ ts, GW L ts -> wx L (one ts) Q) : ∀ (n : Nat) (acc : List α) (ts : List yf), (∀ x ∈ acc, Q x) -> GW L ts -> wx L (fR one n acc ts) fun l => ∀ x ∈ l, Q x
 | 0, _, _, _, _ => .out
 | n + 1, acc, ts, ha, hg => by
   unfold fR;refine .ite (fun _ => .ret ha hg.tail) fun _ => (ho _ hg).bind fun x ts hx hg => Ue ho n _ ts (fun y hy => ?_) hg;rcases List.mem_append.1 hy with hy | hy
   ·exact ha y hy
   ·rw [List.mem_singleton.1 hy]; exact hx
theorem jA (hL : 0 <= L) : ∀ (n d : Nat) (ts : List yf), GW L ts -> wx L (xo n d ts) (QB d)
 | 0, _, _, _ => .out
 | n + 1, d, ts, hg => by
   unfold xo;exact (yJ hL hg _).bind fun _ ts _ hg => Ue (Q := QE d) (fun ts hg => N2 hL (fun d ts hg => jA hL n d ts hg) (n + 1) d hg) (n + 1) [] ts (fun x h => by cases h) hg
theorem cL (hL : 0 <= L) {σ : Type} {keys : List Bt} {read : Bt -> σ -> List yf -> R σ} {parts : σ -> Nat} {I : σ -> Prop} (hr : ∀ s c ts, I c -> GW L ts -> wx L (read s c ts) I) : ∀ (n : Nat) (seen : List Bt) (c : σ) (ts : List yf), I c -> GW L ts -> wx L (wU keys read parts n seen c ts) fun c => I c /\ parts c <= 200
 | 0, _, _, _, _, _ => .out
 | n + 1, seen, c, ts, hc, hg => by
   unfold wU;exact .ite (fun _ => .ite (fun _ => .fail hL hg) fun h => .ret ⟨hc, by omega⟩ hg.tail) fun _ => .ite (fun _ => .ite (fun _ => .fail hL hg) fun _ => (hr _ _ _ hc hg.tail).bind fun c ts hc hg => cL hL hr n _ c ts hc hg) fun _ => .fail hL hg
structure CI (c : zP) : Prop where
 name : yL c.name = true
 kind : eN c = true
 cost : yN c.cost = true
 power : yN c.power = true
 health : yN c.health = true
 shield : yN c.shield = true
 apow : yN c.apow = true
 aheal : yN c.aheal = true
 p : QB 0 c.played
 d : QB 0 c.dead
 w : QB 0 c.dawn
theorem u7 {n : Int} (h : 0 <= n /\ n <= 999) : yN n = true := decide_eq_true h
theorem X5 {l : List zW} (h : QB 0 l) : ∃ s, uU w l = some s := by
 unfold uU
 split
 ·exact ⟨_, rfl⟩
 ·obtain ⟨s, hs⟩ := ZW h;rw [hs];exact ⟨_, rfl⟩
theorem CI.some {c : zP} (h : CI c) (hw : yD c <= 200) : ∃ s, um c = some s := by
 obtain ⟨a, ha⟩ := X5 (w := xu) h.p;obtain ⟨b, hb⟩ := X5 (w := uj) h.d;obtain ⟨e, he⟩ := X5 (w := uy) h.w;have hn : ko c = true := by unfold ko; rw [h.cost, h.power, h.health, h.shield, h.apow, h.aheal]; rfl
 exact ⟨_, by unfold um JE; rw [if_pos ⟨h.name, h.kind, hn, hw⟩, ha, hb, he]; rfl⟩
theorem VM (hL : 0 <= L) (n : Nat) (s : Bt) (c : zP) (ts : List yf) (h : CI c) (hg : GW L ts) : wx L (xp n s c ts) CI := by
 unfold xp
 refine .ite (fun _ => (jA hL n 0 ts hg).bind fun l ts hl hg => .ret ?_ hg) fun _ => .ite (fun _ => (jA hL n 0 ts hg).bind fun l ts hl hg => .ret ?_ hg) fun _ => .ite (fun _ => (jA hL n 0 ts hg).bind fun l ts hl hg => .ret ?_ hg) fun _ =>
  .ite (fun _ => (xj hL hg).bind fun a ts ha hg => (yJ hL hg _).bind fun _ ts _ hg => (xj hL hg).bind fun b ts hb hg => (yJ hL hg _).bind fun _ ts _ hg => .ret ?_ hg) fun _ => (xj hL hg).bind fun a ts ha hg => (yJ hL hg _).bind fun _ ts _ hg => .ret ?_ hg
 ·exact ⟨h.name, h.kind, h.cost, h.power, h.health, h.shield, h.apow, h.aheal, hl, h.d, h.w⟩
 ·exact ⟨h.name, h.kind, h.cost, h.power, h.health, h.shield, h.apow, h.aheal, h.p, hl, h.w⟩
 ·exact ⟨h.name, h.kind, h.cost, h.power, h.health, h.shield, h.apow, h.aheal, h.p, h.d, hl⟩
 ·exact ⟨h.name, h.kind, h.cost, h.power, h.health, h.shield, u7 ha, u7 hb, h.p, h.d, h.w⟩
 ·exact ⟨h.name, h.kind, h.cost, h.power, h.health, u7 ha, h.apow, h.aheal, h.p, h.d, h.w⟩
theorem Lt (hL : 0 <= L) (n : Nat) (a : Int) (hg : GW L ts) : wx L (fd yD n a ts) fun c => ∃ s, um c = some s := by
 unfold fd;have h0 : QB 0 [] := fun x h => by cases h
 refine (gW hL hg).bind fun s ts hs hg => (wx.bind (Q := CI) (.ite (fun _ => (xj hL hg.tail).bind fun c ts hc hg => (xj hL hg).bind fun p ts hp hg => (yJ hL hg _).bind fun _ ts _ hg => (xj hL hg).bind fun e ts he hg => .ret ?_ hg) fun _ => (yJ hL hg _).bind fun _ ts _ hg => (xj hL hg).bind fun c ts hc hg => .ret ?_ hg)
  fun c ts hc hg => (yJ hL hg _).bind fun _ ts _ hg => (cL hL (VM hL n) n [] c ts hc hg).mono fun c ⟨h1, h2⟩ => h1.some h2)
 ·exact ⟨hs, rfl, u7 hc, u7 hp, u7 he, rfl, rfl, rfl, h0, h0, h0⟩
 ·exact ⟨hs, rfl, u7 hc, rfl, rfl, rfl, rfl, rfl, h0, h0, h0⟩
structure FI (f : y6) : Prop where
 name : yL f.name = true
 least : yN f.least = true
 most : yN f.most = true
 copies : yN f.copies = true
 b : ∀ s ∈ f.banned, yL s = true
 s : ∀ s ∈ f.single, yL s = true
theorem FI.some {f : y6} (h : FI f) : ∃ s, fw f = some s := ⟨_, by unfold fw; rw [if_pos ⟨h.name, h.least, h.most, h.copies, List.all_eq_true.2 h.b, List.all_eq_true.2 h.s⟩]⟩
theorem dP (hL : 0 <= L) : ∀ (n : Nat) (acc : List Bt) (ts : List yf), (∀ s ∈ acc, yL s = true) -> GW L ts -> wx L (uH n acc ts) fun l => ∀ s ∈ l, yL s = true
 | 0, _, _, _, _ => .out
 | n + 1, acc, ts, ha, hg => by
   unfold uH;refine (gW hL hg).bind fun s ts hs hg => ?_
   have h2 : ∀ x ∈ acc ++ [s], yL x = true := fun x hx => by
    rcases List.mem_append.1 hx with hx | hx
    ·exact ha x hx
    ·rw [List.mem_singleton.1 hx]; exact hs
   exact .ite (fun _ => dP hL n _ _ h2 hg.tail) fun _ => .ret h2 hg
theorem Qu (hL : 0 <= L) (n : Nat) (s : Bt) (f : y6) (ts : List yf) (h : FI f) (hg : GW L ts) : wx L (xJ n s f ts) FI := by
 have h0 : ∀ s ∈ ([] : List Bt), yL s = true := fun s h => by cases h
 unfold xJ
 refine .ite (fun _ => (xj hL hg).bind fun a ts ha hg => (yJ hL hg _).bind fun _ ts _ hg => .ret ?_ hg) fun _ => .ite (fun _ => (xj hL hg).bind fun a ts ha hg => (yJ hL hg _).bind fun _ ts _ hg => .ret ?_ hg) fun _ => .ite (fun _ => (xj hL hg).bind fun a ts ha hg => (yJ hL hg _).bind fun _ ts _ hg => .ret ?_ hg) fun _ =>
  .ite (fun _ => (dP hL n [] ts h0 hg).bind fun l ts hl hg => (yJ hL hg _).bind fun _ ts _ hg => .ret ?_ hg) fun _ => (dP hL n [] ts h0 hg).bind fun l ts hl hg => (yJ hL hg _).bind fun _ ts _ hg => .ret ?_ hg
 ·exact ⟨h.name, u7 ha, h.most, h.copies, h.b, h.s⟩
 ·exact ⟨h.name, h.least, u7 ha, h.copies, h.b, h.s⟩
 ·exact ⟨h.name, h.least, h.most, u7 ha, h.b, h.s⟩
 ·exact ⟨h.name, h.least, h.most, h.copies, hl, h.s⟩
 ·exact ⟨h.name, h.least, h.most, h.copies, h.b, hl⟩
theorem Kg (hL : 0 <= L) (n : Nat) (a : Int) (hg : GW L ts) : wx L (Yf n a ts) fun f => ∃ s, fw f = some s := by
 have h0 : ∀ s ∈ ([] : List Bt), yL s = true := fun s h => by cases h
 unfold Yf;exact (gW hL hg).bind fun s ts hs hg => (yJ hL hg _).bind fun _ ts _ hg => (cL hL (Qu hL n) n [] _ ts ⟨hs, rfl, rfl, rfl, h0, h0⟩ hg).mono fun f ⟨h1, _⟩ => h1.some
structure BI (b : ew) : Prop where
 lc : b.cards.length <= 240
 lf : b.fmts.length <= 240
 c : ∀ c ∈ b.cards, ∃ s, um c = some s
 f : ∀ f ∈ b.fmts, ∃ s, fw f = some s
theorem KG : ∀ {l : List (Option Bt)}, (∀ x ∈ l, ∃ t, x = some t) -> ∃ s, jV l = some s
 | [], _ => ⟨_, rfl⟩
 | x :: r, h => by
   obtain ⟨t, rfl⟩ := h x (.head _);obtain ⟨u, hu⟩ := KG (l := r) fun y hy => h y (.tail _ hy);exact ⟨_, by rw [jV, hu]; rfl⟩
variable {b : ew}
theorem BI.some (h : BI b) : ∃ s, gF b = some s := by
 unfold gF;rw [if_pos ⟨h.lc, h.lf⟩];refine KG fun x hx => ?_;rcases List.mem_append.1 hx with hx | hx
 ·obtain ⟨c, hc, rfl⟩ := List.mem_map.1 hx;exact h.c c hc
 ·obtain ⟨f, hf, rfl⟩ := List.mem_map.1 hx;exact h.f f hf
theorem YJ (hL : 0 <= L) (n0 : Nat) : ∀ (n : Nat) (cs : List zP) (fs : List y6) (ts : List yf), BI ⟨cs, fs⟩ -> GW L ts -> wx L (jJ yD n0 n cs fs ts) BI
 | 0, _, _, _, _, _ => .out
 | n + 1, cs, fs, ts, hb, hg => by
   unfold jJ;have hlc := hb.lc;have hlf := hb.lf;dsimp only at hlc hlf
   refine .ite (fun _ => .ret hb hg) fun _ => .ite (fun _ => .ite (fun _ => .fail hL hg) fun h => (Lt hL n0 _ hg.tail).bind fun c ts hc hg => YJ hL n0 n _ _ ts ⟨?_, hb.lf, fun x hx => ?_, hb.f⟩ hg) fun _ =>
    .ite (fun _ => .ite (fun _ => .fail hL hg) fun h => (Kg hL n0 _ hg.tail).bind fun f ts hf hg => YJ hL n0 n _ _ ts ⟨hb.lc, ?_, hb.c, fun x hx => ?_⟩ hg) fun _ => .fail hL hg
   ·simp only [List.length_append, List.length_cons, List.length_nil];omega
   ·rcases List.mem_append.1 hx with hx | hx
    ·exact hb.c x hx
    ·rw [List.mem_singleton.1 hx]; exact hc
   ·simp only [List.length_append, List.length_cons, List.length_nil];omega
   ·rcases List.mem_append.1 hx with hx | hx
    ·exact hb.f x hx
    ·rw [List.mem_singleton.1 hx]; exact hf
def Y7 (s : Bt) : R ew := match gN s with
 | .error (e, a) => .bad e (a : Int)
 | .ok ws => jJ yD ws.length (ws.length + 1) [] [] ws
variable {s : Bt}
theorem H4 : ∀ (d p : Nat) (acc : List yf) (e : Int) (a : Nat), s.length - p = d -> p <= s.length -> Xy s p acc = .error (e, a) -> a <= s.length := by
 intro d
 induction d using Nat.strongRecOn with
 | _ d ih =>
 intro p acc e a hd hp h;rw [Xy] at h
 split at h
 ·rename_i hlt
  cases hs : wA s p with
  | err e' a' =>
    rw [hs] at h;cases h;unfold wA at hs;cases hx : rn s p with
    | none => rw [hx] at hs; cases hs; exact hp
    | some c =>
      obtain ⟨x, k⟩ := c;rw [hx] at hs;dsimp only at hs
      split at hs
      ·cases hs
      split at hs
      ·split at hs
       ·rename_i a2 hrem
        cases hs
        have : ∀ (d p a : Nat), s.length - p = d -> j3 s p = .inl a -> a <= s.length := by
         intro d
         induction d using Nat.strongRecOn with
         | _ d ih =>
         intro p a hd h;rw [j3] at h
         split at h
         ·rename_i hpl
          split at h
          ·cases h; omega
          ·rename_i x k hk
           have := ue hk;exact ih (s.length - (p + k)) za (p + k) a rfl h
         ·cases h
        exact this _ p _ rfl hrem
       ·cases hs
      split at hs
      ·unfold au at hs
       split at hs
       ·cases hs; exact hp
       ·cases hs
      split at hs
      ·unfold ag at hs
       split at hs
       ·cases hs; exact hp
       split at hs
       ·cases hs; exact hp
       ·cases hs
      ·unfold eE at hs
       split at hs
       ·cases hs; exact hp
       ·cases hs
  | next q us =>
    rw [hs] at h;dsimp only at h
    split at h
    ·rename_i hpq
     have hq := (qq hlt hs).2.len hp;exact ih (s.length - q) za q _ e a rfl hq h
    ·cases h
 ·cases h
variable {a : Nat} {e : Int}
theorem Pu {p : Nat} (h : wA s p = .err e a) : e ≠ 0 := by
 unfold wA at h
 split at h
 ·cases h; decide
 ·split at h
  ·cases h
  ·split at h
   ·split at h
    ·cases h; decide
    ·cases h
   ·split at h
    ·unfold au at h
     split at h
     ·cases h; decide
     ·cases h
    ·split at h
     ·unfold ag at h
      split at h
      ·cases h; decide
      ·split at h
       ·cases h; decide
       ·cases h
     ·unfold eE at h
      split at h
      ·cases h; decide
      ·cases h
theorem Ep : ∀ {p : Nat} {acc : List yf}, Xy s p acc = .error (e, a) -> e ≠ 0 := by
 intro p acc
 fun_induction Xy s p acc with
 | case1 p acc hp e' a' h => intro hw; cases hw; exact Pu h
 | case2 p acc hp q us h hq ih => exact ih
 | case3 p acc hp q us h hq => exact absurd (qq hp h).1 hq
 | case4 => intro h; cases h
theorem T5 (h : gN s = .error (e, a)) : e ≠ 0 := by
 unfold gN at h
 split at h
 ·cases h; decide
 ·exact Ep h
theorem bw (s : Bt) : wx s.length (Y7 s) BI := by
 unfold Y7;cases hc : gN s with
 | error r =>
   obtain ⟨e, a⟩ := r;refine ⟨fun x ts h => (by cases h), fun e' a' h => ?_⟩;cases h;refine ⟨T5 hc, Int.natCast_nonneg _, ?_⟩;unfold gN at hc
   split at hc
   ·cases hc; exact Int.natCast_nonneg _
   ·have := H4 _ 0 [] e a rfl (Nat.zero_le _) hc;omega
 | ok ws => exact YJ (Int.natCast_nonneg _) _ _ [] [] ws ⟨Nat.zero_le _, Nat.zero_le _, fun c h => (by cases h), fun f h => (by cases h)⟩ (Kq hc)
theorem Dn {t : Bt} (h : gZ b = (t, 0)) : ∃ y ts, Y7 t = .ok y ts /\ y.cards.map X3 = b.cards.map X3 /\ y.fmts.map V2 = b.fmts.map V2 := by
 unfold gZ at h;cases hb : gF b with
 | none => rw [hb] at h; cases h
 | some s =>
   rw [hb] at h;dsimp only at h
   split at h
   ·cases h
   ·cases h;obtain ⟨ws, y, ts, h1, h2, h3, h4⟩ := Lx hb za;exact ⟨y, ts, by unfold Y7; rw [h1]; exact h2, h3, h4⟩
theorem Dm {x : ew} (h : Y7 s = .ok x ts) : (∃ t, gZ x = (t, 0)) \/ gZ x = ([], 3) := by
 obtain ⟨t, ht⟩ := ((bw s).ok x ts h).1.some;unfold gZ;rw [ht];dsimp only
 split
 ·exact .inr rfl
 ·exact .inl ⟨t, rfl⟩
end Tp
namespace Tp
open Go Go.Eng Wd Kd
variable {L : Int}
theorem KI (hL : 0 <= L) {a : Int} (n : Nat) (s : Bt) (c : zP) (ts : List yf) (h : c.at_ = a) (hg : GW L ts) : wx L (xp n s c ts) fun c => c.at_ = a := by
 unfold xp
 exact .ite (fun _ => (jA hL n 0 ts hg).bind fun l ts hl hg => .ret h hg) fun _ => .ite (fun _ => (jA hL n 0 ts hg).bind fun l ts hl hg => .ret h hg) fun _ => .ite (fun _ => (jA hL n 0 ts hg).bind fun l ts hl hg => .ret h hg) fun _ =>
  .ite (fun _ => (xj hL hg).bind fun a ts ha hg => (yJ hL hg _).bind fun _ ts _ hg => (xj hL hg).bind fun b ts hb hg => (yJ hL hg _).bind fun _ ts _ hg => .ret h hg) fun _ => (xj hL hg).bind fun a ts ha hg => (yJ hL hg _).bind fun _ ts _ hg => .ret h hg
variable {ts : List yf}
theorem Rq (hL : 0 <= L) (n : Nat) (a : Int) (hg : GW L ts) : wx L (fd yD n a ts) fun c => c.at_ = a := by
 unfold fd
 exact (gW hL hg).bind fun s ts hs hg => (wx.bind (Q := fun c => c.at_ = a) (.ite (fun _ => (xj hL hg.tail).bind fun c ts hc hg => (xj hL hg).bind fun p ts hp hg => (yJ hL hg _).bind fun _ ts _ hg => (xj hL hg).bind fun e ts he hg => .ret rfl hg) fun _ => (yJ hL hg _).bind fun _ ts _ hg => (xj hL hg).bind fun c ts hc hg => .ret rfl hg)
  fun c ts hc hg => (yJ hL hg _).bind fun _ ts _ hg => (cL hL (KI hL n) n [] c ts hc hg).mono fun c h => h.1)
theorem QM (hL : 0 <= L) (n0 : Nat) : ∀ (n : Nat) (cs : List zP) (fs : List y6) (ts : List yf), (∀ c ∈ cs, 0 <= c.at_ /\ c.at_ <= L) -> GW L ts -> wx L (jJ yD n0 n cs fs ts) fun b => ∀ c ∈ b.cards, 0 <= c.at_ /\ c.at_ <= L
 | 0, _, _, _, _, _ => .out
 | n + 1, cs, fs, ts, hb, hg => by
   unfold jJ
   refine .ite (fun _ => .ret hb hg) fun _ => .ite (fun _ => .ite (fun _ => .fail hL hg) fun h => (Rq hL n0 _ hg.tail).bind fun c ts hc hg2 => QM hL n0 n _ _ ts (fun x hx => ?_) hg2) fun _ =>
    .ite (fun _ => .ite (fun _ => .fail hL hg) fun h => (Kg hL n0 _ hg.tail).bind fun f ts hf hg => QM hL n0 n _ _ ts hb hg) fun _ => .fail hL hg
   rcases List.mem_append.1 hx with hx | hx
   ·exact hb x hx
   ·rw [List.mem_singleton.1 hx, hc];exact ⟨(hg.hd hL).lo, (hg.hd hL).hi⟩
theorem PE (s : Bt) {b : ew} (h : Y7 s = .ok b ts) : ∀ c ∈ b.cards, 0 <= c.at_ /\ c.at_ <= s.length := by
 unfold Y7 at h;cases hc : gN s with
 | error p =>
   obtain ⟨e, a⟩ := p;rw [hc] at h;cases h
 | ok ws =>
   rw [hc] at h;exact ((QM (Int.natCast_nonneg _) _ _ _ _ _ (fun c h => by cases h) (Kq hc)).ok b ts h).1
end Tp
section
open Wd Tp Kd La
variable {m : Mp}
variable {n : Int}
theorem Is (h1 : -9223372036854775808 <= n) (h2 : n <= 9223372036854775807) : (Lit.int .i64 n).wf = true := by
 simp [Lit.wf, IntKind.min, IntKind.max, IntKind.signed, IntKind.bits]
 omega
theorem V4 (h : yN n = true) : 0 <= n /\ n <= 999 := of_decide_eq_true h
theorem eB (h : yN n = true) : (Lit.int .i64 n).wf = true := Is (by have := V4 h; omega) (by have := V4 h; omega)
theorem bi.r {vs : Lv} {c : zP} (h : bi m vs c) (hn : ko c = true) (ha : 0 <= c.at_ /\ c.at_ <= 9223372036854775807) : cC m vs c := by
 obtain ⟨q, rfl, h1, h2, h3, h4⟩ := h;unfold ko at hn;simp only [Bool.and_eq_true] at hn;exact ⟨q.A, _, q.ca, q.B, _, q.cb, q.D, _, q.cd, rfl, by unfold maxLen; omega, h2, h3, h4, eB hn.1.1.1.1.1, eB hn.1.1.1.1.2, eB hn.1.1.1.2, eB hn.1.1.2, eB hn.1.2, eB hn.2, Is za ha.2⟩
structure Ip (l : List zP) : Prop where
 n : l.length <= 240
 c : ∀ c ∈ l, ko c = true /\ (0 <= c.at_ /\ c.at_ <= 9223372036854775807) /\ yD c <= 200
variable {A : Oa} {l : List zP}
theorem kM.r (h : kM m A l) (hn : Ip l) : ep m A l.length l := by
 obtain ⟨vs, h1, h2, h3⟩ := h;exact ⟨rfl, by have := hn.n; unfold maxLen; omega, vs, h1, h2, fun i hi => bi.r (h3 i hi) (hn.c _ (List.getElem_mem hi)).1 (hn.c _ (List.getElem_mem hi)).2.1⟩
theorem kM.name (h : kM m A l) (i : Nat) (hi : i < l.length) : l[i].name.length <= 65536 := by
 obtain ⟨vs, -, -, h3⟩ := h;obtain ⟨q, -, h, -⟩ := h3 i hi;exact h
variable {b : ew}
theorem MT {s : Bt} (hs : s.length <= 9223372036854775807) {ts : List yf} (h : jI s = .ok b ts) : Ip b.cards := by
 have h1 := ((bw s).ok b ts h).1;refine ⟨h1.lc, fun c hc => ?_⟩;obtain ⟨t, ht⟩ := h1.c c hc;obtain ⟨-, -, h2, h3, -⟩ := fD ht;have h4 := PE s h c hc;exact ⟨h2, ⟨h4.1, by omega⟩, h3⟩
theorem cz {F : Oa} {l : List y6} (h : am m F l) : ∀ f ∈ l, Hz f := by
 obtain ⟨vs, -, -, h3⟩ := h;intro f hf;obtain ⟨i, hi, rfl⟩ := List.getElem_of_mem hf;obtain ⟨q, -, ho, -⟩ := h3 i hi;exact ho
theorem dm : ∀ l : List zP, (j5 l = [0, 0] /\ ∀ x ∈ l, qb x = true) \/ (∃ a, j5 l = [140, a]) /\ ¬ ∀ x ∈ l, qb x = true
 | [] => .inl ⟨rfl, fun x h => by cases h⟩
 | x :: r => by
   unfold j5;by_cases hx : qb x = true
   ·rw [if_pos hx];rcases dm r with ⟨h1, h2⟩ | ⟨h1, h2⟩
    ·refine .inl ⟨h1, fun y hy => ?_⟩;rcases List.mem_cons.1 hy with rfl | hy
     ·exact hx
     ·exact h2 y hy
    ·exact .inr ⟨h1, fun h => h2 fun y hy => h y (.tail _ hy)⟩
   ·rw [if_neg hx];exact .inr ⟨⟨_, rfl⟩, fun h => hx (h x (.head _))⟩
def Hw (l : List zP) (e a : Int) : Prop := (e = 0 /\ a = 0 /\ ∀ x ∈ l, qb x = true) \/ (e = 140 /\ ¬ ∀ x ∈ l, qb x = true)
theorem Np {c : Nat} (hC : ep m A l.length l) : CS Tryz.prog 24 [.slice A l.length c] m [] (fun v L' => L' = [] /\ ∃ e a, v = xb e a /\ Hw l e a) := fun h hs => (LU hC h hs.base).mono fun v h' ⟨hv, hle⟩ => by
 rcases dm l with ⟨h1, h2⟩ | ⟨⟨a, h1⟩, h2⟩
 ·rw [h1] at hv;exact ⟨[], ⟨rfl, 0, 0, hv, .inl ⟨rfl, rfl, h2⟩⟩, hs.le hle⟩
 ·rw [h1] at hv;exact ⟨[], ⟨rfl, 140, a, hv, .inr ⟨rfl, h2⟩⟩, hs.le hle⟩
structure eo (b : ew) : Prop where
 n : b.cards.length <= 240
 k : ∀ (i : Nat) (h : i < b.cards.length), Xw b.cards i h
 l : ∀ x ∈ b.cards, qb x = true
 f : ∀ (i : Nat) (h : i < b.fmts.length), gb b.cards i (qX b.fmts i) b.fmts[i]
def Pj (b : ew) (e a : Int) : Prop := (e = 0 /\ a = 0 /\ eo b) \/ (e ≠ 0 /\ ¬ eo b /\ (b.cards = [] -> gn b e a))
variable {a e : Int}
theorem kL.cases (h : kL l e a) : (e = 0 /\ a = 0 /\ l.length <= 240 /\ ∀ (i : Nat) (h : i < l.length), Xw l i h) \/ (e ≠ 0 /\ l ≠ [] /\ ¬ (l.length <= 240 /\ ∀ (i : Nat) (h : i < l.length), Xw l i h)) := by
 rcases h with ⟨h1, rfl, rfl⟩ | ⟨h1, ⟨rfl, rfl, h2⟩ | ⟨i, hi, -, -, h2⟩⟩
 ·exact .inr ⟨by decide, fun h => by rw [h] at h1; exact absurd h1 zb, fun h => by omega⟩
 ·exact .inl ⟨rfl, rfl, h1, h2⟩
 ·have hl : l ≠ [] := fun h => by subst h; exact absurd hi (Nat.not_lt_zero _)
  rcases h2 with ⟨rfl, h3⟩ | ⟨rfl, -, h3⟩
  ·exact .inr ⟨by decide, hl, fun h => (h.2 i hi).1 h3⟩
  ·exact .inr ⟨by decide, hl, fun h => h3 (h.2 i hi).2⟩
theorem gn.cases (h : gn b e a) : (e = 0 /\ a = 0 /\ ∀ (i : Nat) (h : i < b.fmts.length), gb b.cards i (qX b.fmts i) b.fmts[i]) \/ (e ≠ 0 /\ ¬ ∀ (i : Nat) (h : i < b.fmts.length), gb b.cards i (qX b.fmts i) b.fmts[i]) := by
 rcases h with h | ⟨i, hi, -, h2, rfl, -⟩
 ·exact .inl h
 ·exact .inr ⟨by decide, fun h => h2 (h i hi)⟩
structure HF (b : ew) : Prop where
 c : b.cards.length <= 240 -> ∀ (i : Nat) (h : i < b.cards.length), b.cards[i].name.length <= 140737488355328 /\ ZU b.cards[i] <= 3999
 f : Dz b
 n : ∀ f ∈ b.fmts, f.name.length <= 140737488355328
section
variable {K F : Oa} {kc fc : Nat} {b : ew}
variable {b0 : Nat}
theorem Dl (hT : xU m) (hB : At m ⟨b0, 0, none⟩ (KP K b.cards.length kc F b.fmts.length fc)) (hR : ep m K b.cards.length b.cards) (hz : HF b) : CS Tryz.prog 21 [zS b0] m [] (fun v L' => L' = [] /\ ∃ e a, v = xb e a /\ kL b.cards e a) := by
 have h0 : mc m ⟨b0, 0, none⟩ = some (.slice K b.cards.length kc) := hB.at_ (o := 0) rfl;refine yQ [.cell 1 31] Tryz.func21 rfl rfl rfl ?_;refine tr 2 ?_;refine Al 5 wR fun b1 => ?_;refine Lo 0 b8 rfl h0 ?_;refine zg ((yK CK rfl (fun m' hm he => FB (hT.mono hm) (hR.mono hm) hz.c) rfl ?_)) rfl;rintro _ _ ⟨rfl, e, a, rfl, hp⟩;unfold xb;refine Sg 3 y5 .here ?_
 exact yn [_] ⟨⟨b1, _, _, _, rfl, .here, .inr ⟨rfl, rfl⟩⟩, trivial⟩ [] ya ⟨rfl, e, a, rfl, hp⟩
theorem Dj (hB : At m ⟨b0, 0, none⟩ (KP K b.cards.length kc F b.fmts.length fc)) (hR : ep m K b.cards.length b.cards) : CS Tryz.prog 23 [zS b0] m [] (fun v L' => L' = [] /\ ∃ e a, v = xb e a /\ Hw b.cards e a) := by
 have h0 : mc m ⟨b0, 0, none⟩ = some (.slice K b.cards.length kc) := hB.at_ (o := 0) rfl;refine yQ [.cell 1 31] Tryz.func23 rfl rfl rfl ?_;refine tr 2 ?_;refine Al 5 wR fun b1 => ?_;refine Lo 0 b8 rfl h0 ?_;refine zg ((yK CH rfl (fun m' hm he => Np (hR.mono hm)) rfl ?_)) rfl;rintro _ _ ⟨rfl, e, a, rfl, hp⟩;unfold xb;refine Sg 3 y5 .here ?_
 exact yn [_] ⟨⟨b1, _, _, _, rfl, .here, .inr ⟨rfl, rfl⟩⟩, trivial⟩ [] ya ⟨rfl, e, a, rfl, hp⟩
theorem Di (hT : xU m) (hB : At m ⟨b0, 0, none⟩ (KP K b.cards.length kc F b.fmts.length fc)) (hC : jc m K b.cards) (hF : gH m F b.fmts) (hz : HF b) : CS Tryz.prog 25 [zS b0] m [] (fun v L' => L' = [] /\ ∃ e a, v = xb e a /\ gn b e a) := by
 refine yQ [.cell 1 31] Tryz.func25 rfl rfl rfl ?_;refine tr 2 ?_;refine Al 4 wR fun b1 => ?_;refine La 0 jB hB ?_;refine zg ((yK CF rfl (fun m' hm he => H6 (hT.mono hm) (hC.mono hm) (hF.mono hm) hz.f hz.n) rfl ?_)) rfl;rintro _ _ ⟨rfl, e, a, rfl, hp⟩;unfold xb;refine Sg 3 y5 .here ?_
 exact yn [_] ⟨⟨b1, _, _, _, rfl, .here, .inr ⟨rfl, rfl⟩⟩, trivial⟩ [] ya ⟨rfl, e, a, rfl, hp⟩
abbrev Ff (f : FuncId) (b0 : Nat) : Value := .func (.func f) [].toArray [zS b0].toArray
theorem HG (hT : xU m) (hR : ep m K b.cards.length b.cards) (hC : jc m K b.cards) (hF : gH m F b.fmts) (hz : HF b) : CS Tryz.prog 10 [.agg (KP K b.cards.length kc F b.fmts.length fc).toArray] m [] (fun v L' => L' = [] /\ ∃ e a, v = xb e a /\ Pj b e a) := by
 refine yQ [.cell 2 31] Tryz.func10 rfl rfl rfl ?_;refine tr 2 ?_;refine Bx 0 rfl fun b1 => ?_;refine Al 8 wR fun b2 => ?_;refine pe 4 (uR Rx DQ rfl rfl) ?_
 refine yv (α := Nat) (fun i => [(2, zS b2), (9, .agg [Ff 21 b1, Ff 23 b1, Ff 25 b1].toArray), (10, .int .i64 (i : Nat))]) (fun _ => [cel b2 [.int .i64 0, .int .i64 0] 31, cel b1 (KP K b.cards.length kc F b.fmts.length fc) 25]) (fun i => i <= 3 /\ (0 < i -> b.cards.length <= 240 /\ ∀ (i : Nat) (h : i < b.cards.length), Xw b.cards i h) /\ (1 < i -> ∀ x ∈ b.cards, qb x = true) /\ (2 < i -> ∀ (i : Nat) (h : i < b.fmts.length), gb b.cards i (qX b.fmts i) b.fmts[i])) (fun i => 3 - i) 0 YV zx ⟨Nat.zero_le _, fun h => absurd h zb, fun h => absurd h zb, fun h => absurd h zb⟩ ?_
 rintro i ⟨hi, hk, hlb, hfm⟩;have hc4 : i = 0 \/ i = 1 \/ i = 2 \/ i = 3 := by omega
 rcases hc4 with rfl | rfl | rfl | rfl
 ·refine tr 2 ?_;refine y4 10 ?_;refine pe 6 ((ub Rx OC rfl rfl za za rfl)) ?_;refine zg ((uP (p := []) (q := [zS b1]) CL rfl rfl (fun m' hm he => Dl (hT.mono hm) (At.blk (he _ (.tail _ (.head _)))) (hR.mono hm) hz) rfl ?_)) rfl;rintro _ _ ⟨rfl, e, a, rfl, hp⟩;unfold xb;rcases hp.cases with ⟨rfl, rfl, h1⟩ | ⟨hne, hcl, hno⟩
  ·refine Al 0 wR fun b3 => ?_;refine Sg 5 y5 .here ?_;refine Lb 0 cI .here ?_;refine zH 7 ?_;refine Pa 2 ?_;exact QR (1 : Nat) (.cons .h1 .p1) ⟨by omega, fun _ => h1, fun h => absurd h zb, fun h => absurd h zb⟩ zb
  ·refine Al 0 wR fun b3 => ?_;refine Sg 5 y5 .here ?_;refine Lb 0 cI .here ?_;refine yr 5 ?_;refine Lc 0 y5 .here ?_;refine Sg 5 y5 .h1 ?_;refine zu ?_;refine zp ?_;refine zD ?_;exact yn [_] ⟨⟨b2, _, _, _, rfl, .h1, .inr ⟨rfl, rfl⟩⟩, trivial⟩ [] ya ⟨rfl, e, a, rfl, .inr ⟨hne, fun h => hno ⟨h.n, h.k⟩, fun h => absurd h hcl⟩⟩
 ·refine tr 2 ?_;refine y4 10 ?_;refine pe 6 ((ub Rx OC rfl rfl za za rfl)) ?_;refine zg ((uP (p := []) (q := [zS b1]) CJ rfl rfl (fun m' hm he => Dj (At.blk (he _ (.tail _ (.head _)))) (hR.mono hm)) rfl ?_)) rfl;rintro _ _ ⟨rfl, e, a, rfl, hp⟩;unfold xb;rcases hp with ⟨rfl, rfl, h1⟩ | ⟨rfl, hno⟩
  ·refine Al 0 wR fun b3 => ?_;refine Sg 5 y5 .here ?_;refine Lb 0 cI .here ?_;refine zH 7 ?_;refine Pa 2 ?_;exact QR (2 : Nat) (.cons .h1 .p1) ⟨by omega, fun _ => hk zb, fun _ => h1, fun h => absurd h zb⟩ zb
  ·refine Al 0 wR fun b3 => ?_;refine Sg 5 y5 .here ?_;refine Lb 0 cI .here ?_;refine y4 5 ?_;refine Lc 0 y5 .here ?_;refine Sg 5 y5 .h1 ?_;refine zu ?_;refine zp ?_;refine zD ?_
   exact yn [_] ⟨⟨b2, _, _, _, rfl, .h1, .inr ⟨rfl, rfl⟩⟩, trivial⟩ [] ya ⟨rfl, 140, a, rfl, .inr ⟨by decide, fun h => hno h.l, fun h => absurd (by rw [h]; exact fun x h => by cases h) hno⟩⟩
 ·refine tr 2 ?_;refine y4 10 ?_;refine pe 6 ((ub Rx OC rfl rfl za za rfl)) ?_;refine zg ((uP (p := []) (q := [zS b1]) CG rfl rfl (fun m' hm he => Di (hT.mono hm) (At.blk (he _ (.tail _ (.head _)))) (hC.mono hm) (hF.mono hm) hz) rfl ?_)) rfl;rintro _ _ ⟨rfl, e, a, rfl, hp⟩;unfold xb;have hp0 := hp;rcases hp.cases with ⟨rfl, rfl, h1⟩ | ⟨hne, hno⟩
  ·refine Al 0 wR fun b3 => ?_;refine Sg 5 y5 .here ?_;refine Lb 0 cI .here ?_;refine zH 7 ?_;refine Pa 2 ?_;exact QR (3 : Nat) (.cons .h1 .p1) ⟨by omega, fun _ => hk zb, fun _ => hlb zb, fun _ => h1⟩ zb
  ·refine Al 0 wR fun b3 => ?_;refine Sg 5 y5 .here ?_;refine Lb 0 cI .here ?_;refine yr 5 ?_;refine Lc 0 y5 .here ?_;refine Sg 5 y5 .h1 ?_;refine zu ?_;refine zp ?_;refine zD ?_;exact yn [_] ⟨⟨b2, _, _, _, rfl, .h1, .inr ⟨rfl, rfl⟩⟩, trivial⟩ [] ya ⟨rfl, e, a, rfl, .inr ⟨hne, fun h => hno h.f, fun _ => hp0⟩⟩
 ·refine tr 2 ?_;refine zH 6 ?_;refine zm ?_;refine zk ?_;refine qt 3 ?_;refine pe 0 (zA wR kx rfl rfl) ?_;refine Sg 3 y5 .here ?_;exact yn [_] ⟨⟨b2, _, _, _, rfl, .here, .inr ⟨rfl, rfl⟩⟩, trivial⟩ [] ya ⟨rfl, 0, 0, rfl, .inl ⟨rfl, rfl, ⟨(hk zb).1, (hk zb).2, hlb zb, hfm zb⟩⟩⟩
end
def FF (s : Bt) (v : Value) (L' : List yb) : Prop :=
 (∃ bk ts K kc F fc e, jI s = .ok bk ts /\ eo bk /\ v = .tuple [DL K bk.cards.length kc F bk.fmts.length fc, xb 0 0].toArray /\ L' = [e] /\ bk.cards.length <= 240 /\ bk.fmts.length <= 240 /\ ∀ ns, e.inv ns -> kM ns K bk.cards /\ am ns F bk.fmts) \/
 (∃ e a, v = .tuple [DL none 0 0 none 0 0, xb e a].toArray /\ L' = [] /\ e ≠ 0 /\ (jI s = .bad e a \/ ∃ bk ts, jI s = .ok bk ts /\ ¬ eo bk /\ (bk.cards = [] -> gn bk e a)))
theorem KD {b : ew} {K F : Oa} (hN : Ip b.cards) (hf : b.fmts.length <= 240) (hC : kM m K b.cards) (hF : am m F b.fmts) : HF b :=
 ⟨fun _ i hi => ⟨by have := hC.name i hi; omega, by have := (hN.c _ (List.getElem_mem hi)).2.2; exact Nat.le_trans this zb⟩, ⟨by have := hN.n; omega, by omega, fun f h => by have := cz hF f h; exact ⟨Nat.le_trans this.ban zb, Nat.le_trans this.sin zb⟩⟩, fun f h => Nat.le_trans (cz hF f h).name zb⟩
theorem Hs (hT : xU m) {s : Bt} (hs : s.length <= 9223372036854775807) : CS Tryz.prog 9 [.string (bs s)] m [] (FF s) := by
 skip;refine yQ [.cell 2 25, .cell 3 31] Tryz.func9 rfl rfl rfl ?_;refine tr 2 ?_;refine Al 0 Z9 fun b1 => ?_;refine Al 5 wR fun b2 => ?_;refine zg ((yK CM rfl (fun m' hm he => RO (hT.mono hm) hs) rfl ?_)) rfl;rintro _ _ hq;rcases hq with ⟨bk, ts, K, kc, F, fc, en, h1, rfl, rfl, h2, h3, h4⟩ | ⟨e, a, h1, rfl, rfl⟩
 ·have hN := MT hs h1;unfold xb;refine vr 3 ?_;refine Al 0 Z9 fun b3 => ?_;refine Al 0 wR fun b4 => ?_;refine Sg 0 jB .h1 ?_;refine Sg 6 y5 .here ?_;refine Lb 0 cI .here ?_;refine xf 4 ?_;refine Lc 0 jB .h1 ?_
  refine zg ((yK Dh rfl (fun m' hm he => HG (hT.mono hm) ((h4 m' (he _ (.tail _ (.tail _ (.head _))))).1.r hN) (h4 m' (he _ (.tail _ (.tail _ (.head _))))).1.x (h4 m' (he _ (.tail _ (.tail _ (.head _))))).2.x (KD hN h3 (h4 m' (he _ (.tail _ (.tail _ (.head _))))).1 (h4 m' (he _ (.tail _ (.tail _ (.head _))))).2)) rfl ?_)) rfl;rintro _ _ ⟨rfl, e, a, rfl, hp⟩;unfold xb
  rcases hp with ⟨rfl, rfl, hok⟩ | ⟨hne, hno, hfm⟩
  ·refine Sg 6 y5 .here ?_;refine Lb 0 cI .here ?_;refine zH 7 ?_;refine Lc 0 jB .h1 ?_;refine pe 0 (zA wR kx rfl rfl) ?_;refine Sg 0 jB .h4 ?_;refine Sg 3 y5 .h3 ?_;exact yn [_, _] ⟨⟨b1, _, _, _, rfl, .h4, .inr ⟨rfl, rfl⟩⟩, ⟨b2, _, _, _, rfl, .h3, .inr ⟨rfl, rfl⟩⟩, trivial⟩ [en] .p2 (.inl ⟨bk, ts, K, kc, F, fc, en, h1, hok, rfl, rfl, h2, h3, h4⟩)
  ·refine Sg 6 y5 .here ?_;refine Lb 0 cI .here ?_;refine yr 4 ?_;refine yw (sT [0] (.fork (sT [201, 302, 303] .done) (sT [302, 101, 303] .done))) mixed zi (fun _ _ _ _ hq => hq) ?_;refine Vt 0 rfl (zA Z9 PH rfl rfl) ?_;refine kf ?_ ?_;refine qR rfl (wt y5 rfl .here rfl) rfl rfl rfl ?_
   refine zM rfl rfl (zR jB rfl rfl rfl .h4 rfl rfl ?_) rfl;refine zM rfl rfl (zR y5 rfl rfl rfl .h3 rfl rfl ?_) rfl;refine Vm 3 ?_
   ·exact yn [_, _] ⟨⟨b1, _, _, _, rfl, .h4, .inr ⟨rfl, rfl⟩⟩, ⟨b2, _, _, _, rfl, .h3, .inr ⟨rfl, rfl⟩⟩, trivial⟩ [] ya (.inr ⟨e, a, rfl, rfl, hne, .inr ⟨bk, ts, h1, hno, hfm⟩⟩)
   ·refine zM rfl rfl (zR jB rfl rfl rfl .h4 rfl rfl ?_) rfl;refine Vu 0 rfl (wt y5 rfl .here rfl) ?_;refine zM rfl rfl (zR y5 rfl rfl rfl .h3 rfl rfl ?_) rfl;refine Vm 3 ?_;exact yn [_, _] ⟨⟨b1, _, _, _, rfl, .h4, .inr ⟨rfl, rfl⟩⟩, ⟨b2, _, _, _, rfl, .h3, .inr ⟨rfl, rfl⟩⟩, trivial⟩ [] ya (.inr ⟨e, a, rfl, rfl, hne, .inr ⟨bk, ts, h1, hno, hfm⟩⟩)
 ·have hne := ((bw s).bad e a h1).1;unfold xb;refine vr 3 ?_;refine Al 0 Z9 fun b3 => ?_;refine Al 0 wR fun b4 => ?_;refine Sg 0 jB .h1 ?_;refine Sg 6 y5 .here ?_;refine Lb 0 cI .here ?_;refine zF 9 ?_;refine Lb 0 cI .here ?_;refine yr 4 ?_;refine yw (sT [0] (.fork (sT [201, 302, 303] .done) (sT [302, 101, 303] .done))) mixed zi (fun _ _ _ _ hq => hq) ?_
  refine Vt 0 rfl (zA Z9 PH rfl rfl) ?_;refine kf ?_ ?_;refine qR rfl (wt y5 rfl .here rfl) rfl rfl rfl ?_;refine zM rfl rfl (zR jB rfl rfl rfl .h3 rfl rfl ?_) rfl;refine zM rfl rfl (zR y5 rfl rfl rfl .h2 rfl rfl ?_) rfl;refine Vm 3 ?_
  ·exact yn [_, _] ⟨⟨b1, _, _, _, rfl, .h3, .inr ⟨rfl, rfl⟩⟩, ⟨b2, _, _, _, rfl, .h2, .inr ⟨rfl, rfl⟩⟩, trivial⟩ [] ya (.inr ⟨e, a, rfl, rfl, hne, .inl h1⟩)
  ·refine zM rfl rfl (zR jB rfl rfl rfl .h3 rfl rfl ?_) rfl;refine Vu 0 rfl (wt y5 rfl .here rfl) ?_;refine zM rfl rfl (zR y5 rfl rfl rfl .h2 rfl rfl ?_) rfl;refine Vm 3 ?_;exact yn [_, _] ⟨⟨b1, _, _, _, rfl, .h3, .inr ⟨rfl, rfl⟩⟩, ⟨b2, _, _, _, rfl, .h2, .inr ⟨rfl, rfl⟩⟩, trivial⟩ [] ya (.inr ⟨e, a, rfl, rfl, hne, .inl h1⟩)
end
section
open Wd Tp Kd La
def C3 : Bt := [99, 97, 114, 100, 32, 73, 109, 112, 32, 117, 110, 105, 116, 32, 49, 32, 50, 47, 49, 32, 123, 32, 125, 32, 102, 111, 114, 109, 97, 116, 32, 115, 116, 100, 32, 123, 32, 108, 101, 97, 115, 116, 32, 49, 59, 32, 109, 111, 115, 116, 32, 57, 59, 32, 99, 111, 112, 105, 101, 115, 32, 51, 59, 32, 98, 97, 110, 110, 101, 100, 32, 73, 109, 112, 59, 32, 125]
def C2 : Bt := [102, 111, 114, 109, 97, 116, 32, 115, 116, 100, 32, 123, 32, 108, 101, 97, 115, 116, 32, 57, 59, 32, 109, 111, 115, 116, 32, 49, 59, 32, 99, 111, 112, 105, 101, 115, 32, 51, 59, 32, 125]
def L6 : zP := ⟨[73, 109, 112], true, 1, 2, 1, 0, 0, 0, [], [], [], 0⟩
def FV : y6 := ⟨[115, 116, 100], 1, 9, 3, [[73, 109, 112]], [], 24⟩
def DH : y6 := ⟨[115, 116, 100], 9, 1, 3, [], [], 0⟩
def D2 : R ew -> Option ew
 | .ok b _ => some b
 | _ => none
theorem FX : D2 (jI C3) = some ⟨[L6], [FV]⟩ := zi
theorem FW : D2 (jI C2) = some ⟨[], [DH]⟩ := zi
theorem SV : yL [73, 109, 112] = true := zi
theorem SS : yL [115, 116, 100] = true := zi
theorem SU : J1 (uC [L6]) L6 := by
 refine ⟨?_, SV, by decide +kernel, by decide, by decide, ⟨by decide, by decide, fun i h => by cases h⟩, ⟨by decide, by decide, fun i h => by cases h⟩, by decide, by decide, fun i h => by cases h⟩;unfold f5 L6
 decide
theorem Mg : va [L6] [[73, 109, 112]] := by
 refine ⟨fun s hs => ?_, by decide⟩;rw [List.mem_singleton.1 hs];exact List.mem_singleton.2 rfl
theorem ST : va [L6] [] := ⟨fun s hs => (by cases hs), by decide⟩
theorem SW : gb [L6] 0 [] FV := ⟨⟨by decide, SS, by decide, by decide, by decide, by decide, by decide, by decide⟩, Mg, ST⟩
theorem FU : eo ⟨[L6], [FV]⟩ where
 n := by decide
 k := fun i h => by
  obtain rfl : i = 0 := Nat.lt_one_iff.1 h;exact ⟨(by decide : L6.name ∉ ([] : List Bt)), SU⟩
 l := fun x hx => by
  rw [List.mem_singleton.1 hx];exact (by kernel_rfl : qb L6 = true)
 f := fun i h => by
  obtain rfl : i = 0 := Nat.lt_one_iff.1 h;exact SW
theorem R7 : ¬ gb [] 0 [] DH := fun h => absurd h.1.2.2.2.2.1 zb
theorem Mf : ¬ eo ⟨[], [DH]⟩ := fun h => R7 (h.f 0 zb)
theorem Mh {e a : Int} (h : gn ⟨[], [DH]⟩ e a) : e = 151 /\ a = 0 := by
 rcases h with ⟨-, -, h⟩ | ⟨i, hi, -, -, rfl, rfl⟩
 ·exact (R7 (h 0 zb)).elim
 ·obtain rfl : i = 0 := Nat.lt_one_iff.1 hi;exact ⟨rfl, rfl⟩
end
section
open Wd Tp Kd La
variable {m : Mp}
theorem Sf {r : R ew} {b : ew} (h : D2 r = some b) : ∃ ts, r = .ok b ts := by
 cases r with
 | ok x ts => exact ⟨ts, by rw [Option.some.inj h]⟩
 | bad e a => cases h
 | out => cases h
theorem UU (hT : xU m) : CS Tryz.prog 6 [] m [] (vQ (.bool true)) := by
 refine yQ [.tmp 0] Tryz.func6 rfl rfl rfl ?_;obtain ⟨ts1, hw1⟩ := Sf FX;obtain ⟨ts2, hw2⟩ := Sf FW;refine tr 7 ?_;refine zg ((yK DJ rfl (fun m' hm he => Hs (s := C3) (hT.mono hm) zb) rfl ?_)) rfl;rintro _ _ hq;rcases hq with ⟨bk, ts, K, kc, F, fc, en, h1, hok, rfl, rfl, h2, h3, h4⟩ | ⟨e, a, rfl, rfl, hne, h1 | ⟨bk, ts, h1, hno, -⟩⟩
 rotate_left
 ·rw [hw1] at h1; cases h1
 ·rw [hw1] at h1; cases h1; exact (hno FU).elim
 rw [hw1] at h1;cases h1;clear h2 h3 hok;unfold xb;refine vr 3 ?_;refine Al 0 Z9 fun b1 => ?_;refine Al 0 wR fun b2 => ?_;refine Sg 0 jB .h1 ?_;refine Sg 3 y5 .here ?_;refine zG .h2 (fun ns hi _ hd => ?_);obtain ⟨hCq, hFq⟩ := h4 ns hi;have hCq := hCq.mono (yq hd (m := m));have hFq := hFq.mono (yq hd (m := m));have hl2 : Le m (yj m ns) := zU _ _;clear hi hd h4
 generalize yj m ns = m9 at hCq hFq hl2;have hT := hT.mono hl2;refine tr 1 ?_;refine zg ((yK DJ rfl (fun m' hm he => Hs (s := C2) (hT.mono hm) zb) rfl ?_)) rfl;rintro _ _ hq;rcases hq with ⟨bk, ts, K2, kc2, F2, fc2, en2, h1, hok, rfl, rfl, -⟩ | ⟨e, a, rfl, rfl, hne, h1 | ⟨bk, ts, h1, hno, hf⟩⟩
 ·rw [hw2] at h1; cases h1; exact (Mf hok).elim
 ·rw [hw2] at h1; cases h1
 rw [hw2] at h1;cases h1;obtain ⟨rfl, rfl⟩ := Mh (hf rfl);clear hf hno hne;unfold xb;refine vr 3 ?_;refine Al 0 Z9 fun b3 => ?_;refine Al 0 wR fun b4 => ?_;refine Sg 0 jB .h1 ?_;refine Sg 4 y5 .here ?_;refine Lc 0 jB .h3 ?_;refine zg ((yK E5 rfl (fun m' hm he => Pe (b := ⟨[L6], [FV]⟩) (s := [73, 109, 112]) (hCq.mono hm).x zb) rfl ?_)) rfl
 rintro _ _ ⟨⟨rfl, hno⟩ | ⟨ix, hix, rfl, -⟩, rfl⟩
 ·exact (hno 0 zb rfl).elim
 obtain rfl : ix = 0 := Nat.lt_one_iff.1 hix;refine vr 9 ?_;refine Lc 0 jB .h3 ?_;refine zg ((yK CT rfl (fun m' hm he => O6 (b := ⟨[L6], [FV]⟩) (s := [115, 116, 100]) (hFq.mono hm).x zb zb) rfl ?_)) rfl;rintro _ _ ⟨⟨cs, rfl, hno⟩ | ⟨f, q, n1, n2, hf, -, rfl⟩, rfl⟩
 ·exact (hno 0 zb rfl).elim
 rw [List.mem_singleton.1 hf];clear hf;obtain ⟨vs, hrd, hvl, hel⟩ := hCq;obtain ⟨qc, hqv, -⟩ := hel 0 zb;have hat := hrd.elem (0 * 12) 12;rw [hqv] at hat;have hc3 : mc m9 (((sa K).add (0 * 12)).add 3) = some (.int .i64 2) := hat 3 _ rfl;have hX1 : K.isSome = true := hrd.isSome (by rw [hvl]; decide);refine vr 3 ?_;refine Al 0 Vy fun b5 => ?_;refine Sg 6 gx .here ?_
 refine Lb 0 cI .h3 ?_;refine xf 2 ?_;refine Lb 1 b8 .h4 ?_;refine xf 3 ?_;refine Lb 0 b8 .h4 ?_;refine pe 1 (zo WS rfl rfl hX1 za) ?_;refine Lo 0 yl rfl hc3 ?_;refine xf 3 ?_;refine xf 9 ?_;refine Lb 0 yl .here ?_;refine xf 2 ?_;refine Lc 0 y5 .h1 ?_;refine pe 0 (zA wR kx rfl rfl) ?_
 refine pe 5 ((K3 [.i .i64 151, .i .i64 0] [.i .i64 151, .i .i64 0] D9 rfl rfl rfl rfl)) ?_;exact JG hl2 zj ⟨rfl, rfl⟩
end
namespace Tp
open Go Go.Eng Wd Kd
theorem Tn {α : Type} (f : α -> Nat) {l : List α} {x : α} (h : x ∈ l) : f x <= (l.map f).sum := by
 induction l with
 | nil => cases h
 | cons y r ih =>
   simp only [List.map_cons, List.sum_cons];rcases List.mem_cons.1 h with rfl | h
   ·omega
   ·have := ih h; omega
end Tp
namespace Tp
open Go Go.Eng Wd Kd
theorem I8 : ∀ (x : zI) (d : Nat) (s : Bt), yx x d = some s -> uv x
 | .mk op who name ns ks, d, s, h => by
   have hk : ∀ k ∈ ks, ∀ d s, yx k d = some s -> uv k := fun k _ d s h => I8 k d s h
   have hb : ∀ {br : Bool} {k : zI} {d : Nat} {s : Bt}, k ∈ ks -> jW br d (yx k) = some s -> uv k := fun {br k d s} hm h => by
    rcases fE h with ⟨rfl, h1⟩ | ⟨rfl, -, t, h1, rfl⟩
    ·exact hk _ hm _ _ h1
    ·exact hk _ hm _ _ h1
   have hc := kF h;clear h;generalize hx : zI.mk op who name ns ks = x at hc;cases hc with
   | cmp hw ha hb => cases hx; exact .mk (Nat.zero_le _) fun k hk => by cases hk
   | holds hn hs => cases hx; exact .mk (Nat.le_trans (xG hn) zb) fun k hk => by cases hk
   | not hd h1 =>
     cases hx
     exact .mk (Nat.zero_le _) fun k hk => by
      rw [List.mem_singleton.1 hk];exact hb (.head _) h1
   | or ha h1 =>
     cases hx
     exact .mk (Nat.zero_le _) fun k hk2 => by
      rcases List.mem_cons.1 hk2 with rfl | hk2
      ·exact hk _ (.head _) _ _ ha
      ·rw [List.mem_singleton.1 hk2];exact hb (.tail _ (.head _)) h1
   | and ha h1 =>
     cases hx
     exact .mk (Nat.zero_le _) fun k hk2 => by
      rcases List.mem_cons.1 hk2 with rfl | hk2
      ·exact hb (.head _) ha
      ·rw [List.mem_singleton.1 hk2];exact hb (.tail _ (.head _)) h1
termination_by x => SizeOf.sizeOf x
decreasing_by
 have := List.sizeOf_lt_of_mem ‹k ∈ ks›
 simp
 omega
theorem eQ (l : List zW) : l.length <= yM l := by
 induction l with
 | nil => exact Nat.zero_le _
 | cons x r ih =>
   have h1 : 1 <= vA x := by obtain ⟨op, who, n, name, c, t, e⟩ := x; rw [gL]; omega
   rw [WV, List.length_cons];omega
variable {l : List zW}
theorem Yu {x : zW} (h : x ∈ l) : vA x <= yM l := Tn vA h
theorem bT : uv UB := .mk (Nat.zero_le _) (fun k h => by cases h)
theorem G1 : ∀ (x : zW) (d : Nat) (s : Bt), vG x d = some s -> vA x <= 200 -> Xp x
 | .mk op who n name c t e, d, s, h, hw => by
   have ht : ∀ y ∈ t, ∀ d s, vG y d = some s -> vA y <= 200 -> Xp y := fun y _ d s h hw => G1 y d s h hw;have he : ∀ y ∈ e, ∀ d s, vG y d = some s -> vA y <= 200 -> Xp y := fun y _ d s h hw => G1 y d s h hw;have h0 : ∀ {l : List zW}, l = [] -> ∀ x ∈ l, Xp x := fun {l} h x hx => by subst h; cases hx
   have hc := bJ h;clear h;generalize hx : zW.mk op who n name c t e = x at hc;cases hc with
   | line hop hb hn =>
     cases hx;obtain ⟨rfl, rfl, rfl⟩ := f8 hb;exact .mk (Nat.zero_le _) bT (Nat.zero_le _) (Nat.zero_le _) (h0 rfl) (h0 rfl)
   | num hop hb hn =>
     cases hx;obtain ⟨rfl, rfl, rfl⟩ := f8 hb;exact .mk (Nat.zero_le _) bT (Nat.zero_le _) (Nat.zero_le _) (h0 rfl) (h0 rfl)
   | side hop hb hz hs =>
     cases hx;obtain ⟨rfl, rfl, rfl⟩ := f8 hb;exact .mk (Nat.zero_le _) bT (Nat.zero_le _) (Nat.zero_le _) (h0 rfl) (h0 rfl)
   | summon hb hz hn =>
     cases hx;obtain ⟨rfl, rfl, rfl⟩ := f8 hb;exact .mk (Nat.le_trans (xG hn) zb) bT (Nat.zero_le _) (Nat.zero_le _) (h0 rfl) (h0 rfl)
   | iff hz hd hc0 ht0 he0 =>
     cases hx;have hwi := QF (who := 0) (n := n) (name := []) (c := c) (t := t) (e := e);have l1 := eQ t;have l2 := eQ e
     exact .mk (Nat.zero_le _) (I8 _ _ _ hc0) za za (fun y hy => by
      obtain ⟨u, hu⟩ := cj ht0 y hy;have := Yu hy
      exact ht y hy _ _ hu za) fun y hy => by
      obtain ⟨u, hu⟩ := cj he0 y hy;have := Yu hy;exact he y hy _ _ hu za
termination_by x => SizeOf.sizeOf x
decreasing_by
 all_goals
  have := List.sizeOf_lt_of_mem ‹y ∈ _›;simp only [zW.mk.sizeOf_spec];omega
variable {s : Bt}
theorem Gp {w : Bt} (h : uU w l = some s) (hw : yM l <= 200) : Vo l := by
 intro x hx;have hl : l.length ≠ 0 := fun e => by rw [List.eq_nil_of_length_eq_zero e] at hx; cases hx
 obtain ⟨t, ht⟩ := XC h hl;obtain ⟨u, hu⟩ := cj ht x hx;have := Yu hx;exact G1 x 0 u hu za
theorem Ro {c : zP} (h : um c = some s) : Jf c := by
 obtain ⟨hn, -, -, hw, a, b, e, h1, h2, h3, -⟩ := fD h;unfold yD at hw;have l1 := eQ c.played;have l2 := eQ c.dead;have l3 := eQ c.dawn;exact ⟨Nat.le_trans (xG hn) zb, by omega, by omega, by omega, Gp h1 za, Gp h2 za, Gp h3 za⟩
theorem TY {f : y6} (h : fw f = some s) (hb : f.banned.length <= 1000000000) (hs : f.single.length <= 1000000000) : K7 f := by
 obtain ⟨hn, -, -, -, h1, h2, -⟩ := dV h;exact ⟨Nat.le_trans (xG hn) zb, hb, hs, fun s hs => Nat.le_trans (xG (h1 s hs)) zb, fun s hs => Nat.le_trans (xG (h2 s hs)) zb⟩
theorem BI.sm {b : ew} (h : BI b) (hf : ∀ f ∈ b.fmts, f.banned.length <= 1000000000 /\ f.single.length <= 1000000000) : R2 b :=
 ⟨Nat.le_trans h.lc zb, Nat.le_trans h.lf zb, fun c hc => by obtain ⟨s, hs⟩ := h.c c hc; exact Ro hs, fun f hf2 => by obtain ⟨s, hs⟩ := h.f f hf2; exact TY hs (hf f hf2).1 (hf f hf2).2⟩
end Tp
section
open Wd Tp Kd La
theorem Ub (l : List zP) : uh (l.map X3) = uh l := by
 unfold uh;rw [List.map_map]
 rfl
theorem F0 (l : List zP) : uC (l.map X3) = uC l := by
 funext s
 unfold uC
 induction l with
 | nil => rfl
 | cons x r ih =>
   rw [List.map_cons, List.find?_cons, List.find?_cons];by_cases h : s = x.name
   ·rw [show decide (s = (X3 x).name) = true from decide_eq_true h, show decide (s = x.name) = true from decide_eq_true h]
    rfl
   ·rw [show decide (s = (X3 x).name) = false from decide_eq_false h, show decide (s = x.name) = false from decide_eq_false h];exact ih
variable {i : Nat}
theorem II {l : List zP} (h : i < l.length) (h' : i < (l.map X3).length) : Xw (l.map X3) i h' ↔ Xw l i h := by
 unfold Xw;rw [F0, <- List.map_take, Ub, List.getElem_map];exact Iff.rfl
variable {cs : List zP}
theorem Wz {l : List Bt} : va (cs.map X3) l ↔ va cs l := by
 unfold va;rw [Ub]
theorem MD (l : List y6) (i : Nat) : qX (l.map V2) i = qX l i := by
 unfold qX;rw [<- List.map_take, List.map_map]
 rfl
theorem Kh {l : List y6} (h : i < l.length) (h' : i < (l.map V2).length) : gb (cs.map X3) i (qX (l.map V2) i) (l.map V2)[i] ↔ gb cs i (qX l i) l[i] := by
 unfold gb;rw [MD, Wz, Wz, List.getElem_map];exact Iff.rfl
def L7 (b : ew) : ew := ⟨b.cards.map X3, b.fmts.map V2⟩
theorem Ly (b : ew) : eo (L7 b) ↔ eo b := by
 constructor
 ·intro h;refine ⟨by have := h.n; simpa [L7] using this, fun i hi => ?_, fun x hx => ?_, fun i hi => ?_⟩
  ·exact (II hi (by simpa using hi)).1 (h.k i (by simpa [L7] using hi))
  ·exact h.l (X3 x) (List.mem_map.2 ⟨x, hx, rfl⟩)
  ·exact (Kh hi (by simpa using hi)).1 (h.f i (by simpa [L7] using hi))
 ·intro h;refine ⟨by have := h.n; simpa [L7] using this, fun i hi => ?_, fun x hx => ?_, fun i hi => ?_⟩
  ·exact (II (by simpa [L7] using hi) hi).2 (h.k i (by simpa [L7] using hi))
  ·obtain ⟨y, hy, rfl⟩ := List.mem_map.1 hx;exact h.l y hy
  ·exact (Kh (by simpa [L7] using hi) hi).2 (h.f i (by simpa [L7] using hi))
variable {a b : ew}
theorem Lz (hc : a.cards.map X3 = b.cards.map X3) (hf : a.fmts.map V2 = b.fmts.map V2) (h : eo b) : eo a := by
 rw [<- Ly] at h ⊢;have e : L7 a = L7 b := by unfold L7; rw [hc, hf]
 rw [e];exact h
theorem MF {x y : zP} (h : X3 x = X3 y) : V6 x y := by
 cases x;cases y;unfold X3 at h;simp only [zP.mk.injEq] at h;unfold V6;obtain ⟨h1, h2, h3, h4, h5, h6, h7, h8, h9, h10, h11, -⟩ := h;exact ⟨h1, h2, h3, h4, h5, h6, h7, h8, h9, h10, h11⟩
theorem ME {x y : y6} (h : V2 x = V2 y) : V5 x y := by
 cases x;cases y;unfold V2 at h;simp only [y6.mk.injEq] at h;unfold V5;obtain ⟨h1, h2, h3, h4, h5, h6, -⟩ := h;exact ⟨h1, h2, h3, h4, h5, h6⟩
theorem Nk {α β : Type} {f : α -> β} {l l' : List α} (h : l.map f = l'.map f) (i : Nat) (h1 : i < l.length) (h2 : i < l'.length) : f l[i] = f l'[i] := by
 have := congrArg (fun z => z[i]?) h
 simpa [h1, h2] using this
theorem MG (hc : a.cards.map X3 = b.cards.map X3) (hf : a.fmts.map V2 = b.fmts.map V2) : Iy a b :=
 ⟨by simpa using congrArg List.length hc, by simpa using congrArg List.length hf, fun i h h' => MF (Nk hc i h h'), fun i h h' => ME (Nk hf i h h')⟩
variable {A : Oa} {m : Mp}
theorem UO (h1 : b.cards.length <= 240) (h2 : b.fmts.length <= 240) (h : am m A b.fmts) : Dz b := ⟨Nat.le_trans h1 zb, Nat.le_trans h2 zb, fun f hf => ⟨Nat.le_trans (cz h f hf).ban zb, Nat.le_trans (cz h f hf).sin zb⟩⟩
theorem PC {s : Bt} {ts : List yf} (hr : jI s = .ok b ts) (h : am m A b.fmts) : R2 b := ((bw s).ok b ts hr).1.sm fun f hf => ⟨Nat.le_trans (cz h f hf).ban zb, Nat.le_trans (cz h f hf).sin zb⟩
end
section
open Wd Tp Kd La
variable {m : Mp}
theorem Ju (b : ew) : (∃ t, gZ b = (t, 0) /\ t.length <= 65536) \/ gZ b = ([], 2) \/ gZ b = ([], 3) := by
 unfold gZ;cases gF b with
 | none => exact .inr (.inl rfl)
 | some s =>
   dsimp only
   split
   ·exact .inr (.inr rfl)
   ·exact .inl ⟨s, rfl, by omega⟩
theorem D5 (hI : qB m) (hT : xU m) {s : Bt} (hsl : s.length <= 140737488355328) : CS Tryz.prog 4 [.string (bs s)] m [] (vQ (.bool true)) := by
 refine yQ [.tmp 2] Tryz.func4 rfl rfl rfl ?_;by_cases h6 : 6000 < s.length
 ·refine tr 9 ?_;refine pe 0 (yT rfl ei) ?_;refine y4 5 ?_;refine Cr DK rfl (fun m' hm he => (UU (hT.mono hm))) ?_;rintro _ rfl;refine vr 5 ?_;exact xE zj ⟨rfl, rfl⟩
 refine tr 9 ?_;refine pe 0 (yT rfl ei) ?_;refine zH 8 ?_;refine zg ((yK DJ rfl (fun m' hm he => Hs (s := s) (hT.mono hm) za) rfl ?_)) rfl;rintro _ _ hq;rcases hq with ⟨bk, ts, K, kc, F, fc, en, h1, hok, rfl, rfl, h2, h3, h4⟩ | ⟨e, a, rfl, rfl, hne, -⟩
 rotate_left
 ·unfold xb;refine vr 3 ?_;refine Al 0 Z9 fun b1 => ?_;refine Al 0 wR fun b2 => ?_;refine Sg 0 jB .h1 ?_;refine Sg 6 y5 .here ?_;refine Lb 0 cI .here ?_;refine yr 6 ?_;refine Lb 1 b8 .h1 ?_;refine xf 2 ?_;refine Lb 1 cJ .h1 ?_;refine xf 2 ?_;refine Cr DK rfl (fun m' hm he => (UU (hT.mono hm))) ?_;rintro _ rfl;refine vr 6 ?_;exact xE zj ⟨rfl, rfl⟩
 have hN := MT za h1;unfold xb;refine vr 3 ?_;refine Al 0 Z9 fun b1 => ?_;refine Al 0 wR fun b2 => ?_;refine Sg 0 jB .h1 ?_;refine Sg 4 y5 .here ?_;refine zG .h2 (fun ns hi _ hd => ?_);obtain ⟨hCq, hFq⟩ := h4 ns hi;have hCq := hCq.mono (yq hd (m := m));have hFq := hFq.mono (yq hd (m := m));have hl2 : Le m (yj m ns) := zU _ _;clear hi hd h4
 generalize yj m ns = m9 at hCq hFq hl2;have hT := hT.mono hl2;have hI := hI.mono hl2;have hz := KD hN h3 hCq hFq;have hfl := UO h2 h3 hFq;have hsm := PC h1 hFq;refine tr 2 ?_;refine Lb 0 cI .here ?_;refine zH 8 ?_;refine Lc 0 jB .h1 ?_;refine zg ((yK Dh rfl (fun m' hm he => HG (hT.mono hm) ((hCq.mono hm).r hN) (hCq.mono hm).x (hFq.mono hm).x hz) rfl ?_)) rfl
 rintro _ _ ⟨rfl, e, a, rfl, ⟨rfl, rfl, -⟩ | ⟨-, hno, -⟩⟩
 rotate_left
 ·exact (hno hok).elim
 unfold xb;refine pe 0 (O0 TW TE TF rfl rfl) ?_;refine zH 7 ?_;refine Lc 0 jB .h1 ?_;refine Cr CU rfl (fun m' hm he => (Ft (hI.mono hm) (hT.mono hm) (hCq.mono hm).x (hFq.mono hm).x hsm)) ?_;rintro _ rfl;have hcs := Ju bk;have hb2 := Dm (show Y7 s = .ok bk ts from h1);generalize htx : gZ bk = r at hcs hb2;obtain ⟨t, e⟩ := r
 have he : (e = 0 /\ t.length <= 65536) \/ e = 3 := by
  rcases hcs with ⟨u, h, hu⟩ | h | h
  ·cases h; exact .inl ⟨rfl, hu⟩
  ·rcases hb2 with ⟨u, h'⟩ | h' <;> rw [h] at h' <;> cases h'
  ·cases h; exact .inr rfl
 rcases he with ⟨rfl, htl⟩ | rfl
 rotate_left
 ·refine vr 11 ?_;refine xf 5 ?_;refine Cr DK rfl (fun m' hm he => (UU (hT.mono hm))) ?_;rintro _ rfl;refine vr 5 ?_;exact JG hl2 zj ⟨rfl, rfl⟩
 obtain ⟨y, ts0, hr0, hyc, hyf⟩ := Dn htx;have hyok := Lz hyc hyf hok;have hr0 : jI t = .ok y ts0 := hr0;refine vr 11 ?_;refine zH 8 ?_;refine zg ((yK DJ rfl (fun m' hm he => Hs (s := t) (hT.mono hm) za) rfl ?_)) rfl;rintro _ _ hq
 rcases hq with ⟨KP, ts2, K2, kc2, F2, fc2, en2, h1', hok', rfl, rfl, h2', h3', h4'⟩ | ⟨e, a, rfl, rfl, hne, h1' | ⟨KP, ts2, h1', hno, -⟩⟩
 rotate_left
 ·rw [hr0] at h1'; cases h1'
 ·rw [hr0] at h1'; cases h1'; exact (hno hyok).elim
 rw [hr0] at h1';cases h1';unfold xb;refine vr 3 ?_;refine Al 0 Z9 fun b3 => ?_;refine Al 0 wR fun b4 => ?_;refine Sg 0 jB .h1 ?_;refine Sg 3 y5 .here ?_;refine zG .h2 (fun ns hi _ hd => ?_);obtain ⟨hCy, hFy⟩ := h4' ns hi;have hCy := hCy.mono (yq hd (m := m9));have hFy := hFy.mono (yq hd (m := m9));have hl3 : Le m9 (yj m9 ns) := zU _ _;clear hi hd h4'
 generalize yj m9 ns = m8 at hCy hFy hl3;have hT := hT.mono hl3;have hCq := hCq.mono hl3;have hFq := hFq.mono hl3;have hfl2 := UO h2' h3' hFy;refine tr 2 ?_;refine xf 2 ?_;refine Lb 0 cI .here ?_;refine xf 2 ?_;refine Lc 0 jB .h3 ?_;refine Lc 0 jB .h1 ?_
 refine zg ((yK cl7 rfl (fun m' hm he => Dw (hCq.mono hm).x (hFq.mono hm).x (hCy.mono hm).x (hFy.mono hm).x hfl hfl2) rfl ?_)) rfl;rintro _ _ ⟨⟨rfl, -⟩ | ⟨rfl, hno⟩, rfl⟩
 rotate_left
 ·exact (hno (MG hyc.symm hyf.symm)).elim
 refine vr 2 ?_;refine Cr DK rfl (fun m' hm he => (UU (hT.mono hm))) ?_;rintro _ rfl;refine vr 5 ?_;exact gT (hl2.trans hl3) [_] zj [] ya ⟨rfl, rfl⟩
end
section
open Go.Lib Go.Shelf
theorem LF : (Rows.laid_unicode_utf8_acceptRanges : DataW Unit) = acceptData := zi
theorem NW : Rows.laid_unicode_utf8_first = firstData := zi
theorem MA : (Rows.laid_strings_asciiSpace : DataW Unit) = tabData .u8 asciiSpaceTab := zi
theorem Td : (Rows.laid_internal_strconv_uint64pow10 : DataW Unit) = tabData .u64 pow10Tab := zi
variable {W w : World}
theorem Vg {P : Program} {n : String} {k : IntKind} {zs : List Int} (h : TabIs P W n k zs) (hl : Le (mp W.heap) (mp w.heap)) : TabIs P w n k zs := by
 unfold TabIs World.var? at *;cases hg : P.globalNamed n with
 | none => rw [hg] at h; cases h
 | some g =>
   rw [hg] at h;simp only [Option.bind_some] at h ⊢;cases ho : W.heap[g]? with
   | none => rw [ho] at h; cases h
   | some o => rw [ho] at h; rw [show w.heap[g]? = some o from hl g o ho]; exact h
theorem YI {a : Addr} {v : Value} (h : W.cell? a = some v) (hl : Le (mp W.heap) (mp w.heap)) : w.cell? a = some v := by
 unfold World.cell? at *;cases ho : W.heap[a.block]? with
 | none => simp [ho] at h
 | some o => rw [ho] at h; rw [show w.heap[a.block]? = some o from hl _ o ho]; exact h
theorem UY (h : laidMetH Tryz.prog Rows.bookBackRow.laid W) : qB (mp W.heap) /\ xU (mp W.heap) := by
 rw [MakeChecks.laidMetH_plain _ _ _ zi] at h;have r0 := Lib.laidMet.reads h (.tail _ (.tail _ (.head _)));have r1 := Lib.laidMet.reads h (.tail _ (.tail _ (.tail _ (.head _))));have r3 := Lib.laidMet.reads h (.tail _ (.tail _ (.tail _ (.tail _ (.tail _ (.head _))))));have r4 := Lib.laidMet.reads h (.tail _ (.tail _ (.tail _ (.tail _ (.tail _ (.tail _ (.head _)))))));rw [Td] at r0
 rw [LF] at r1;rw [MA] at r3;rw [NW] at r4;have hu := utf8Tabs_of_readsT (P := Tryz.prog) (ρ := Tryz.lays197_ren) ⟨Tryz.lays197.t5, Tryz.lays197.t119, Tryz.lays197.t138, Tryz.lays197.t139⟩ ⟨by kernel_rfl, by kernel_rfl, by kernel_rfl, by kernel_rfl, by kernel_rfl, by kernel_rfl, by kernel_rfl⟩ r4 r1
 have hs : TabIs Tryz.prog W "strings.asciiSpace" .u8 asciiSpaceTab := by
  obtain ⟨g, t, cs, fuel, p, hg, ht, hv, hd⟩ := r3;obtain rfl := Option.some.inj ((show Tryz.prog.globalNamed "strings.asciiSpace" = some 2 by kernel_rfl).symm.trans hg);obtain rfl := Option.some.inj ((show (Tryz.prog.globals[2]?).map (·.type) = some 190 by kernel_rfl).symm.trans ht);unfold TabIs;rw [hv, <- cells_of_tab Tryz.underlying190 Tryz.underlying5 zi zi hd]
 have hp : TabIs Tryz.prog W "internal/strconv.uint64pow10" .u64 pow10Tab := by
  obtain ⟨g, t, cs, fuel, p, hg, ht, hv, hd⟩ := r0;obtain rfl := Option.some.inj ((show Tryz.prog.globalNamed "internal/strconv.uint64pow10" = some 3 by kernel_rfl).symm.trans hg);obtain rfl := Option.some.inj ((show (Tryz.prog.globals[3]?).map (·.type) = some 230 by kernel_rfl).symm.trans ht);unfold TabIs
  rw [hv, <- cells_of_tab Tryz.underlying230 Tryz.underlying207 zi zi hd]
 exact ⟨fun w hl => Vg hp hl, fun w hl => ⟨Vg hs hl, fun c hc => YI (hu.1 c hc) hl, fun i hi => ⟨YI (hu.2 i hi).1 hl, YI (hu.2 i hi).2 hl⟩⟩⟩
open Go.WideShapes Wd Tp Kd
theorem KL {H : Type} {enc : TypeId × Value -> H} {base b0 fuel : Nat} {spare : Nat -> Bool} {held : Bool} (W : World) (hT : qB (mp W.heap) /\ xU (mp W.heap)) {x0 : DataW H × List MemPlace} (v0 : Value) (o0 : Value.okWide Tryz.prog W .any b0 9 v0) (k0 : DataW.trod enc Tryz.prog W base spare held fuel 9 v0.cells.toList = some x0) (g0 : O5 Tryz.prog W 9 x0) :
  C Tryz.prog 4 #[v0] W.heap fun v h' => v = .bool true /\ Le (mp W.heap) (mp h') := by
 obtain ⟨s, rfl⟩ := okWide_string Tryz.underlying9 o0;obtain ⟨fm, e1, hl⟩ := Pr zi k0 g0;have e1' : s = bs fm := by simpa [Value.cells] using e1
 subst e1';exact (CS.toLe (D5 hT.1 hT.2 hl)).mono fun _ _ ⟨⟨_, e, _⟩, hl⟩ => ⟨e, hl⟩
end
section
open Go.ChangeShapes Go.WideShapes Go.ChangeAt Go.RowKit
open Go.ChangeMaps (open_string shut_string)
theorem QN : ownKnob Tryz.prog.godebug = none := zi
theorem YK : laidOutB Tryz.prog = true := zi
theorem XA (os : Os) (started : os.Started) (H : Type) (enc : TypeId × Value -> H) :
  ReturnsInHanded {} Tryz.checked os 4 .any (fun w args => (Rows.bookBackSpec.pre enc Tryz.prog Tryz.f4 [] false w args /\ laidMetH Tryz.prog Rows.bookBackRow.laid w) /\ sizedMet enc Tryz.prog Tryz.f4 (OpenSpec.ofChange Rows.bookBackSpec) false w args)
   (Rows.bookBackSpec.post enc Tryz.prog Tryz.f4 false true false false) := by
 refine returnsInHanded_of_change_and (C := Tryz.checked) (X := fun w _ => laidMetH Tryz.prog Rows.bookBackRow.laid w) (fun _ _ _ hh h => h.of_heap hh) QN started zi Tryz.func4
  (ChangeSpec.witness_shaped (enc := enc) (C := Tryz.checked) (os := os) (X := fun w _ => laidMetH Tryz.prog Rows.bookBackRow.laid w) false (World.laidAll Tryz.prog os Rows.bookBackRow.laid) #[.string ByteArray.empty] 8 (World.laidAll_os _ _ _)
   (World.shaped_of_ZipB zi zi) zi zi zi
   (by rw [MakeChecks.laidMetH_plain _ _ _ zi]; exact laidMet_laidAll _ zi zi)) ?_
 intro W base args ds gs before hval0 hW _ hsz0 hL _;have hsz : (DataW.weightsEach Tryz.prog (Tryz.f4.params.toList ++ Rows.bookBackSpec.plain.varTypes Tryz.prog) (ds ++ gs)).all (· <= reachBytes) = true := hsz0;clear hsz0;have hval : ∀ (j : Nat) t v, Tryz.f4.params[j]? = some t -> args[j]? = some v -> Value.okWide Tryz.prog W .any base t v := hval0;have hW' := hW
 obtain ⟨p, q, hA0, hV, rfl, hfz, hnd⟩ := hW;have hA : DataW.TrodAll enc Tryz.prog W 0 (fun _ => true) true Tryz.f4.params.toList args.toList ds p := hA0;rw [Tryz.params4] at hA hval hsz;obtain ⟨v0, vs0, d0, ds0, p0, q0, hargs, rfl, rfl, h0, r0⟩ := trodAll_cons hA;obtain ⟨rfl, rfl, rfl⟩ := trodAll_nil r0;obtain rfl : args = #[v0] := by cases args; simp_all
 obtain ⟨rfl, rfl⟩ := trodVars_none hV;have k0 := h0;have lt0 : ∀ x ∈ p0, x.block < W.heap.size := by obtain ⟨m, hm⟩ := k0; exact DataW.trod_lt m _ _ _ hm
 obtain ⟨fu0, hf0⟩ := h0;have g0 : O5 Tryz.prog W 9 (d0, p0) := ⟨fun b o hm => hfz b o (by simp [hm]), fun k hk => of_decide_eq_true (List.all_eq_true.1 hsz k (DataW.weights_mem_each (j := 0) (t := 9) rfl rfl k hk))⟩;clear hA0 hval0;refine (Oy (KL W (UY hL) v0 (hval 0 9 v0 rfl rfl) hf0 g0)).mono fun e W' ⟨he, bel⟩ => ?_;subst he
 exact ⟨_, rfl, _, _, _, [], _, [], hW', trodAll_mk1 (shut_bool Tryz.underlying4 _), (trodAll_cons_mk (Below.trod YK zi (of_decide_eq_true zi) k0 bel lt0) trodAll_mk0), rfl, bel.frame _, fun h => by cases h⟩
theorem Va : Rows.BookBackSaid :=
 OpenClaim.holds_of_wide 4 Tryz.f4 rfl rfl rfl rfl rfl rfl rfl ⟨rfl, rfl, rfl, rfl, rfl⟩ rfl rfl rfl rfl rfl zi Tryz.func4 zi
  (of_decide_eq_true zi) (by unfold Func.isWrapper; first | (rw [if_pos zt]; kernel_rfl) | (rw [if_neg zt]; exact ⟨rfl, rfl⟩))
  (fun os started H enc _ => XA os started H enc)
theorem bookBack_card : Rows.BookBackCardSaid :=
 Claim7.holds_tied_plain_at .later [] [.data, .data, .data, .data, .listed, .data, .pinned] true (true, "e116ae26eb80f958be8f15b391a85b22725debab0d50c3db2e5cdb7ae65aa75a") true
  Va (fun _ h => by cases h) zi (fun _ h => by cases h) bookBack_row_tie rfl ⟨rfl, rfl⟩ zi rfl
  (fun f fn hf hfn => by
   obtain rfl : f = 4 := Option.some.inj ((show Tryz.prog.funcNamed Rows.bookBackRow.func = some 4 by kernel_rfl).symm.trans hf) |>.symm
   obtain rfl : fn = Tryz.f4 := (Option.some.inj (Tryz.func4.symm.trans hfn)).symm
   exact ⟨by kernel_rfl, fun j t ht => by
    rw [Tryz.params4] at ht
    have h3 : t = 9 := by
     rcases j with _ | j
     ·simp at ht; subst ht; decide
     ·simp at ht
    rcases h3 with rfl
    ·exact (show Tryz.prog.wantsStandIn 9 = false by kernel_rfl)⟩)
  zi
#print axioms bookBack_card
end
end Go.Proofs.YtgohljjedlpccaaGreatDoor
