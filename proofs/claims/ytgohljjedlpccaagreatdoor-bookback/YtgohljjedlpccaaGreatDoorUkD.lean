/- Parts of the proof: contracts of functions of the program, and plain lemmas. No condition. -/
import Derived.Test.YtgohljjedlpccaaGreatDoorUxW
import Derived.Test.YtgohljjedlpccaaGreatDoorFacts
import Derived.Test.YtgohljjedlpccaaGreatDoorEng2
set_option maxHeartbeats 64000000
set_option maxRecDepth 100000
namespace Go.Proofs.YtgohljjedlpccaaGreatDoor
open Go.Eng
section
open Kd
def IE : xq -> Addr -> Value
 | .eff _, a => .iface 201 (.agg [.pointer (some a)].toArray)
 | .num _, a => .iface 223 (.agg [.pointer (some a)].toArray)
 | .cond _, a => .iface 225 (.agg [.pointer (some a)].toArray)
def IF (m : Mp) (cs : Lv) : xq -> Prop
 | .eff x => un m cs x
 | .num x => xr m cs x
 | .cond x => yP m cs x
def q7 (m : Mp) (v : Value) (p : xq) : Prop := ∃ a cs, v = IE p a /\ At m a cs /\ IF m cs p
variable {cs : Lv} {m m' : Mp} {p : xq}
theorem IF.mono (h : IF m cs p) (hl : Le m m') : IF m' cs p := by
 cases p with
 | eff x => exact un.mono h hl
 | num x => exact xr.mono h hl
 | cond x => exact yP.mono h hl
theorem q7.mono {v : Value} (h : q7 m v p) (hl : Le m m') : q7 m' v p := let ⟨a, cs, e, h1, h2⟩ := h; ⟨a, cs, e, h1.mono hl, h2.mono hl⟩
variable {a : Addr}
theorem q7.num {x : zY} (h : At m a cs) (hx : xr m cs x) : q7 m (.iface 223 (.agg [.pointer (some a)].toArray)) (.num x) := ⟨a, cs, rfl, h, hx⟩
theorem q7.cond {x : zI} (h : At m a cs) (hx : yP m cs x) : q7 m (.iface 225 (.agg [.pointer (some a)].toArray)) (.cond x) := ⟨a, cs, rfl, h, hx⟩
theorem q7.eff {x : zW} (h : At m a cs) (hx : un m cs x) : q7 m (.iface 201 (.agg [.pointer (some a)].toArray)) (.eff x) := ⟨a, cs, rfl, h, hx⟩
def qE (m : Mp) (vs : Lv) (ps : List xq) : Prop := vs.length = ps.length /\ ∀ (i : Nat) (w : Value) (q : xq), vs[i]? = some w -> ps[i]? = some q -> q7 m w q
theorem qE.nil : qE m [] [] := ⟨rfl, fun i w q h => by simp at h⟩
variable {ps : List xq}
theorem qE.snoc {vs : Lv} {w : Value} {q : xq} (h : qE m vs ps) (hw : q7 m w q) : qE m (vs ++ [w]) (ps ++ [q]) := by
 refine ⟨by simp [h.1], fun i w' q' h1 h2 => ?_⟩;by_cases hi : i < vs.length
 ·rw [List.getElem?_append_left hi] at h1;rw [List.getElem?_append_left (by rw [<- h.1]; exact hi)] at h2;exact h.2 i w' q' h1 h2
 ·rw [List.getElem?_append_right za] at h1;rw [List.getElem?_append_right (by rw [<- h.1]; omega), <- h.1] at h2;cases hj : i - vs.length with
  | zero =>
    rw [hj] at h1 h2
    simp at h1 h2
    subst h1 h2;exact hw
  | succ j =>
    rw [hj] at h1
    simp at h1
def PF (c : zI) (t e : List zW) : Nat -> List xq
 | 0 => [.cond c]
 | 1 => [.cond c] ++ t.map .eff
 | _ => ([.cond c] ++ t.map .eff) ++ e.map .eff
variable {l : List xq}
theorem NT (h : kj p l) : 1 <= l.length := by cases h; simp
variable {ls : List (List xq)}
theorem Kj (h : ∀ l ∈ ls, 1 <= l.length) : ls.length <= ls.flatten.length /\ ∀ l ∈ ls, l.length <= ls.flatten.length := by
 induction ls with
 | nil => exact ⟨Nat.le_refl _, fun l h => by cases h⟩
 | cons x r ih =>
   obtain ⟨h1, h2⟩ := ih fun l hl => h l (List.mem_cons_of_mem _ hl);have h3 := h x List.mem_cons_self;refine ⟨by simp only [List.length_cons, List.flatten_cons, List.length_append]; omega, fun l hl => ?_⟩;simp only [List.flatten_cons, List.length_append];rcases List.mem_cons.1 hl with rfl | hl
   ·omega
   ·have := h2 l hl; omega
theorem Yp (hl : ls.length = ps.length) (hk : ∀ (i : Nat) (h : i < ps.length), kj ps[i] (ls[i]'(by omega))) : ps.length <= ls.flatten.length /\ ∀ (i : Nat) (h : i < ls.length), ls[i].length <= ls.flatten.length := by
 have h0 : ∀ l ∈ ls, 1 <= l.length := fun l hm => by
  obtain ⟨i, hi, rfl⟩ := List.getElem_of_mem hm;exact NT (hk i za)
 obtain ⟨h1, h2⟩ := Kj h0;exact ⟨by omega, fun i h => h2 _ (List.getElem_mem h)⟩
theorem Jy (vs : Lv) (w : Value) : vs.length + 1 = (vs ++ [w]).length := by simp
theorem eD {α : Type} {g : α -> xq} {l : List α} {i : Nat} (h : i < l.length) : (l.take (i + 1)).map g = (l.take i).map g ++ [g l[i]] := by
 rw [List.take_add_one, List.getElem?_eq_getElem h, Option.toList_some, List.map_append]
 rfl
theorem Ra {σ : Type} {g : Nat} {q : Lv} {E : σ -> yb} {f : xq -> σ -> σ × Bool} {I : σ -> Prop} (hI : ∀ p s, I s -> (f p s).2 = true -> I (f p s).1) (hcl : yX Tryz.prog g = true) (hsee : ∀ m', Le m m' -> ∀ v p s, I s -> q7 m' v p -> CS Tryz.prog g (([] ++ [v]) ++ q) m' [E s] (fun v' L' => v' = .bool (f p s).2 /\ L' = [E (f p s).1])) {p : xq} {l : List xq} (hF : kj p l) : l.length <= 4000 ->
  ∀ m', Le m m' -> ∀ v, q7 m' v p -> ∀ s, I s -> CS Tryz.prog 144 [v, .func (.func g) #[] q.toArray] m' [E s] (fun v' L' => v' = .bool (cV f l s).2 /\ L' = [E (cV f l s).1]) := by
 induction hF with
 | @mk p ls hl hk ih =>
 intro hlen m' hm' v hv s hs;obtain ⟨hkn, hkm⟩ := Yp hl hk;simp only [List.length_cons] at hlen;refine yQ [.tmp 4] Tryz.func144 rfl rfl rfl ?_;refine tr 10 ?_;refine zg ((cu (p := []) (q := q) hcl rfl rfl .k0 (fun m1 hm he => hsee m1 (hm'.trans hm) v p s hs (hv.mono hm)) rfl ?_)) rfl;rintro _ _ ⟨rfl, rfl⟩
 have hgo : cV f (p :: ls.flatten) s = if (f p s).2 then cV f ls.flatten (f p s).1 else ((f p s).1, false) := rfl
 cases hfp : (f p s).2 with
 | false =>
   refine vr 11 ?_;exact yn [_] zj [_] .p0 ⟨by rw [hgo, hfp]; rfl, by rw [hgo, hfp]; rfl⟩
 | true =>
   rw [hfp, if_pos rfl] at hgo;rw [hgo];have hs1 := hI p s hs hfp;generalize (f p s).1 = s1 at hs1 ⊢;clear hgo hfp;refine LH 169 1 ?_;refine vr 13 ?_;refine ac (α := Oa × Nat × Lv) (fun y => [(1, .func (.func g) #[] q.toArray), (5, .slice y.1 y.2.2.length y.2.1)]) (fun y => [own 169 1 y.1 y.2.2.length y.2.1 y.2.2, E s1]) (fun y => qE m' y.2.2 (uD p)) ?_ ?_
   ·obtain ⟨a, cs, rfl, hat, hp⟩ := hv;cases p with
    | eff x =>
      obtain ⟨op, who, nop, nn, nwho, nA, nlen, nc, name, cop, cwho, cname, cA, cla, cca, cB, clb, ccb, A, la, ca, B, lb, cb, n, cond, thn, els, rfl, rfl, ho, hn, hc, ht, he⟩ := un.parts hp;clear hk ih hl hp hkm;unfold IE;refine tr 7 ?_;refine pe 7 (gk Y9 YU rfl) ?_;refine Al 0 VR fun b1 => ?_;refine Sg 6 Dr .here ?_;refine Lb 2 YW .here ?_
      refine Lo 0 ze rfl (hat.at_ rfl) ?_;refine Cr Ol rfl (fun m' hm he => (WY op)) ?_;rintro _ rfl;cases hcb : yU op with
      | true =>
        have h8 : ¬ op = 8 := fun e => by subst e; exact absurd hcb zb
        refine vr 6 ?_;refine Lb 2 YW .here ?_;refine pe 0 (zA Iq M0 rfl rfl) ?_;refine pe 0 (vW JY Jr rfl) ?_;refine Bs 0 fO fun b2 => ?_;refine zg (xQ fO rfl rfl rfl rfl .here (fun _ _ => .h2) rfl rfl (by first | omega | (simp only [maxLen]; omega)) za rfl (fun A1 c1 => ?_)) rfl;refine vr 6 ?_;refine Lb 2 YW .h1 ?_
        refine Lo 0 ze rfl (hat.at_ rfl) ?_;refine zF 5 ?_;refine QR (A1, c1, [_]) (.cons .h2 .p2) ?_ zb;simp only [uD];rw [hcb, if_pos rfl, if_neg h8];exact qE.nil.snoc (.num (hat.sub 2 4) hn)
      | false =>
        by_cases h8 : op = 8
        ·obtain ⟨ht1, ht2, tvs, ht3, ht4, ht5⟩ := ht;obtain ⟨he1, he2, Zb, he3, he4, he5⟩ := he;subst ht1 he1
         have hkl : thn.length + els.length <= 4000 := by
          simp only [uD] at hkn;rw [hcb, if_pos h8] at hkn;simp only [Bool.false_eq_true, if_false, List.nil_append, List.length_cons, List.length_append, List.length_map] at hkn;omega
         clear hkn;refine vr 8 ?_;refine Lb 2 YW .here ?_;refine Lo 0 ze rfl (hat.at_ rfl) ?_;refine yr 7 ?_;refine Lb 2 YW .here ?_;refine pe 0 (zA L9 Sd rfl rfl) ?_;refine pe 0 (vW Nc Mn rfl) ?_;refine Bs 0 fO fun b2 => ?_
         refine zg (xQ fO rfl rfl rfl rfl .here (fun _ _ => .h2) rfl rfl (by first | omega | (simp only [maxLen]; omega)) za rfl (fun A1 c1 => ?_)) rfl;refine vr 4 ?_;refine yw (sT [0, 5, 11, 101, 2, 3, 104, 106, 7, 8, 109, 10] .done) mixed zi (fun _ _ _ _ hq => hq) ?_;refine vt 3 ?_;refine Vl 2 rfl YW .h1 ?_
         refine Vu 0 rfl (zl y8 rfl (hat.at_ rfl)) ?_;refine Vl 2 rfl YW .h1 ?_;refine Vu 0 rfl (zl y8 rfl (hat.at_ rfl)) ?_;refine Vt 0 rfl (uR OE FN rfl rfl) ?_;refine Vm 2 ?_
         refine cn (β := Lv) (fun k A' c' vals => [(1, .func (.func g) #[] q.toArray), (5, .slice A' vals.length c'), (65, .agg [.slice A thn.length ca, .slice B els.length cb].toArray), (66, .int .i64 (k : Nat))]) (fun k A' c' vals => [own 169 1 A' vals.length c' vals, E s1]) (fun k vals => k <= 2 /\ qE m' vals (PF cond thn els k)) (fun k => 2 - k) 0 A1 c1 _ ⟨rfl, rfl, rfl, rfl, trivial⟩ (.cons .h2 .p2) ⟨by decide, qE.nil.snoc (.cond (hat.sub 7 5) hc)⟩ ?_
         rintro k A' c' vals ⟨hk2, hvk⟩
         try dsimp only at hvk
         try dsimp only
         match k, hk2, hvk with
         | 0, _, hvk =>
           refine tr 2 ?_;refine y4 10 ?_;refine pe 11 (ub OE OD rfl rfl za za rfl) ?_
           refine cn (β := Lv) (fun j A' c' vals => [(1, .func (.func g) #[] q.toArray), (5, .slice A' vals.length c'), (65, .agg [.slice A thn.length ca, .slice B els.length cb].toArray), (66, .int .i64 0), (8, .slice A thn.length ca), (70, .int .i64 (thn.length : Nat)), (71, .int .i64 (j : Nat))]) (fun j A' c' vals => [own 169 1 A' vals.length c' vals, E s1]) (fun j vals => j <= thn.length /\ qE m' vals ([.cond cond] ++ (thn.take j).map .eff)) (fun j => thn.length - j) 0 A' c' vals ⟨rfl, rfl, rfl, rfl, rfl, rfl, rfl, trivial⟩ zx ⟨Nat.zero_le _, by rw [List.take_zero, List.map_nil, List.append_nil]; exact hvk⟩ ?_
           rintro j A' c' vals ⟨hj, hvj⟩
           try dsimp only at hvj
           try dsimp only
           have hvl : vals.length <= 4001 := by
            rw [hvj.1];simp only [PF, List.length_append, List.length_cons, List.length_map, List.length_take, List.length_nil];omega
           by_cases hlt : j < thn.length
           ·have hA : A.isSome = true := ht3.isSome za;have hel := ht3.elem (j * 14) 14;have hpe := q7.eff hel (ht5 j hlt);refine tr 2 ?_;refine y4 18 ?_;refine pe 0 (zo VJ rfl rfl hA za) ?_;refine pe 0 (zA VR JP rfl rfl) ?_;refine pe 0 (vW Y9 YU rfl) ?_;refine Bs 0 fO fun b3 => ?_
            refine zg (xQ fO rfl rfl rfl rfl .here (fun _ _ => .h1) rfl rfl (by first | omega | (simp only [maxLen]; omega)) za rfl (fun A2 c2 => ?_)) rfl;refine vr 5 ?_;refine Pa 2 ?_;rw [Jy];refine kJ (Le.refl _) (j + 1) A2 c2 _ ⟨rfl, rfl, rfl, rfl, rfl, rfl, rfl, trivial⟩ (.cons .h1 .p1) ⟨hlt, ?_⟩ za;rw [eD hlt, <- List.append_assoc]
            exact hvj.snoc hpe
           ·have hje : j = thn.length := by omega
            subst hje;refine tr 2 ?_;refine zH 6 ?_;refine uu ?_;refine zk ?_;refine qD ?_;refine qt 2 ?_;refine Pa 2 ?_;refine kJ (Le.refl _) 1 A' c' vals ⟨rfl, rfl, rfl, rfl, trivial⟩ zx ⟨by decide, ?_⟩ za;rw [List.take_length] at hvj;exact hvj
         | 1, _, hvk =>
           refine tr 2 ?_;refine y4 10 ?_;refine pe 11 (ub OE OD rfl rfl za za rfl) ?_
           refine cn (β := Lv) (fun j A' c' vals => [(1, .func (.func g) #[] q.toArray), (5, .slice A' vals.length c'), (65, .agg [.slice A thn.length ca, .slice B els.length cb].toArray), (66, .int .i64 1), (8, .slice B els.length cb), (70, .int .i64 (els.length : Nat)), (71, .int .i64 (j : Nat))]) (fun j A' c' vals => [own 169 1 A' vals.length c' vals, E s1]) (fun j vals => j <= els.length /\ qE m' vals (PF cond thn els 1 ++ (els.take j).map .eff)) (fun j => els.length - j) 0 A' c' vals ⟨rfl, rfl, rfl, rfl, rfl, rfl, rfl, trivial⟩ zx ⟨Nat.zero_le _, by rw [List.take_zero, List.map_nil, List.append_nil]; exact hvk⟩ ?_
           rintro j A' c' vals ⟨hj, hvj⟩
           try dsimp only at hvj
           try dsimp only
           have hvl : vals.length <= 4001 := by
            rw [hvj.1];simp only [PF, List.length_append, List.length_cons, List.length_map, List.length_take, List.length_nil];omega
           by_cases hlt : j < els.length
           ·have hA : B.isSome = true := he3.isSome za;have hel := he3.elem (j * 14) 14;have hpe := q7.eff hel (he5 j hlt);refine tr 2 ?_;refine y4 18 ?_;refine pe 0 (zo VJ rfl rfl hA za) ?_;refine pe 0 (zA VR JP rfl rfl) ?_;refine pe 0 (vW Y9 YU rfl) ?_;refine Bs 0 fO fun b3 => ?_
            refine zg (xQ fO rfl rfl rfl rfl .here (fun _ _ => .h1) rfl rfl (by first | omega | (simp only [maxLen]; omega)) za rfl (fun A2 c2 => ?_)) rfl;refine vr 5 ?_;refine Pa 2 ?_;rw [Jy];refine kJ (Le.refl _) (j + 1) A2 c2 _ ⟨rfl, rfl, rfl, rfl, rfl, rfl, rfl, trivial⟩ (.cons .h1 .p1) ⟨hlt, ?_⟩ za;rw [eD hlt, <- List.append_assoc]
            exact hvj.snoc hpe
           ·have hje : j = els.length := by omega
            subst hje;refine tr 2 ?_;refine zH 6 ?_;refine uu ?_;refine zk ?_;refine qD ?_;refine qt 2 ?_;refine Pa 2 ?_;refine kJ (Le.refl _) 2 A' c' vals ⟨rfl, rfl, rfl, rfl, trivial⟩ zx ⟨by decide, ?_⟩ za;rw [List.take_length] at hvj;exact hvj
         | 2, _, hvk =>
           refine tr 2 ?_;refine zH 6 ?_;refine uu ?_;refine zk ?_;refine qD ?_;refine QR (A', c', vals) zx ?_ zb;simp only [uD];rw [hcb, if_pos h8];exact hvk
        ·refine vr 8 ?_;refine Lb 2 YW .here ?_;refine Lo 0 ze rfl (hat.at_ rfl) ?_;refine zF 5 ?_;refine QR (none, 0, []) (.cons .h1 .p1) ?_ zb;simp only [uD];rw [hcb, if_neg h8];exact qE.nil
    | num x =>
      cases hp with
      | @mk op n who kids A len c vs ho hln hm hr hv hkk =>
      subst hln
      have hkl : kids.length <= 4000 := by
       simp only [uD, List.length_map] at hkn;omega
      clear hk ih hl hkm hkn;unfold IE;refine tr 7 ?_;refine pe 7 (d9 Y9 YU rfl rfl Tryz.zeroValue201) ?_;refine pe 7 (gk JY Jr rfl) ?_;refine Al 0 Iq fun b1 => ?_;refine Sg 5 Dq .here ?_;refine Lb 2 R9 .here ?_;refine Lo 5 xO rfl (hat.at_ rfl) ?_
      refine cn (β := Lv) (fun j A' c' vals => [(1, .func (.func g) #[] q.toArray), (5, .slice A' vals.length c'), (10, .pointer (some ⟨b1, 0, none⟩)), (92, .int .i64 (kids.length : Nat)), (93, .int .i64 (j : Nat))]) (fun j A' c' vals => [own 169 1 A' vals.length c' vals, cel b1 [.pointer (some a)] 223, E s1]) (fun j vals => j <= kids.length /\ qE m' vals ((kids.take j).map .num)) (fun j => kids.length - j) 0 none 0 [] ⟨rfl, rfl, rfl, rfl, rfl, trivial⟩ (.cons .h1 .pp) ⟨Nat.zero_le _, qE.nil⟩ ?_
      rintro j A' c' vals ⟨hj, hvj⟩
      try dsimp only at hvj
      try dsimp only
      have hvl : vals.length <= 4001 := by
       rw [hvj.1];simp only [List.length_append, List.length_cons, List.length_map, List.length_take, List.length_nil];omega
      by_cases hlt : j < kids.length
      ·have hA : A.isSome = true := hr.isSome za;have hel := hr.elem (j * 4) 4;have hpe := q7.num hel (hkk j hlt);refine tr 2 ?_;refine y4 17 ?_;refine Lb 2 R9 .h1 ?_;refine Lo 1 xO rfl (hat.at_ rfl) ?_;refine pe 0 (zo dc rfl rfl hA za) ?_;refine pe 0 (zA Iq M0 rfl rfl) ?_;refine pe 0 (vW JY Jr rfl) ?_;refine Bs 0 fO fun b2 => ?_
       refine zg (xQ fO rfl rfl rfl rfl .here (fun _ _ => .h1) rfl rfl (by first | omega | (simp only [maxLen]; omega)) za rfl (fun A1 c1 => ?_)) rfl;refine vr 5 ?_;refine Pa 2 ?_;rw [Jy];refine kJ (Le.refl _) (j + 1) A1 c1 _ ⟨rfl, rfl, rfl, rfl, rfl, trivial⟩ (.cons .h1 (.cons .h1 .p1)) ⟨hlt, ?_⟩ za;rw [eD hlt];exact hvj.snoc hpe
      ·have hje : j = kids.length := by omega
       subst hje;rw [List.take_length] at hvj;refine tr 2 ?_;refine zH 6 ?_;refine uu ?_;refine zk ?_;refine qD ?_;refine QR (A', c', vals) (.cons .here .p1) ?_ zb;simp only [uD];exact hvj
    | cond x =>
      cases hp with
      | @mk op who name nums kids A B la ca lb cb vs us ho hw hn hla hma hra hva hka hlb hmb hrb hvb hkb =>
      subst hla hlb
      have hkl : nums.length + kids.length <= 4000 := by
       simp only [uD, List.length_map, List.length_append] at hkn;omega
      clear hk ih hl hkm hkn;unfold IE;refine tr 7 ?_;refine pe 7 (d9 Y9 YU rfl rfl Tryz.zeroValue201) ?_;refine pe 7 (d9 JY Jr rfl rfl Tryz.zeroValue223) ?_;refine pe 7 (gk Nc Mn rfl) ?_;refine Al 0 L9 fun b1 => ?_;refine Sg 6 Dp .here ?_;refine Lb 2 Iv .here ?_;refine Lo 5 xO rfl (hat.at_ rfl) ?_
      refine cn (β := Lv) (fun j A' c' vals => [(1, .func (.func g) #[] q.toArray), (5, .slice A' vals.length c'), (12, .pointer (some ⟨b1, 0, none⟩)), (117, .int .i64 (nums.length : Nat)), (118, .int .i64 (j : Nat))]) (fun j A' c' vals => [own 169 1 A' vals.length c' vals, cel b1 [.pointer (some a)] 225, E s1]) (fun j vals => j <= nums.length /\ qE m' vals ((nums.take j).map .num)) (fun j => nums.length - j) 0 none 0 [] ⟨rfl, rfl, rfl, rfl, rfl, trivial⟩ (.cons .h1 .pp) ⟨Nat.zero_le _, qE.nil⟩ ?_
      rintro j A' c' vals ⟨hj, hvj⟩
      try dsimp only at hvj
      try dsimp only
      have hvl : vals.length <= 4001 := by
       rw [hvj.1];simp only [List.length_append, List.length_cons, List.length_map, List.length_take, List.length_nil];omega
      by_cases hlt : j < nums.length
      ·have hA : A.isSome = true := hra.isSome za;have hel := hra.elem (j * 4) 4;have hpe := q7.num hel (hka j hlt);refine tr 2 ?_;refine y4 17 ?_;refine Lb 2 Iv .h1 ?_;refine Lo 1 xO rfl (hat.at_ rfl) ?_;refine pe 0 (zo dc rfl rfl hA za) ?_;refine pe 0 (zA Iq M0 rfl rfl) ?_;refine pe 0 (vW JY Jr rfl) ?_;refine Bs 0 fO fun b2 => ?_
       refine zg (xQ fO rfl rfl rfl rfl .here (fun _ _ => .h1) rfl rfl (by first | omega | (simp only [maxLen]; omega)) za rfl (fun A1 c1 => ?_)) rfl;refine vr 5 ?_;refine Pa 2 ?_;rw [Jy];refine kJ (Le.refl _) (j + 1) A1 c1 _ ⟨rfl, rfl, rfl, rfl, rfl, trivial⟩ (.cons .h1 (.cons .h1 .p1)) ⟨hlt, ?_⟩ za;rw [eD hlt];exact hvj.snoc hpe
      ·have hje : j = nums.length := by omega
       subst hje;rw [List.take_length] at hvj;refine tr 2 ?_;refine zH 6 ?_;refine uu ?_;refine zk ?_;refine qt 4 ?_;refine Lb 2 Iv .h1 ?_;refine Lo 5 wT rfl (hat.at_ rfl) ?_
       refine cn (β := Lv) (fun j A' c' vals => [(1, .func (.func g) #[] q.toArray), (5, .slice A' vals.length c'), (12, .pointer (some ⟨b1, 0, none⟩)), (139, .int .i64 (kids.length : Nat)), (140, .int .i64 (j : Nat))]) (fun j A' c' vals => [own 169 1 A' vals.length c' vals, cel b1 [.pointer (some a)] 225, E s1]) (fun j vals => j <= kids.length /\ qE m' vals (nums.map .num ++ (kids.take j).map .cond)) (fun j => kids.length - j) 0 A' c' vals ⟨rfl, rfl, rfl, rfl, rfl, trivial⟩ zx ⟨Nat.zero_le _, by rw [List.take_zero, List.map_nil, List.append_nil]; exact hvj⟩ ?_
       rintro j A' c' vals ⟨hj, hvj⟩
       try dsimp only at hvj
       try dsimp only
       have hvl : vals.length <= 4001 := by
        rw [hvj.1];simp only [List.length_append, List.length_cons, List.length_map, List.length_take, List.length_nil];omega
       by_cases hlt : j < kids.length
       ·have hA : B.isSome = true := hrb.isSome za;have hel := hrb.elem (j * 5) 5;have hpe := q7.cond hel (hkb j hlt);refine tr 2 ?_;refine y4 17 ?_;refine Lb 2 Iv .h1 ?_;refine Lo 1 wT rfl (hat.at_ rfl) ?_;refine pe 0 (zo jy rfl rfl hA za) ?_;refine pe 0 (zA L9 Sd rfl rfl) ?_;refine pe 0 (vW Nc Mn rfl) ?_;refine Bs 0 fO fun b2 => ?_
        refine zg (xQ fO rfl rfl rfl rfl .here (fun _ _ => .h1) rfl rfl (by first | omega | (simp only [maxLen]; omega)) za rfl (fun A1 c1 => ?_)) rfl;refine vr 5 ?_;refine Pa 2 ?_;rw [Jy];refine kJ (Le.refl _) (j + 1) A1 c1 _ ⟨rfl, rfl, rfl, rfl, rfl, trivial⟩ (.cons .h1 (.cons .h1 .p1)) ⟨hlt, ?_⟩ za;rw [eD hlt, <- List.append_assoc];exact hvj.snoc hpe
       ·have hje : j = kids.length := by omega
        subst hje;rw [List.take_length] at hvj;refine tr 2 ?_;refine zH 6 ?_;refine uu ?_;refine zk ?_;refine qD ?_;refine QR (A', c', vals) (.cons .here .p1) ?_ zb;simp only [uD];exact hvj
   rintro ⟨A, c, vs⟩ hvs
   try dsimp only at hvs
   try dsimp only
   have hvl : vs.length = ls.length := by rw [hvs.1, hl]
   refine tr 9 ?_
   refine yv (α := Nat × σ) (fun y => [(1, .func (.func g) #[] q.toArray), (156, .slice A vs.length c), (157, .int .i64 (vs.length : Nat)), (158, .int .i64 (y.1 : Nat))]) (fun y => [own 169 1 A vs.length c vs, E y.2]) (fun y => y.1 <= vs.length /\ cV f (ls.take y.1).flatten s1 = (y.2, true)) (fun y => vs.length - y.1) (0, s1) ⟨rfl, rfl, rfl, rfl, trivial⟩ zx ⟨Nat.zero_le _, rfl⟩ ?_
   rintro ⟨i, s2⟩ ⟨hi, hgi⟩;dsimp only at hi hgi ⊢;by_cases hlt : i < vs.length
   ·obtain ⟨w, hw⟩ : ∃ w, vs[i]? = some w := ⟨_, List.getElem?_eq_getElem hlt⟩;have hpw := hvs.2 i w ((uD p)[i]'(by omega)) hw (List.getElem?_eq_getElem za);have hgn := ZJ (f := f) (ls := ls) (i := i) za s1 (by rw [hgi]);rw [hgi] at hgn;dsimp only at hgn
    have hc := fun m1 (hm : Le m' m1) => ih i za (by have := hkm i za; omega) m1 (hm'.trans hm) w (hpw.mono hm) s2 (by have := ZK hI (l := (ls.take i).flatten) hs1 (by rw [hgi]); rw [hgi] at this; exact this);generalize hgq : cV f (ls[i]'(by omega)) s2 = gq at hgn hc;obtain ⟨s3, b3⟩ := gq;dsimp only at hc;refine Hq (GG (A := A) .here za) (fun hA => ?_)
    refine tr 2 ?_;refine y4 10 ?_;refine pe 0 (zw Et rfl rfl hA za) ?_;refine lr 7 (RM F7 rfl .here hw) ?_;refine C1 Ha rfl .h1 (fun m1 hm he => hc m1 hm) ?_;rintro _ _ ⟨rfl, rfl⟩;cases b3 with
    | true =>
      refine vr 8 ?_;refine Pa 2 ?_;exact QR (i + 1, s3) (.cons .h1 .p0) ⟨hlt, hgn⟩ yV
    | false =>
      have hst := ZI (f := f) (ls := ls) (i := i + 1) s1 (by rw [hgn]);rw [hgn] at hst;refine vr 12 ?_;refine zu ?_;refine zp ?_;refine zD ?_;exact yn [_] zj [_] .p0 ⟨by simp only [hst]; rfl, by simp only [hst]⟩
   ·have hie : i = vs.length := by omega
    subst hie;rw [List.take_of_length_le za] at hgi;refine tr 2 ?_;refine zH 6 ?_;refine zm ?_;refine zk ?_;refine qt 7 ?_;exact yn [_] zj [_] .p1 ⟨by simp only [hgi]; rfl, by simp only [hgi]⟩
end
section
open Kd
def fq (x : zP) : List xq := x.played.map .eff ++ x.dead.map .eff ++ x.dawn.map .eff
theorem eO (x : zP) : (fq x).length = x.played.length + x.dead.length + x.dawn.length := by simp [fq]; omega
variable {j : Nat} {x : zP}
theorem Tw (h : j < x.played.length) : (fq x)[0 + j]'(by rw [eO]; omega) = .eff x.played[j] := by
 simp only [fq, Nat.zero_add];rw [List.getElem_append_left (by simp; omega), List.getElem_append_left (by simp; omega), List.getElem_map]
theorem Tv (h : j < x.dead.length) : (fq x)[x.played.length + j]'(by rw [eO]; omega) = .eff x.dead[j] := by
 simp only [fq];rw [List.getElem_append_left (by simp; omega), List.getElem_append_right yA, List.getElem_map]
 simp
theorem Tu (h : j < x.dawn.length) : (fq x)[x.played.length + x.dead.length + j]'(by rw [eO]; omega) = .eff x.dawn[j] := by
 simp only [fq];rw [List.getElem_append_right yA, List.getElem_map]
 simp
def Ed (x : zP) : Nat -> Nat
 | 0 => 0
 | 1 => x.played.length
 | 2 => x.played.length + x.dead.length
 | _ => x.played.length + x.dead.length + x.dawn.length
variable {m : Mp}
theorem Fq {σ : Type} {g : Nat} {q : Lv} {E : σ -> yb} {f : xq -> σ -> σ × Bool} {I : σ -> Prop} (hI : ∀ p s, I s -> (f p s).2 = true -> I (f p s).1) (hcl : yX Tryz.prog g = true) (hsee : ∀ m', Le m m' -> ∀ v p s, I s -> q7 m' v p -> CS Tryz.prog g (([] ++ [v]) ++ q) m' [E s] (fun v' L' => v' = .bool (f p s).2 /\ L' = [E (f p s).1])) {l : List xq} (hF : Ga (fq x) l) (hlen : l.length <= 3999) {a : Addr} {cs : Lv} (hat : At m a cs) (hx : cC m cs x) (s : σ) (hs : I s) : CS Tryz.prog 115 [.pointer (some a), .func (.func g) #[] q.toArray] m [E s] (fun v' L' => v' = U0 /\ L' = [E (cV f l s).1]) := by
 obtain ⟨ls, hl, hk, rfl⟩ := hF;obtain ⟨hkn, hkm⟩ := Yp hl hk;have hE := fun i (h : i < ls.length) => Ra hI hcl hsee (hk i za) (by have := hkm i h; omega);obtain ⟨A, la, ca, B, lb, cb, D, ld, cd, rfl, _, hp, hd, hw, _⟩ := hx;obtain ⟨rfl, hp2, pvs, hp3, hp4, hp5⟩ := hp;obtain ⟨rfl, hd2, dvs, hd3, hd4, hd5⟩ := hd;obtain ⟨rfl, hw2, wvs, hw3, hw4, hw5⟩ := hw;have hkl := eO x
 clear hsee hcl hk hkm;refine yQ [] Tryz.func115 rfl rfl rfl ?_;refine tr 1 ?_;refine yw (sT [0, 1, 2, 4, 5, 6, 8, 9, 10, 13, 103, 107, 111, 12] .done) mixed zi (fun _ _ _ _ hq => hq) ?_;refine vt 10 ?_
 iterate 3 (refine Vu 0 rfl (zl y8 rfl (hat.at_ rfl)) ?_)
 refine Vt 0 rfl (uR Hj FP rfl rfl) ?_;refine Vm 2 ?_
 refine yv (α := Nat × σ) (fun y => [(1, .func (.func g) #[] q.toArray), (19, .agg [.slice A x.played.length ca, .slice B x.dead.length cb, .slice D x.dawn.length cd].toArray), (20, .int .i64 (y.1 : Nat))]) (fun y => [E y.2]) (fun y => y.1 <= 3 /\ cV f (ls.take (Ed x y.1)).flatten s = (y.2, true)) (fun y => 3 - y.1) (0, s) YV zx ⟨by dsimp only; omega, rfl⟩ ?_
 rintro ⟨k, s2⟩ ⟨hk3, hg2⟩;dsimp only at hk3 hg2 ⊢
 match k, hk3, hg2 with
 | 0, _, hg2 =>
   have hg2' : cV f (ls.take (0 + 0)).flatten s = (s2, true) := hg2;refine tr 2 ?_;refine y4 10 ?_;refine pe 11 (ub Hj Ic rfl rfl za za rfl) ?_
   refine yv (α := Nat × σ) (fun y => [(1, .func (.func g) #[] q.toArray), (19, .agg [.slice A x.played.length ca, .slice B x.dead.length cb, .slice D x.dawn.length cd].toArray), (20, .int .i64 0), (5, .slice A x.played.length ca), (24, .int .i64 (x.played.length : Nat)), (25, .int .i64 (y.1 : Nat))]) (fun y => [E y.2]) (fun y => y.1 <= x.played.length /\ cV f (ls.take (0 + y.1)).flatten s = (y.2, true)) (fun y => x.played.length - y.1) (0, s2) gB zx ⟨Nat.zero_le _, hg2'⟩ ?_
   rintro ⟨j, s3⟩ ⟨hj, hg3⟩;dsimp only at hj hg3 ⊢;by_cases hlt : j < x.played.length
   ·have hA : A.isSome = true := hp3.isSome za;have hpe := q7.eff (hp3.elem (j * 14) 14) (hp5 j hlt);rw [<- Tw hlt] at hpe;have hgn := ZJ (f := f) (ls := ls) (i := 0 + j) za s (by rw [hg3]);rw [hg3] at hgn;dsimp only at hgn
    have hc := fun m1 (hm : Le m m1) => hE (0 + j) za m1 hm _ (hpe.mono hm) s3 (by have := ZK hI (l := (ls.take (0 + j)).flatten) hs (by rw [hg3]); rw [hg3] at this; exact this);generalize hgq : cV f (ls[0 + j]'(by omega)) s3 = gq at hgn hc;obtain ⟨s4, b4⟩ := gq;dsimp only at hc;refine tr 2 ?_;refine y4 18 ?_;refine pe 0 (zo VJ rfl rfl hA za) ?_
    refine pe 0 (zA VR JP rfl rfl) ?_;refine pe 1 (vW Y9 YU rfl) ?_;refine C1 Ha rfl .here (fun m1 hm he => hc m1 hm) ?_;rintro _ _ ⟨rfl, rfl⟩;cases b4 with
    | true =>
      refine vr 8 ?_;refine Pa 2 ?_;exact QR (j + 1, s4) zx ⟨hlt, hgn⟩ yV
    | false =>
      have hst := ZI (f := f) (ls := ls) (i := 0 + j + 1) s (by rw [hgn]);rw [hgn] at hst;refine vr 7 ?_;refine zu ?_;refine zp ?_;refine zp ?_;refine zD ?_;refine zu ?_;refine zp ?_;exact yn [] trivial [_] zx ⟨rfl, by simp only [hst]⟩
   ·have hje : j = x.played.length := by omega
    subst hje;refine tr 2 ?_;refine zH 6 ?_;refine zm ?_;refine zk ?_;refine qD ?_;refine qt 2 ?_;refine Pa 2 ?_;exact QR (0 + 1, s3) zx ⟨by dsimp only; omega, by rw [Nat.zero_add] at hg3; exact hg3⟩ yV
 | 1, _, hg2 =>
   have hg2' : cV f (ls.take (x.played.length + 0)).flatten s = (s2, true) := hg2;refine tr 2 ?_;refine y4 10 ?_;refine pe 11 (ub Hj Ic rfl rfl za za rfl) ?_
   refine yv (α := Nat × σ) (fun y => [(1, .func (.func g) #[] q.toArray), (19, .agg [.slice A x.played.length ca, .slice B x.dead.length cb, .slice D x.dawn.length cd].toArray), (20, .int .i64 1), (5, .slice B x.dead.length cb), (24, .int .i64 (x.dead.length : Nat)), (25, .int .i64 (y.1 : Nat))]) (fun y => [E y.2]) (fun y => y.1 <= x.dead.length /\ cV f (ls.take (x.played.length + y.1)).flatten s = (y.2, true)) (fun y => x.dead.length - y.1) (0, s2) gB zx ⟨Nat.zero_le _, hg2'⟩ ?_
   rintro ⟨j, s3⟩ ⟨hj, hg3⟩;dsimp only at hj hg3 ⊢;by_cases hlt : j < x.dead.length
   ·have hA : B.isSome = true := hd3.isSome za;have hpe := q7.eff (hd3.elem (j * 14) 14) (hd5 j hlt);rw [<- Tv hlt] at hpe;have hgn := ZJ (f := f) (ls := ls) (i := x.played.length + j) za s (by rw [hg3]);rw [hg3] at hgn;dsimp only at hgn
    have hc := fun m1 (hm : Le m m1) => hE (x.played.length + j) za m1 hm _ (hpe.mono hm) s3 (by have := ZK hI (l := (ls.take (x.played.length + j)).flatten) hs (by rw [hg3]); rw [hg3] at this; exact this);generalize hgq : cV f (ls[x.played.length + j]'(by omega)) s3 = gq at hgn hc;obtain ⟨s4, b4⟩ := gq;dsimp only at hc;refine tr 2 ?_;refine y4 18 ?_
    refine pe 0 (zo VJ rfl rfl hA za) ?_;refine pe 0 (zA VR JP rfl rfl) ?_;refine pe 1 (vW Y9 YU rfl) ?_;refine C1 Ha rfl .here (fun m1 hm he => hc m1 hm) ?_;rintro _ _ ⟨rfl, rfl⟩;cases b4 with
    | true =>
      refine vr 8 ?_;refine Pa 2 ?_;exact QR (j + 1, s4) zx ⟨hlt, hgn⟩ yV
    | false =>
      have hst := ZI (f := f) (ls := ls) (i := x.played.length + j + 1) s (by rw [hgn]);rw [hgn] at hst;refine vr 7 ?_;refine zu ?_;refine zp ?_;refine zp ?_;refine zD ?_;refine zu ?_;refine zp ?_;exact yn [] trivial [_] zx ⟨rfl, by simp only [hst]⟩
   ·have hje : j = x.dead.length := by omega
    subst hje;refine tr 2 ?_;refine zH 6 ?_;refine zm ?_;refine zk ?_;refine qD ?_;refine qt 2 ?_;refine Pa 2 ?_;exact QR (1 + 1, s3) zx ⟨by dsimp only; omega, hg3⟩ yV
 | 2, _, hg2 =>
   have hg2' : cV f (ls.take (x.played.length + x.dead.length + 0)).flatten s = (s2, true) := hg2;refine tr 2 ?_;refine y4 10 ?_;refine pe 11 (ub Hj Ic rfl rfl za za rfl) ?_
   refine yv (α := Nat × σ) (fun y => [(1, .func (.func g) #[] q.toArray), (19, .agg [.slice A x.played.length ca, .slice B x.dead.length cb, .slice D x.dawn.length cd].toArray), (20, .int .i64 2), (5, .slice D x.dawn.length cd), (24, .int .i64 (x.dawn.length : Nat)), (25, .int .i64 (y.1 : Nat))]) (fun y => [E y.2]) (fun y => y.1 <= x.dawn.length /\ cV f (ls.take (x.played.length + x.dead.length + y.1)).flatten s = (y.2, true)) (fun y => x.dawn.length - y.1) (0, s2) gB zx ⟨Nat.zero_le _, hg2'⟩ ?_
   rintro ⟨j, s3⟩ ⟨hj, hg3⟩;dsimp only at hj hg3 ⊢;by_cases hlt : j < x.dawn.length
   ·have hA : D.isSome = true := hw3.isSome za;have hpe := q7.eff (hw3.elem (j * 14) 14) (hw5 j hlt);rw [<- Tu hlt] at hpe;have hgn := ZJ (f := f) (ls := ls) (i := x.played.length + x.dead.length + j) za s (by rw [hg3]);rw [hg3] at hgn;dsimp only at hgn
    have hc := fun m1 (hm : Le m m1) => hE (x.played.length + x.dead.length + j) za m1 hm _ (hpe.mono hm) s3 (by have := ZK hI (l := (ls.take (x.played.length + x.dead.length + j)).flatten) hs (by rw [hg3]); rw [hg3] at this; exact this);generalize hgq : cV f (ls[x.played.length + x.dead.length + j]'(by omega)) s3 = gq at hgn hc;obtain ⟨s4, b4⟩ := gq;dsimp only at hc;refine tr 2 ?_
    refine y4 18 ?_;refine pe 0 (zo VJ rfl rfl hA za) ?_;refine pe 0 (zA VR JP rfl rfl) ?_;refine pe 1 (vW Y9 YU rfl) ?_;refine C1 Ha rfl .here (fun m1 hm he => hc m1 hm) ?_;rintro _ _ ⟨rfl, rfl⟩;cases b4 with
    | true =>
      refine vr 8 ?_;refine Pa 2 ?_;exact QR (j + 1, s4) zx ⟨hlt, hgn⟩ yV
    | false =>
      have hst := ZI (f := f) (ls := ls) (i := x.played.length + x.dead.length + j + 1) s (by rw [hgn]);rw [hgn] at hst;refine vr 7 ?_;refine zu ?_;refine zp ?_;refine zp ?_;refine zD ?_;refine zu ?_;refine zp ?_;exact yn [] trivial [_] zx ⟨rfl, by simp only [hst]⟩
   ·have hje : j = x.dawn.length := by omega
    subst hje;refine tr 2 ?_;refine zH 6 ?_;refine zm ?_;refine zk ?_;refine qD ?_;refine qt 2 ?_;refine Pa 2 ?_;exact QR (2 + 1, s3) zx ⟨by dsimp only; omega, hg3⟩ yV
 | 3, _, hg2 =>
   have hal : Ed x 3 = ls.length := by rw [hl, hkl]; rfl
   rw [hal, List.take_length] at hg2;refine tr 2 ?_;refine zH 6 ?_;refine zm ?_;refine zk ?_;exact yn [] trivial [_] zx ⟨rfl, by simp only [hg2]⟩
theorem EE {b : Nat} {v : Value} {s : Int} (h0 : 0 <= s) (h1 : s <= 4611686018427387904) : CS Tryz.prog 116 [v, .pointer (some ⟨b, 0, none⟩)] m [cel b [iV s] 3] (fun v' L' => v' = .bool (decide (s + 1 < 1073741824)) /\ L' = [cel b [iV (s + 1)] 3]) := by
 refine yQ [.tmp 3] Tryz.func116 rfl rfl rfl ?_;by_cases h : s + 1 < 1073741824
 ·refine tr 7 ?_;refine Lb 0 yl .here ?_;refine Pa 0 ?_;refine Sr 4 fB .here .here ?_;refine Lb 0 yl .here ?_;refine yr 4 ?_;exact yn [_] zj [_] zx ⟨by rw [decide_eq_true h]; rfl, rfl⟩
 ·refine tr 7 ?_;refine Lb 0 yl .here ?_;refine Pa 0 ?_;refine Sr 4 fB .here .here ?_;refine Lb 0 yl .here ?_;refine zF 4 ?_;exact yn [_] zj [_] zx ⟨by rw [decide_eq_false h]; rfl, rfl⟩
end
section
open Kd
variable {m : Mp} {x : zP}
theorem cC.form {vs : Lv} (h : cC m vs x) : ∃ u a1 a2 a3 a4 a5 a6 A la ca B lb cb D ld cd z, vs = [sV x.name, .bool u, iV a1, iV a2, iV a3, iV a4, iV a5, iV a6, .slice A la ca, .slice B lb cb, .slice D ld cd, iV z] := by
 obtain ⟨A, la, ca, B, lb, cb, D, ld, cd, e, _⟩ := h;exact ⟨_, _, _, _, _, _, _, A, la, ca, B, lb, cb, D, ld, cd, _, e⟩
theorem LG {cs : Lv} (hx : cC m cs x) {l : List xq} (hF : Ga (fq x) l) (hlen : l.length <= 3999) : CS Tryz.prog 92 [.agg cs.toArray] m [] (vQ (iV l.length)) := by
 have hx0 := hx;obtain ⟨u, a1, a2, a3, a4, a5, a6, A, la, ca, B, lb, cb, D, ld, cd, z, rfl⟩ := cC.form hx;clear hx;refine yQ [.tmp 2] Tryz.func92 rfl rfl rfl ?_;refine tr 2 ?_;refine Bx 5 rfl fun b1 => ?_;refine Al 0 zl3 fun b2 => ?_;refine Sr 5 fB .here .here ?_
 refine C1 Dc rfl .here (fun m1 hm he => Fq (g := 116) (E := fun s : Int => cel b2 [iV s] 3) (f := Ky) (I := fun s => 0 <= s /\ s < 1073741824) Oc Da (fun m' _ v p s hs _ => EE hs.1 za) hF hlen (At.blk (Hx he)) (hx0.mono hm) 0 ⟨by omega, by omega⟩) ?_;rintro _ _ ⟨rfl, rfl⟩;rw [I0 za];refine vr 4 ?_;refine Lb 4 yl .here ?_
 exact xE zj ⟨by dsimp only; rw [Int.zero_add]; rfl, rfl⟩
end
section
open Kd
def ZU (x : zP) : Nat := yM x.played + yM x.dead + yM x.dawn
theorem W7 {x : zP} {l : List xq} (h : Ga (fq x) l) : l.length = ZU x := by
 rw [Ld h];unfold fq ZU yM;rw [List.map_append, List.map_append, Zw, Zw, Zw, List.sum_append, List.sum_append]
end
section
open Wd Kd
variable {cs : Lv} {m : Mp} {x : zP}
theorem Sq (hx : cC m cs x) : ∃ l, Ga (fq x) l := by
 obtain ⟨A, la, ca, B, lb, cb, D, ld, cd, -, -, ⟨-, -, vp, -, -, hP⟩, ⟨-, -, vd, -, -, hD⟩, ⟨-, -, vw, -, -, hW⟩, -⟩ := hx
 have key : ∀ p ∈ fq x, ∃ l, kj p l := by
  intro p hp;unfold fq at hp;rcases List.mem_append.1 hp with hp | hp
  ·rcases List.mem_append.1 hp with hp | hp
   ·obtain ⟨y, hy, rfl⟩ := List.mem_map.1 hp;obtain ⟨j, hj, rfl⟩ := List.getElem_of_mem hy;exact kj.eff (hP j hj)
   ·obtain ⟨y, hy, rfl⟩ := List.mem_map.1 hp;obtain ⟨j, hj, rfl⟩ := List.getElem_of_mem hy;exact kj.eff (hD j hj)
  ·obtain ⟨y, hy, rfl⟩ := List.mem_map.1 hp;obtain ⟨j, hj, rfl⟩ := List.getElem_of_mem hy;exact kj.eff (hW j hj)
 obtain ⟨ls, e, h⟩ := Xj fun i hi => key _ (List.getElem_mem hi);exact ⟨_, ls, e, h, rfl⟩
theorem OH (hx : cC m cs x) (hw : ZU x <= 3999) : CS Tryz.prog 92 [.agg cs.toArray] m [] (vQ (.int .i64 (ZU x : Nat))) := by
 obtain ⟨l, hF⟩ := Sq hx;have h := W7 hF;have h2 := LG hx hF za;rw [h] at h2;exact h2
def f5 (x : zP) : List Int := [x.cost, x.power, x.health, x.shield, x.apow, x.aheal]
def J1 (u : Us) (x : zP) : Prop :=
 (∀ (i : Nat) (h : i < (f5 x).length), 0 <= (f5 x)[i] /\ (f5 x)[i] <= 999) /\ yL x.name = true /\ ZU x <= 200 /\ ¬ (x.unit = true /\ x.health < 1) /\
  ¬ (x.unit = false /\ (x.power + x.health + x.shield + x.apow + x.aheal > 0 \/ x.dead.length + x.dawn.length > 0)) /\ kK u true 1 x.played /\ kK u false 1 x.dead /\ kK u false 1 x.dawn
theorem Oq (x : zP) {i : Nat} (h : i < 6) : cF [.int .i64 x.cost, .int .i64 x.power, .int .i64 x.health, .int .i64 x.shield, .int .i64 x.apow, .int .i64 x.aheal] (((i : Nat) : Int).toNat * 1) = some (.int .i64 ((f5 x)[i]'h)) := by
 match i, h with
 | 0, _ => rfl
 | 1, _ => rfl
 | 2, _ => rfl
 | 3, _ => rfl
 | 4, _ => rfl
 | 5, _ => rfl
theorem D4 {a : Addr} {bm : Nat} {ul : List (Bt × Bool)} (hT : xU m) (hx : cC m cs x) (hat : At m a cs) (hmap : gG m bm (NY ul)) (hnl : x.name.length <= 140737488355328) (hw : ZU x <= 3999) :
  CS Tryz.prog 54 [.pointer (some a), .map (some bm)] m [] (fun v L' => L' = [] /\ ∃ r, v = .bool r /\ (r = true ↔ J1 (eC ul) x)) := by
 have hx0 := hx;obtain ⟨A, la, ca, B, lb, cb, D, ld, cd, rfl, -, hP, hD, hW, w1, w2, w3, w4, w5, w6, w7⟩ := hx;have e1 := hP.1;have e2 := hD.1;have e3 := hW.1;subst e1 e2 e3;have hml2 := hD.2.1;have hml3 := hW.2.1;unfold maxLen at hml2 hml3
 have hlens : x.dead.length + x.dawn.length <= 3999 := by
  obtain ⟨l, hF⟩ := Sq hx0;have h := W7 hF;obtain ⟨ls, e, hk, rfl⟩ := hF;have := (Yp e hk).1;rw [eO] at this;omega
 refine yQ [.tmp 4] Tryz.func54 rfl rfl rfl ?_;refine tr 7 ?_;refine yw (sT [0, 1, 2, 4, 5, 6, 8, 9, 10, 12, 13, 14, 16, 17, 18, 20, 21, 22, 25, 103, 107, 111, 115, 119, 123, 24] .done) mixed zi (fun _ _ _ _ hq => hq) ?_;refine vt 19 ?_
 iterate 6 (refine Vu 0 rfl (zl yl rfl (hat.at_ rfl)) ?_)
 refine Vt 0 rfl (uR Hk FR rfl rfl) ?_;refine Vm 2 ?_
 refine yv (α := Nat) (fun i => [(0, .pointer (some a)), (1, .map (some bm)), (32, .agg [.int .i64 x.cost, .int .i64 x.power, .int .i64 x.health, .int .i64 x.shield, .int .i64 x.apow, .int .i64 x.aheal].toArray), (33, .int .i64 (i : Nat))]) (fun _ => []) (fun i => i <= 6 /\ ∀ (j : Nat) (h : j < (f5 x).length), j < i -> 0 <= (f5 x)[j] /\ (f5 x)[j] <= 999) (fun i => 6 - i) 0 de zx ⟨Nat.zero_le _, fun _ _ h => by cases h⟩ ?_
 rintro i ⟨hi, hdone⟩
 try dsimp only at hi hdone
 try dsimp only
 by_cases hlt : i < 6
 ·have hq := Oq x hlt;generalize hqi : (f5 x)[i]'hlt = q at hq;have hno : ¬ (0 <= q /\ q <= 999) -> ¬ J1 (eC ul) x := fun h1 h2 => h1 (by rw [<- hqi]; exact h2.1 i hlt);by_cases hq0 : q < 0
  ·refine tr 2 ?_;refine y4 10 ?_;refine pe 6 ((ub Hk Id rfl rfl za za hq)) ?_;refine yr 15 ?_;refine zu ?_;refine zp ?_;refine zD ?_;exact xE zj ⟨rfl, false, rfl, fun h => (by cases h), fun h => absurd h (hno za)⟩
  by_cases hq9 : q > 999
  ·refine tr 2 ?_;refine y4 10 ?_;refine pe 6 ((ub Hk Id rfl rfl za za hq)) ?_;refine zF 2 ?_;refine yr 12 ?_;refine zu ?_;refine zp ?_;refine zD ?_;exact xE zj ⟨rfl, false, rfl, fun h => (by cases h), fun h => absurd h (hno za)⟩
  refine tr 2 ?_;refine y4 10 ?_;refine pe 6 ((ub Hk Id rfl rfl za za hq)) ?_;refine zF 2 ?_;refine zF 8 ?_;refine Pa 2 ?_
  exact QR (i + 1) zx ⟨hlt, fun j h h2 => by
   by_cases hji : j < i
   ·exact hdone j h hji
   ·obtain rfl : j = i := by omega
    have e : (f5 x)[j] = q := hqi
    omega⟩ za
 have hall : ∀ (j : Nat) (h : j < (f5 x).length), 0 <= (f5 x)[j] /\ (f5 x)[j] <= 999 := fun j h => hdone j h (by have : (f5 x).length = 6 := rfl; omega);clear hdone;have q1 : 0 <= x.power /\ x.power <= 999 := hall 1 (by show _ < 6; omega);have q2 : 0 <= x.health /\ x.health <= 999 := hall 2 (by show _ < 6; omega);have q3 : 0 <= x.shield /\ x.shield <= 999 := hall 3 (by show _ < 6; omega)
 have q4 : 0 <= x.apow /\ x.apow <= 999 := hall 4 (by show _ < 6; omega);have q5 : 0 <= x.aheal /\ x.aheal <= 999 := hall 5 (by show _ < 6; omega);refine tr 2 ?_;refine zH 6 ?_;refine zm ?_;refine zk ?_;refine qt 9 ?_;refine Lo 0 yI rfl (hat.at_ rfl) ?_;refine Cr YH rfl (fun m' hm he => (qU (hT.mono hm) za)) ?_;rintro _ rfl;cases hnm : yL x.name with
 | false =>
   refine vr 16 ?_;exact xE zj ⟨rfl, false, rfl, fun h => (by cases h), fun h => by rw [h.2.1] at hnm; cases hnm⟩
 | true =>
 refine vr 9 ?_;refine La 0 kI hat ?_;refine Cr Cf rfl (fun m' hm he => (OH (hx0.mono hm) hw)) ?_;rintro _ rfl;by_cases hw2 : ZU x <= 200
 rotate_left
 ·refine y4 15 ?_;exact xE zj ⟨rfl, false, rfl, fun h => (by cases h), fun h => absurd h.2.2.1 hw2⟩
 have hfin : (¬ (x.unit = true /\ x.health < 1) /\ ¬ (x.unit = false /\ (x.power + x.health + x.shield + x.apow + x.aheal > 0 \/ x.dead.length + x.dawn.length > 0)) /\ kK (eC ul) true 1 x.played /\ kK (eC ul) false 1 x.dead /\ kK (eC ul) false 1 x.dawn) ↔ J1 (eC ul) x :=
  ⟨fun h => ⟨hall, hnm, hw2, h⟩, fun h => h.2.2.2⟩
 rw [<- hfin];refine zH 8 ?_;refine Lo 0 cH rfl (hat.at_ rfl) ?_;cases hun : x.unit with
 | true =>
   rw [hun] at hat;by_cases hh : x.health < 1
   ·refine vr 4 ?_;refine Lo 0 yl rfl (hat.at_ rfl) ?_;refine yr 13 ?_;exact xE zj ⟨rfl, false, rfl, fun h => (by cases h), fun h => absurd ⟨rfl, hh⟩ h.1⟩
   have HA : ¬ (true = true /\ x.health < 1) := fun h => hh h.2;have HB : ¬ (true = false /\ (x.power + x.health + x.shield + x.apow + x.aheal > 0 \/ x.dead.length + x.dawn.length > 0)) := fun h => by cases h.1
   refine vr 4 ?_;refine Lo 0 yl rfl (hat.at_ rfl) ?_;refine zF 6 ?_;refine yw (sT [0, 1, 2, 103, 4, 5, 6, 7, 8, 10, 11, 12, 15, 16, 17, 20, 21, 22, 25, 26, 27, 109, 113, 14, 118, 19, 123, 24, 128, 29, 30, 31, 32, 33, 34, 37, 38, 39, 135, 36, 140, 41, 42, 43, 44, 45, 46] .done) mixed zi (fun _ _ _ _ hq => hq) ?_;refine vt 3 ?_;refine Vu 43 rfl (zl cH rfl (hat.at_ rfl)) ?_
   refine Vm 8 ?_;refine pe 0 (zA R5 Se rfl rfl) ?_;refine Bx 10 rfl fun b1 => ?_;refine Lo 0 y8 rfl (hat.at_ rfl) ?_;refine zg ((yK KA rfl (fun m1 hm1 he => aK _ m1 A ca b1 1 ul true (hP.mono hm1) ⟨bm, zZ (Hx he) rfl, zZ (Hx he) rfl, hmap.mono hm1⟩ za) rfl ?_)) rfl;rintro _ _ ⟨rfl, r, rfl, hr⟩;cases r with
   | false =>
     refine vr 11 ?_;exact xE zj ⟨rfl, false, rfl, fun h => (by cases h), fun h => absurd (hr.2 h.2.2.1) zb⟩
   | true =>
   have hr1 := hr.1 rfl;clear hr;refine vr 11 ?_;refine Sr 8 T9 .here .h1 ?_;refine Lo 0 y8 rfl (hat.at_ rfl) ?_;refine zg ((yK KA rfl (fun m1 hm1 he => aK _ m1 B cb b1 1 ul false (hD.mono hm1) ⟨bm, zZ (Hx he) rfl, zZ (Hx he) rfl, hmap.mono hm1⟩ za) rfl ?_)) rfl;rintro _ _ ⟨rfl, r, rfl, hr⟩;cases r with
   | false =>
     refine vr 12 ?_;exact xE zj ⟨rfl, false, rfl, fun h => (by cases h), fun h => absurd (hr.2 h.2.2.2.1) zb⟩
   | true =>
   have hr2 := hr.1 rfl;clear hr;refine vr 5 ?_;refine Lo 0 y8 rfl (hat.at_ rfl) ?_;refine zg ((yK KA rfl (fun m1 hm1 he => aK _ m1 D cd b1 1 ul false (hW.mono hm1) ⟨bm, zZ (Hx he) rfl, zZ (Hx he) rfl, hmap.mono hm1⟩ za) rfl ?_)) rfl;rintro _ _ ⟨rfl, r, rfl, hr⟩;refine vr 5 ?_
   exact xE zj ⟨rfl, r, rfl, fun h => ⟨HA, HB, hr1, hr2, hr.1 h⟩, fun h => hr.2 h.2.2.2.2⟩
 | false =>
   rw [hun] at hat;by_cases hs : x.power + x.health + x.shield + x.apow + x.aheal > 0
   ·refine vr 12 ?_;refine yw (sT [0, 1, 2, 103, 4, 5, 6, 7, 8, 10, 11, 12, 15, 16, 17, 20, 21, 22, 25, 26, 27, 109, 113, 14, 118, 19, 123, 24, 128, 29, 30, 31, 32, 33, 34, 37, 38, 39, 135, 36, 140, 41, 42, 43, 44, 45, 46] .done) mixed zi (fun _ _ _ _ hq => hq) ?_;refine vt 3 ?_;refine Vu 17 rfl (zl cH rfl (hat.at_ rfl)) ?_;refine Vu 0 rfl (zl yl rfl (hat.at_ rfl)) ?_
    refine Vu 0 rfl (zl yl rfl (hat.at_ rfl)) ?_;refine Vt 0 rfl ((wO rfl rfl (fK za za))) ?_;refine Vu 0 rfl (zl yl rfl (hat.at_ rfl)) ?_;refine Vt 0 rfl ((wO rfl rfl (fK za za))) ?_;refine Vu 0 rfl (zl yl rfl (hat.at_ rfl)) ?_;refine Vt 0 rfl ((wO rfl rfl (fK za za))) ?_;refine Vu 0 rfl (zl yl rfl (hat.at_ rfl)) ?_
    refine Vt 0 rfl ((wO rfl rfl (fK za za))) ?_;refine Vt 16 rfl (dt (dy rfl rfl) xi) ?_;refine Vm 10 ?_;exact xE zj ⟨rfl, false, rfl, fun h => (by cases h), fun h => absurd ⟨rfl, .inl hs⟩ h.2.1⟩
   by_cases hs2 : x.dead.length + x.dawn.length > 0
   ·refine vr 12 ?_;refine yw (sT [0, 1, 2, 103, 4, 5, 6, 7, 8, 10, 11, 12, 15, 16, 17, 20, 21, 22, 25, 26, 27, 109, 113, 14, 118, 19, 123, 24, 128, 29, 30, 31, 32, 33, 34, 37, 38, 39, 135, 36, 140, 41, 42, 43, 44, 45, 46] .done) mixed zi (fun _ _ _ _ hq => hq) ?_;refine vt 3 ?_;refine Vu 17 rfl (zl cH rfl (hat.at_ rfl)) ?_;refine Vu 0 rfl (zl yl rfl (hat.at_ rfl)) ?_
    refine Vu 0 rfl (zl yl rfl (hat.at_ rfl)) ?_;refine Vt 0 rfl ((wO rfl rfl (fK za za))) ?_;refine Vu 0 rfl (zl yl rfl (hat.at_ rfl)) ?_;refine Vt 0 rfl ((wO rfl rfl (fK za za))) ?_;refine Vu 0 rfl (zl yl rfl (hat.at_ rfl)) ?_;refine Vt 0 rfl ((wO rfl rfl (fK za za))) ?_;refine Vu 0 rfl (zl yl rfl (hat.at_ rfl)) ?_
    refine Vt 0 rfl ((wO rfl rfl (fK za za))) ?_;refine Vt 7 rfl (df (dy rfl rfl) xi) ?_;refine Vu 1 rfl (zl y8 rfl (hat.at_ rfl)) ?_;refine Vu 1 rfl (zl y8 rfl (hat.at_ rfl)) ?_;refine Vt 0 rfl (xK rfl rfl za) ?_;refine Vt 3 rfl (dt (dy rfl rfl) za) ?_;refine Vm 10 ?_
    exact xE zj ⟨rfl, false, rfl, fun h => (by cases h), fun h => absurd ⟨rfl, .inr hs2⟩ h.2.1⟩
   have HA : ¬ (false = true /\ x.health < 1) := fun h => by cases h.1
   have HB : ¬ (false = false /\ (x.power + x.health + x.shield + x.apow + x.aheal > 0 \/ x.dead.length + x.dawn.length > 0)) := fun h => h.2.elim hs hs2;refine vr 12 ?_
   refine yw (sT [0, 1, 2, 103, 4, 5, 6, 7, 8, 10, 11, 12, 15, 16, 17, 20, 21, 22, 25, 26, 27, 109, 113, 14, 118, 19, 123, 24, 128, 29, 30, 31, 32, 33, 34, 37, 38, 39, 135, 36, 140, 41, 42, 43, 44, 45, 46] .done) mixed zi (fun _ _ _ _ hq => hq) ?_;refine vt 3 ?_;refine Vu 17 rfl (zl cH rfl (hat.at_ rfl)) ?_;refine Vu 0 rfl (zl yl rfl (hat.at_ rfl)) ?_
   refine Vu 0 rfl (zl yl rfl (hat.at_ rfl)) ?_;refine Vt 0 rfl ((wO rfl rfl (fK za za))) ?_;refine Vu 0 rfl (zl yl rfl (hat.at_ rfl)) ?_;refine Vt 0 rfl ((wO rfl rfl (fK za za))) ?_;refine Vu 0 rfl (zl yl rfl (hat.at_ rfl)) ?_;refine Vt 0 rfl ((wO rfl rfl (fK za za))) ?_;refine Vu 0 rfl (zl yl rfl (hat.at_ rfl)) ?_
   refine Vt 0 rfl ((wO rfl rfl (fK za za))) ?_;refine Vt 7 rfl (df (dy rfl rfl) xi) ?_;refine Vu 1 rfl (zl y8 rfl (hat.at_ rfl)) ?_;refine Vu 1 rfl (zl y8 rfl (hat.at_ rfl)) ?_;refine Vt 0 rfl (xK rfl rfl za) ?_;refine Vt 3 rfl (df (dy rfl rfl) za) ?_;refine Vm 8 ?_;refine pe 0 (zA R5 Se rfl rfl) ?_
   refine Bx 10 rfl fun b1 => ?_;refine Lo 0 y8 rfl (hat.at_ rfl) ?_;refine zg ((yK KA rfl (fun m1 hm1 he => aK _ m1 A ca b1 1 ul true (hP.mono hm1) ⟨bm, zZ (Hx he) rfl, zZ (Hx he) rfl, hmap.mono hm1⟩ za) rfl ?_)) rfl;rintro _ _ ⟨rfl, r, rfl, hr⟩;cases r with
   | false =>
     refine vr 11 ?_;exact xE zj ⟨rfl, false, rfl, fun h => (by cases h), fun h => absurd (hr.2 h.2.2.1) zb⟩
   | true =>
   have hr1 := hr.1 rfl;clear hr;refine vr 11 ?_;refine Sr 8 T9 .here .h1 ?_;refine Lo 0 y8 rfl (hat.at_ rfl) ?_;refine zg ((yK KA rfl (fun m1 hm1 he => aK _ m1 B cb b1 1 ul false (hD.mono hm1) ⟨bm, zZ (Hx he) rfl, zZ (Hx he) rfl, hmap.mono hm1⟩ za) rfl ?_)) rfl;rintro _ _ ⟨rfl, r, rfl, hr⟩;cases r with
   | false =>
     refine vr 12 ?_;exact xE zj ⟨rfl, false, rfl, fun h => (by cases h), fun h => absurd (hr.2 h.2.2.2.1) zb⟩
   | true =>
   have hr2 := hr.1 rfl;clear hr;refine vr 5 ?_;refine Lo 0 y8 rfl (hat.at_ rfl) ?_;refine zg ((yK KA rfl (fun m1 hm1 he => aK _ m1 D cd b1 1 ul false (hW.mono hm1) ⟨bm, zZ (Hx he) rfl, zZ (Hx he) rfl, hmap.mono hm1⟩ za) rfl ?_)) rfl;rintro _ _ ⟨rfl, r, rfl, hr⟩;refine vr 5 ?_
   exact xE zj ⟨rfl, r, rfl, fun h => ⟨HA, HB, hr1, hr2, hr.1 h⟩, fun h => hr.2 h.2.2.2.2⟩
end
section
open Go Go.Eng Kd Wd
def KS (acc : List (Bt × Bool)) (c : zP) : List (Bt × Bool) := if (eC acc c.name).isSome then acc else acc ++ [(c.name, c.unit)]
def jX (l : List zP) : List (Bt × Bool) := l.foldl KS []
theorem UW (l : List zP) (c : zP) : jX (l ++ [c]) = KS (jX l) c := by simp [jX]
variable {i : Nat} {l : List zP}
theorem UV (h : i < l.length) : jX (l.take (i + 1)) = KS (jX (l.take i)) l[i] := by
 rw [List.take_add_one, List.getElem?_eq_getElem h];exact UW _ _
def uC (l : List zP) : Us := fun s => (l.find? fun c => decide (s = c.name)).map (·.unit)
theorem Mq (acc : List (Bt × Bool)) (c : zP) (s : Bt) : eC (KS acc c) s = match eC acc s with | some v => some v | none => if s = c.name then some c.unit else none := by
 unfold KS
 split
 ·rename_i h
  cases hs : eC acc s with
  | some v => rfl
  | none =>
    by_cases he : s = c.name
    ·subst he; rw [hs] at h; cases h
    ·simp [he]
 ·exact Mo
theorem VW : ∀ (l : List zP) (acc : List (Bt × Bool)) (s : Bt), eC (l.foldl KS acc) s = match eC acc s with | some v => some v | none => uC l s
 | [], acc, s => by cases h : eC acc s <;> simp [uC, h]
 | c :: r, acc, s => by
   rw [List.foldl_cons, VW r, Mq];cases h : eC acc s with
   | some v => rfl
   | none =>
     unfold uC;by_cases he : s = c.name
     ·simp [he]
     ·simp [he]
theorem HJ (l : List zP) : eC (jX l) = uC l := by
 funext s
 rw [jX, VW]
 rfl
def uh (l : List zP) : List Bt := l.map (·.name)
theorem JZ (h : i < l.length) : uh (l.take (i + 1)) = uh (l.take i) ++ [l[i].name] := by
 unfold uh;rw [List.take_add_one, List.getElem?_eq_getElem h, List.map_append]
 rfl
def Xw (l : List zP) (i : Nat) (h : i < l.length) : Prop := l[i].name ∉ uh (l.take i) /\ J1 (uC l) l[i]
def kL (l : List zP) (e a : Int) : Prop :=
 (240 < l.length /\ e = 3 /\ a = 0) \/ (l.length <= 240 /\ ((e = 0 /\ a = 0 /\ ∀ (i : Nat) (h : i < l.length), Xw l i h) \/
  ∃ (i : Nat) (h : i < l.length), (∀ (j : Nat) (hj : j < i), Xw l j za) /\ a = l[i].at_ /\ ((e = 101 /\ l[i].name ∈ uh (l.take i)) \/ (e = 130 /\ l[i].name ∉ uh (l.take i) /\ ¬ J1 (uC l) l[i]))))
theorem kL.ok {a : Int} (h : kL l 0 a) : l.length <= 240 /\ ∀ (i : Nat) (h : i < l.length), Xw l i h := by
 rcases h with ⟨_, e, _⟩ | ⟨h1, ⟨_, _, h2⟩ | ⟨i, h, _, _, ⟨e, _⟩ | ⟨e, _⟩⟩⟩
 ·cases e
 ·exact ⟨h1, h2⟩
 ·cases e
 ·cases e
end
section
open Wd Kd
theorem WL (l : List Bt) (s : Bt) : (gv (fM l) s).getD (.bool false) = .bool (decide (s ∈ l)) := by
 unfold gv;by_cases h : s ∈ l
 ·obtain ⟨j, hj⟩ := cX l 0 h
  simp [hj, h]
 ·simp [fy l 0 h, h]
theorem Wj {l : List Bt} {s : Bt} (h : s ∉ l) : gK (fM l) s (.bool true) = fM (l ++ [s]) := by
 unfold gK;rw [fy l 0 h]
 simp [fM]
theorem FB {m : Mp} {A : Oa} {cap : Nat} {cards : List zP} (hT : xU m) (hc : ep m A cards.length cards) (hb : cards.length <= 240 -> ∀ (i : Nat) (h : i < cards.length), cards[i].name.length <= 140737488355328 /\ ZU cards[i] <= 3999) :
  CS Tryz.prog 22 [.slice A cards.length cap] m [] (fun v L' => L' = [] /\ ∃ e a, v = xb e a /\ kL cards e a) := by
 obtain ⟨-, hml, vs, hrd, hvl, hel⟩ := hc;unfold maxLen at hml;refine yQ [.cell 2 31] Tryz.func22 rfl rfl rfl ?_;by_cases h240 : cards.length <= 240
 rotate_left
 ·refine tr 2 ?_;refine Al 7 wR fun b1 => ?_;refine y4 5 ?_;refine pe 0 (zA wR kx rfl rfl) ?_;refine Sg 4 y5 .here ?_;exact yn [_] ⟨⟨b1, _, _, _, rfl, .here, .inr ⟨rfl, rfl⟩⟩, trivial⟩ [] ya ⟨rfl, 3, 0, rfl, .inl ⟨by omega, rfl, rfl⟩⟩
 have hb := hb h240;refine tr 2 ?_;refine Al 7 wR fun b1 => ?_;refine zH 7 ?_;refine zg (qT rfl (fun b2 => ?_)) rfl;refine vr 12 ?_
 refine yv (α := Nat) (fun i => [(0, .slice A cards.length cap), (2, .pointer (some ⟨b1, 0, none⟩)), (3, .map (some b2)), (16, .slice A cards.length cap), (17, .int .i64 (cards.length : Nat)), (18, .int .i64 (i : Nat))]) (fun i => [uF b2 (NY (jX (cards.take i))), cel b1 [.int .i64 0, .int .i64 0] 31]) (fun i => i <= cards.length) (fun i => cards.length - i) 0 gB zx (Nat.zero_le _) ?_
 rintro i hi
 try dsimp only
 by_cases hlt : i < cards.length
 ·have hA : A.isSome = true := hrd.isSome za;have hx := hel i hlt;have hat := hrd.elem (i * 12) 12;have hst := UV hlt;generalize cards[i] = x at hx hst;generalize (vs.drop (i * 12)).take 12 = cs at hx hat;obtain ⟨PA, la, ca, PB, lb, cb, PD, ld, cd, rfl, -⟩ := hx;generalize hus' : jX (cards.take (i + 1)) = us' at hst;generalize jX (cards.take i) = us at hst
  have hgu := WM (s := x.name) (l := us);cases hu : eC us x.name with
  | none =>
    rw [hu] at hgu;have e : us' = us ++ [(x.name, x.unit)] := by rw [hst, KS, if_neg (by rw [hu]; simp)]
    have hput := MX (s := x.name) (l := us) (b := x.unit) hu;rw [<- e] at hput;refine tr 2 ?_;refine y4 10 ?_;refine pe 0 (zo WS rfl rfl hA za) ?_;refine La 0 kI hat ?_;refine Al 0 Vx fun b3 => ?_;refine Sg 6 kI .here ?_;refine Lb 0 yI .here ?_;refine lr 0 (UJ qZ rfl rfl .h1 al) ?_;rw [hgu];refine vr 17 ?_;refine Lb 1 yI .here ?_
    refine Lb 0 cH .here ?_;refine zg (wY qZ rfl rfl rfl .h1 ?_) rfl;refine vr 4 ?_;refine Pa 2 ?_;rw [hput];exact QR (i + 1) (by rw [hus']; exact .cons .h1 .p1) hlt za
  | some u =>
    rw [hu] at hgu;have e : us' = us := by rw [hst, KS, if_pos (by rw [hu]; simp)]
    subst e;refine tr 2 ?_;refine y4 10 ?_;refine pe 0 (zo WS rfl rfl hA za) ?_;refine La 0 kI hat ?_;refine Al 0 Vx fun b3 => ?_;refine Sg 6 kI .here ?_;refine Lb 0 yI .here ?_;refine lr 0 (UJ qZ rfl rfl .h1 al) ?_;rw [hgu];refine vr 18 ?_;refine Pa 2 ?_;exact QR (i + 1) (by rw [hus']; exact .cons .h1 .p1) hlt za
 have hi2 : i = cards.length := by omega
 subst hi2;rw [List.take_length];have hus := HJ cards;generalize jX cards = us at hus;refine tr 2 ?_;refine zH 6 ?_;refine zm ?_;refine zk ?_;refine qt 3 ?_;refine zg (qT rfl (fun b3 => ?_)) rfl;refine vr 12 ?_
 refine yv (α := Nat) (fun i => [(0, .slice A cards.length cap), (2, .pointer (some ⟨b1, 0, none⟩)), (3, .map (some b2)), (8, .map (some b3)), (39, .int .i64 (cards.length : Nat)), (40, .int .i64 (i : Nat))]) (fun i => [uF b3 (fM (uh (cards.take i))), uF b2 (NY us), cel b1 [.int .i64 0, .int .i64 0] 31]) (fun i => i <= cards.length /\ ∀ (j : Nat) (h : j < cards.length), j < i -> Xw cards j h) (fun i => cards.length - i) 0 gB zx ⟨Nat.zero_le _, fun _ _ h => by cases h⟩ ?_
 clear hi hlt;rintro i ⟨hi, hdone⟩
 try dsimp only at hi hdone
 try dsimp only
 by_cases hlt : i < cards.length
 rotate_left
 ·refine tr 2 ?_;refine zH 6 ?_;refine zm ?_;refine zk ?_;refine qt 3 ?_;refine pe 0 (zA wR kx rfl rfl) ?_;refine Sg 3 y5 .h2 ?_;exact yn [_] ⟨⟨b1, _, _, _, rfl, .h2, .inr ⟨rfl, rfl⟩⟩, trivial⟩ [] ya ⟨rfl, 0, 0, rfl, .inr ⟨h240, .inl ⟨rfl, rfl, fun j h => hdone j h za⟩⟩⟩
 have hA : A.isSome = true := hrd.isSome za;have hx := hel i hlt;have hat := hrd.elem (i * 12) 12;have hst := JZ hlt;have hbi := hb i hlt
 have hex : ∀ (e : Int), ((e = 101 /\ cards[i].name ∈ uh (cards.take i)) \/ (e = 130 /\ cards[i].name ∉ uh (cards.take i) /\ ¬ J1 (uC cards) cards[i])) -> kL cards e cards[i].at_ := fun e h =>
  .inr ⟨h240, .inr ⟨i, hlt, fun j hj => hdone j za hj, rfl, h⟩⟩
 have hnext : cards[i].name ∉ uh (cards.take i) -> J1 (uC cards) cards[i] -> ∀ (j : Nat) (h : j < cards.length), j < i + 1 -> Xw cards j h := fun h1 h2 j h hj => by
  by_cases hji : j < i
  ·exact hdone j h hji
  ·obtain rfl : j = i := by omega
   exact ⟨h1, h2⟩
 generalize cards[i] = x at hx hst hbi hex hnext;generalize (vs.drop (i * 12)).take 12 = cs at hx hat;have hx0 := hx;have hat0 := hat;obtain ⟨PA, la, ca, PB, lb, cb, PD, ld, cd, rfl, -⟩ := hx;generalize hns' : uh (cards.take (i + 1)) = ns' at hst;generalize uh (cards.take i) = ns at hst hex hnext ⊢;have hgu := WL ns x.name;by_cases hin : x.name ∈ ns
 ·rw [decide_eq_true hin] at hgu;refine tr 2 ?_;refine y4 18 ?_;refine pe 11 (zo WS rfl rfl hA za) ?_;refine Lo 0 yI rfl (hat0.at_ rfl) ?_;refine lr 0 (cr qZ rfl rfl .here al) ?_;rw [hgu];refine vr 9 ?_;refine Lo 0 yl rfl (hat0.at_ rfl) ?_;refine pe 0 (zA wR kx rfl rfl) ?_;refine Sg 7 y5 .h2 ?_;refine zu ?_;refine zp ?_
  refine zD ?_;exact yn [_] ⟨⟨b1, _, _, _, rfl, .h2, .inr ⟨rfl, rfl⟩⟩, trivial⟩ [] ya ⟨rfl, 101, x.at_, rfl, hex _ (.inl ⟨rfl, hin⟩)⟩
 rw [decide_eq_false hin] at hgu;have hput := Wj hin;rw [<- hst] at hput;refine tr 2 ?_;refine y4 18 ?_;refine pe 11 (zo WS rfl rfl hA za) ?_;refine Lo 0 yI rfl (hat0.at_ rfl) ?_;refine lr 0 (cr qZ rfl rfl .here al) ?_;rw [hgu];refine vr 8 ?_
 refine zg ((yK Cw rfl (fun m1 hm1 he => D4 (hT.mono hm1) (hx0.mono hm1) (hat0.mono hm1) (gG.of (he _ (.tail _ (.head _)))) hbi.1 hbi.2) rfl ?_)) rfl;rintro _ _ ⟨rfl, r, rfl, hr⟩;rw [hus] at hr;cases r with
 | false =>
   refine vr 10 ?_;refine Lo 0 yl rfl (hat0.at_ rfl) ?_;refine pe 0 (zA wR kx rfl rfl) ?_;refine Sg 7 y5 .h2 ?_;refine zu ?_;refine zp ?_;refine zD ?_;exact yn [_] ⟨⟨b1, _, _, _, rfl, .h2, .inr ⟨rfl, rfl⟩⟩, trivial⟩ [] ya ⟨rfl, 130, x.at_, rfl, hex _ (.inr ⟨rfl, hin, fun h => absurd (hr.2 h) zb⟩)⟩
 | true =>
   refine vr 13 ?_;refine Lo 0 yI rfl (hat0.at_ rfl) ?_;refine zg (wY qZ rfl rfl rfl .here ?_) rfl;refine vr 4 ?_;refine Pa 2 ?_;rw [hput];exact QR (i + 1) (by rw [hns']; exact zN.refl _) ⟨hlt, hnext hin (hr.1 rfl)⟩ za
end
section
open Wd Kd
end
section
open Wd Tp Kd
variable {m : Mp}
variable {cs : Lv}
theorem Sm {x : zP} (h : bh m cs x) : O8 cs := by
 obtain ⟨q, rfl, -⟩ := h;exact ⟨_, _, _, _, _, _, _, _, _, _, _, _, _, _, _, _, _, _, rfl⟩
theorem Sn {x : y6} (h : VQ m cs x) : O9 cs := by
 obtain ⟨q, rfl, -⟩ := h;exact ⟨_, _, _, _, _, _, _, _, _, _, _, rfl⟩
variable {A A' : Oa} {c c' : Nat}
theorem Rn {l l' : List zP} (hC : jc m A l) (hC' : jc m A' l') (hl : l.length <= 140737488355328) (hl' : l'.length <= 140737488355328) :
  CS Tryz.prog 15 [.slice A l.length c, .slice A' l'.length c', ZS 16] m [] (qi (l.length = l'.length /\ ∀ (i : Nat) (h : i < l.length) (h' : i < l'.length), V6 l[i] l'[i])) := by
 obtain ⟨vs, hrd, hvl, hel⟩ := hC;obtain ⟨vs', hrd', hvl', hel'⟩ := hC';exact Ew (R := V6) hrd hvl hrd' hvl' za za (fun i h => Sm (hel i h)) (fun i h => Sm (hel' i h)) fun i h h' m2 hm2 => Fi ((hel i h).mono hm2) ((hel' i h').mono hm2)
theorem TX {l l' : List y6} (hC : gH m A l) (hC' : gH m A' l') (hl : l.length <= 140737488355328) (hl' : l'.length <= 140737488355328) (hb : ∀ f ∈ l, f.banned.length <= 140737488355328 /\ f.single.length <= 140737488355328) (hb' : ∀ f ∈ l', f.banned.length <= 140737488355328 /\ f.single.length <= 140737488355328) :
  CS Tryz.prog 17 [.slice A l.length c, .slice A' l'.length c', ZS 18] m [] (qi (l.length = l'.length /\ ∀ (i : Nat) (h : i < l.length) (h' : i < l'.length), V5 l[i] l'[i])) := by
 obtain ⟨vs, hrd, hvl, hel⟩ := hC;obtain ⟨vs', hrd', hvl', hel'⟩ := hC';exact Ev (R := V5) hrd hvl hrd' hvl' za za (fun i h => Sn (hel i h)) (fun i h => Sn (hel' i h)) fun i h h' m2 hm2 => NN ((hel i h).mono hm2) ((hel' i h').mono hm2) (hb _ (List.getElem_mem h)) (hb' _ (List.getElem_mem h'))
section
variable {K F K' F' : Oa} {kc fc kc' fc' : Nat} {a b : ew}
theorem Dw (hC : jc m K a.cards) (hF : gH m F a.fmts) (hC' : jc m K' b.cards) (hF' : gH m F' b.fmts) (hs : Dz a) (hs' : Dz b) :
  CS Tryz.prog 7 [.agg (KP K a.cards.length kc F a.fmts.length fc).toArray, .agg (KP K' b.cards.length kc' F' b.fmts.length fc').toArray] m [] (qi (Iy a b)) := by
 refine yQ [.tmp 4] Tryz.func7 rfl rfl rfl ?_;refine tr 2 ?_;refine Bx 0 rfl fun b1 => ?_;refine Bx 5 rfl fun b2 => ?_;refine Al 5 DR fun b3 => ?_;refine Lb 1 b8 .h2 ?_;refine Lb 0 b8 .h1 ?_;refine Lc 1 VO .here ?_;refine zg ((yK CR rfl (fun m' hm he => Rn (hC.mono hm) (hC'.mono hm) hs.1 hs'.1) rfl ?_)) rfl;rintro _ _ ⟨⟨rfl, q0⟩ | ⟨rfl, hq⟩, rfl⟩
 rotate_left
 ·refine vr 13 ?_;exact xE zj ⟨.inr ⟨rfl, fun h => hq ⟨h.lc, h.c⟩⟩, rfl⟩
 refine vr 2 ?_;refine Lb 1 cJ .h2 ?_;refine Lb 0 cJ .h1 ?_;refine Lc 1 VO .here ?_;refine zg ((yK CO rfl (fun m' hm he => TX (hF.mono hm) (hF'.mono hm) hs.2.1 hs'.2.1 hs.2.2 hs'.2.2) rfl ?_)) rfl;rintro _ _ ⟨⟨rfl, q1⟩ | ⟨rfl, hq⟩, rfl⟩
 rotate_left
 ·refine vr 5 ?_;exact xE zj ⟨.inr ⟨rfl, fun h => hq ⟨h.lf, h.f⟩⟩, rfl⟩
 refine vr 5 ?_;exact xE zj ⟨.inl ⟨rfl, q0.1, q1.1, q0.2, q1.2⟩, rfl⟩
end
end
section
open Wd Tp Kd
variable {m : Mp}
variable {b : Nat} {cs : Lv} {s : Bt}
theorem T1 {x : zP} (hx : bh m cs x) (hb : At m ⟨b, 0, none⟩ [.string (bs s)]) : CS Tryz.prog 38 [.agg cs.toArray, zS b] m [] (qi (x.name = s)) := by
 have hb0 : mc m ⟨b, 0, none⟩ = some (.string (bs s)) := hb.at_ (o := 0) rfl;obtain ⟨q, rfl, -⟩ := hx;refine yQ [.tmp 3] Tryz.func38 rfl rfl rfl ?_;by_cases g : x.name = s
 ·refine tr 2 ?_;refine Bx 6 rfl fun b1 => ?_;refine Lb 0 yI .here ?_;refine Lo 0 yI rfl hb0 ?_;refine yr 4 ?_;exact xE zj ⟨.inl ⟨rfl, g⟩, rfl⟩
 ·refine tr 2 ?_;refine Bx 6 rfl fun b1 => ?_;refine Lb 0 yI .here ?_;refine Lo 0 yI rfl hb0 ?_;refine zF 4 ?_;exact xE zj ⟨.inr ⟨rfl, g⟩, rfl⟩
abbrev NR (b : Nat) : Value := .func (.func 38) [].toArray [zS b].toArray
def O4 (l : List zP) (s : Bt) : Value -> List yb -> Prop := fun v L' => ((v = .int .i64 (-1) /\ ∀ (j : Nat) (h : j < l.length), l[j].name ≠ s) \/ ∃ (i : Nat) (h : i < l.length), v = .int .i64 (i : Nat) /\ l[i].name = s) /\ L' = []
variable {A : Oa} {c : Nat} {l : List zP}
theorem PW (hC : jc m A l) (hl : l.length <= 140737488355328) (hb : At m ⟨b, 0, none⟩ [.string (bs s)]) : CS Tryz.prog 65 [.slice A l.length c, NR b] m [] (O4 l s) := by
 obtain ⟨vs, hrd, hvl, hel⟩ := hC;refine yQ [.tmp 4] Tryz.func65 rfl rfl rfl ?_;refine tr 14 ?_
 refine yv (α := Nat) (fun i => [(0, .slice A l.length c), (1, NR b), (6, .slice A l.length c), (7, .int .i64 (l.length : Nat)), (8, .int .i64 (i : Nat))]) (fun _ => []) (fun i => i <= l.length /\ ∀ (j : Nat) (h : j < l.length), j < i -> l[j].name ≠ s) (fun i => l.length - i) 0 vX ya ⟨Nat.zero_le _, fun _ _ h => by cases h⟩ ?_;rintro i ⟨hi, hall⟩
 by_cases hlt : i < l.length
 ·have hA : A.isSome = true := hrd.isSome za;have hat := hrd.elem (i * 12) 12;have hx := hel i hlt;have hx0 := hx;obtain ⟨q, e, -⟩ := hx;rw [e] at hat hx0;have hal := hall;clear hall;refine tr 2 ?_;refine y4 19 ?_;refine pe 0 (zo WS rfl rfl hA za) ?_;refine La 0 kI hat ?_
  refine zg ((uP (p := []) (q := [zS b]) CA rfl rfl (fun m' hm he => T1 (hx0.mono hm) (hb.mono hm)) rfl ?_)) rfl;rintro _ _ ⟨⟨rfl, hq⟩ | ⟨rfl, hq⟩, rfl⟩
  ·refine vr 12 ?_;refine zu ?_;refine zp ?_;refine zD ?_;exact xE zj ⟨.inr ⟨i, hlt, rfl, hq⟩, rfl⟩
  ·refine vr 7 ?_;refine Pa 2 ?_
   exact QR (i + 1) ya ⟨hlt, fun j h hj => by
    by_cases hji : j < i
    ·exact hal j h hji
    ·obtain rfl : j = i := by omega
     exact hq⟩ za
 ·refine tr 2 ?_;refine zH 6 ?_;refine zm ?_;refine zk ?_;refine qt 7 ?_;exact xE zj ⟨.inl ⟨rfl, fun j h => hall j h za⟩, rfl⟩
def In (m : Mp) (l : List zP) (s : Bt) : Value -> List yb -> Prop := fun v L' => ((v = ao [.agg [.string ByteArray.empty, .bool false, .int .i64 0, .int .i64 0, .int .i64 0, .int .i64 0, .int .i64 0, .int .i64 0, .slice none 0 0, .slice none 0 0, .slice none 0 0, .int .i64 0].toArray, .int .i64 0, .bool false] /\ ∀ (j : Nat) (h : j < l.length), l[j].name ≠ s) \/ ∃ (i : Nat) (h : i < l.length) (cs : Lv), v = ao [.agg cs.toArray, .int .i64 (i : Nat), .bool true] /\ l[i].name = s /\ bh m cs l[i]) /\ L' = []
variable {m0 : Mp}
theorem P7 (hm0 : Le m0 m) (hC : jc m0 A l) (hl : l.length <= 140737488355328) (hb : At m ⟨b, 0, none⟩ [.string (bs s)]) : CS Tryz.prog 37 [.slice A l.length c, NR b] m [] (In m0 l s) := by
 have hC0 := hC;have hC := hC.mono hm0;refine yQ [.cell 4 48, .tmp 5, .tmp 6] Tryz.func37 rfl rfl rfl ?_;refine tr 2 ?_;refine Al 8 Vx fun b1 => ?_;refine zg ((yK Ct rfl (fun m' hm he => PW (hC.mono hm) hl (hb.mono hm)) rfl ?_)) rfl;rintro _ _ ⟨⟨rfl, hq⟩ | ⟨i, hlt, rfl, hq⟩, rfl⟩
 ·refine vr 7 ?_;refine y4 5 ?_;refine Lc 0 kI .here ?_;refine Sg 6 kI .here ?_;exact yn [_, _, _] ⟨⟨b1, _, _, _, rfl, .here, .inr ⟨rfl, rfl⟩⟩, rfl, rfl, trivial⟩ [] ya ⟨.inl ⟨rfl, hq⟩, rfl⟩
 ·obtain ⟨vs, hrd, hvl, hel⟩ := hC0;have hA : A.isSome = true := hrd.isSome za;have hat := (hrd.elem (i * 12) 12).mono hm0;have hx := hel i hlt;have hx1 := hx;obtain ⟨q, e, -⟩ := hx;rw [e] at hat hx1;refine vr 7 ?_;refine zH 9 ?_;refine pe 0 (zo WS rfl rfl hA za) ?_;refine La 1 kI hat ?_;refine Sg 5 kI .here ?_
  exact yn [_, _, _] ⟨⟨b1, _, _, _, rfl, .here, .inr ⟨rfl, rfl⟩⟩, rfl, rfl, trivial⟩ [] ya ⟨.inr ⟨i, hlt, _, rfl, hq, hx1⟩, rfl⟩
theorem T0 {x : y6} (hx : VQ m cs x) (hb : At m ⟨b, 0, none⟩ [.string (bs s)]) : CS Tryz.prog 40 [.agg cs.toArray, zS b] m [] (qi (x.name = s)) := by
 have hb0 : mc m ⟨b, 0, none⟩ = some (.string (bs s)) := hb.at_ (o := 0) rfl;obtain ⟨q, rfl, -⟩ := hx;refine yQ [.tmp 3] Tryz.func40 rfl rfl rfl ?_;by_cases g : x.name = s
 ·refine tr 2 ?_;refine Bx 6 rfl fun b1 => ?_;refine Lb 0 yI .here ?_;refine Lo 0 yI rfl hb0 ?_;refine yr 4 ?_;exact xE zj ⟨.inl ⟨rfl, g⟩, rfl⟩
 ·refine tr 2 ?_;refine Bx 6 rfl fun b1 => ?_;refine Lb 0 yI .here ?_;refine Lo 0 yI rfl hb0 ?_;refine zF 4 ?_;exact xE zj ⟨.inr ⟨rfl, g⟩, rfl⟩
abbrev NQ (b : Nat) : Value := .func (.func 40) [].toArray [zS b].toArray
def RT (l : List y6) (s : Bt) : Value -> List yb -> Prop := fun v L' => ((v = .int .i64 (-1) /\ ∀ (j : Nat) (h : j < l.length), l[j].name ≠ s) \/ ∃ (i : Nat) (h : i < l.length), v = .int .i64 (i : Nat) /\ l[i].name = s) /\ L' = []
theorem PV {l : List y6} (hC : gH m A l) (hl : l.length <= 140737488355328) (hb : At m ⟨b, 0, none⟩ [.string (bs s)]) : CS Tryz.prog 66 [.slice A l.length c, NQ b] m [] (RT l s) := by
 obtain ⟨vs, hrd, hvl, hel⟩ := hC;refine yQ [.tmp 4] Tryz.func66 rfl rfl rfl ?_;refine tr 14 ?_
 refine yv (α := Nat) (fun i => [(0, .slice A l.length c), (1, NQ b), (6, .slice A l.length c), (7, .int .i64 (l.length : Nat)), (8, .int .i64 (i : Nat))]) (fun _ => []) (fun i => i <= l.length /\ ∀ (j : Nat) (h : j < l.length), j < i -> l[j].name ≠ s) (fun i => l.length - i) 0 vX ya ⟨Nat.zero_le _, fun _ _ h => by cases h⟩ ?_;rintro i ⟨hi, hall⟩
 by_cases hlt : i < l.length
 ·have hA : A.isSome = true := hrd.isSome za;have hat := hrd.elem (i * 7) 7;have hx := hel i hlt;have hx0 := hx;obtain ⟨q, e, -⟩ := hx;rw [e] at hat hx0;have hal := hall;clear hall;refine tr 2 ?_;refine y4 19 ?_;refine pe 0 (zo Lg rfl rfl hA za) ?_;refine La 0 gx hat ?_
  refine zg ((uP (p := []) (q := [zS b]) Cy rfl rfl (fun m' hm he => T0 (hx0.mono hm) (hb.mono hm)) rfl ?_)) rfl;rintro _ _ ⟨⟨rfl, hq⟩ | ⟨rfl, hq⟩, rfl⟩
  ·refine vr 12 ?_;refine zu ?_;refine zp ?_;refine zD ?_;exact xE zj ⟨.inr ⟨i, hlt, rfl, hq⟩, rfl⟩
  ·refine vr 7 ?_;refine Pa 2 ?_
   exact QR (i + 1) ya ⟨hlt, fun j h hj => by
    by_cases hji : j < i
    ·exact hal j h hji
    ·obtain rfl : j = i := by omega
     exact hq⟩ za
 ·refine tr 2 ?_;refine zH 6 ?_;refine zm ?_;refine zk ?_;refine qt 7 ?_;exact xE zj ⟨.inl ⟨rfl, fun j h => hall j h za⟩, rfl⟩
def LV (m : Mp) (l : List y6) (s : Bt) : Value -> List yb -> Prop := fun v L' => ((v = ao [.agg [.string ByteArray.empty, .int .i64 0, .int .i64 0, .int .i64 0, .slice none 0 0, .slice none 0 0, .int .i64 0].toArray, .int .i64 0, .bool false] /\ ∀ (j : Nat) (h : j < l.length), l[j].name ≠ s) \/ ∃ (i : Nat) (h : i < l.length) (cs : Lv), v = ao [.agg cs.toArray, .int .i64 (i : Nat), .bool true] /\ l[i].name = s /\ VQ m cs l[i]) /\ L' = []
theorem P6 (hm0 : Le m0 m) {l : List y6} (hC : gH m0 A l) (hl : l.length <= 140737488355328) (hb : At m ⟨b, 0, none⟩ [.string (bs s)]) : CS Tryz.prog 39 [.slice A l.length c, NQ b] m [] (LV m0 l s) := by
 have hC0 := hC;have hC := hC.mono hm0;refine yQ [.cell 4 40, .tmp 5, .tmp 6] Tryz.func39 rfl rfl rfl ?_;refine tr 2 ?_;refine Al 8 Vy fun b1 => ?_;refine zg ((yK Cs rfl (fun m' hm he => PV (hC.mono hm) hl (hb.mono hm)) rfl ?_)) rfl;rintro _ _ ⟨⟨rfl, hq⟩ | ⟨i, hlt, rfl, hq⟩, rfl⟩
 ·refine vr 7 ?_;refine y4 5 ?_;refine Lc 0 gx .here ?_;refine Sg 6 gx .here ?_;exact yn [_, _, _] ⟨⟨b1, _, _, _, rfl, .here, .inr ⟨rfl, rfl⟩⟩, rfl, rfl, trivial⟩ [] ya ⟨.inl ⟨rfl, hq⟩, rfl⟩
 ·obtain ⟨vs, hrd, hvl, hel⟩ := hC0;have hA : A.isSome = true := hrd.isSome za;have hat := (hrd.elem (i * 7) 7).mono hm0;have hx := hel i hlt;have hx1 := hx;obtain ⟨q, e, -⟩ := hx;rw [e] at hat hx1;refine vr 7 ?_;refine zH 9 ?_;refine pe 0 (zo Lg rfl rfl hA za) ?_;refine La 1 gx hat ?_;refine Sg 5 gx .here ?_
  exact yn [_, _, _] ⟨⟨b1, _, _, _, rfl, .here, .inr ⟨rfl, rfl⟩⟩, rfl, rfl, trivial⟩ [] ya ⟨.inr ⟨i, hlt, _, rfl, hq, hx1⟩, rfl⟩
def DA (l : List zP) (s : Bt) : Value -> List yb -> Prop := fun v L' => ((v = ao [.int .i64 0, .bool false] /\ ∀ (j : Nat) (h : j < l.length), l[j].name ≠ s) \/ ∃ (i : Nat) (h : i < l.length), v = ao [.int .i64 (i : Nat), .bool true] /\ l[i].name = s) /\ L' = []
theorem Pe {K F : Oa} {kc fc : Nat} {b : ew} (hC : jc m K b.cards) (hl : b.cards.length <= 140737488355328) : CS Tryz.prog 13 [.agg (KP K b.cards.length kc F b.fmts.length fc).toArray, .string (bs s)] m [] (DA b.cards s) := by
 refine yQ [.tmp 4, .tmp 5] Tryz.func13 rfl rfl rfl ?_;refine tr 2 ?_;refine Bx 0 rfl fun b1 => ?_;refine Bx 7 rfl fun b2 => ?_;refine Lb 1 b8 .h1 ?_;refine zg ((yK CB rfl (fun m' hm he => P7 hm hC hl (At.blk (he _ (.head _)))) rfl ?_)) rfl;rintro _ _ ⟨⟨rfl, hq⟩ | ⟨i, hlt, cs, rfl, hq, hx⟩, rfl⟩
 ·refine vr 4 ?_;refine Al 0 Vx fun b3 => ?_;refine Sg 13 kI .here ?_;exact yn [_, _] vv [] ya ⟨.inl ⟨rfl, hq⟩, rfl⟩
 ·obtain ⟨q, rfl, -⟩ := hx;refine vr 4 ?_;refine Al 0 Vx fun b3 => ?_;refine Sg 13 kI .here ?_;exact yn [_, _] vv [] ya ⟨.inr ⟨i, hlt, rfl, hq⟩, rfl⟩
end
section
open Wd Tp Kd
variable {m : Mp}
theorem XV {A : Oa} {c : Nat} {l : List Bt} (hA : XB m A c l) (hl : l.length <= 1000000000) : CS Tryz.prog 41 [.slice A l.length c] m [] (fun v L' => (∃ A' n' c', v = .slice A' n' c') /\ L' = []) := by
 have hr := hA.1;refine yQ [.tmp 2] Tryz.func41 rfl rfl rfl ?_;cases A with
 | none =>
   refine tr 9 ?_;refine pe 10 ((Hu En rfl)) ?_;exact xE zj ⟨⟨_, _, _, rfl⟩, rfl⟩
 | some a =>
   refine tr 9 ?_;refine pe 7 ((Hu En rfl)) ?_;refine Bs 1 xH fun b1 => ?_;refine LI (cs := []) (k := 0) (e := 9) (sz := 1) .here rfl zb ?_
   refine zg (UK (A2 := some a) (j := l.length) (c2 := c) (news := l.map xm) xH rfl rfl rfl rfl (fun _ _ => .here) (fun h hs => hr.mono hs.base) yA (fun u hu => by obtain ⟨s, -, rfl⟩ := List.mem_map.1 hu; rfl) (by simp only [maxLen]; omega) za rfl (fun A1 c1 => ?_)) rfl;refine vr 4 ?_;exact xE zj ⟨⟨_, _, _, rfl⟩, rfl⟩
def CZ (l : List y6) (s : Bt) : Value -> List yb -> Prop := fun v L' => ((∃ cs, v = ao [.agg cs, .bool false] /\ ∀ (j : Nat) (h : j < l.length), l[j].name ≠ s) \/ ∃ (f : y6) (q : Za) (n1 n2 : Nat), f ∈ l /\ f.name = s /\ v = ao [.agg [.string (bs f.name), .int .i64 f.least, .int .i64 f.most, .int .i64 f.copies, .slice q.A n1 q.ca, .slice q.B n2 q.cb, .int .i64 f.at_].toArray, .bool true]) /\ L' = []
theorem O6 {K F : Oa} {kc fc : Nat} {b : ew} {s : Bt} (hF : gH m F b.fmts) (hl : b.fmts.length <= 140737488355328) (hb : ∀ f ∈ b.fmts, f.banned.length <= 1000000000 /\ f.single.length <= 1000000000) : CS Tryz.prog 14 [.agg (KP K b.cards.length kc F b.fmts.length fc).toArray, .string (bs s)] m [] (CZ b.fmts s) := by
 skip;refine yQ [.cell 4 40, .tmp 5] Tryz.func14 rfl rfl rfl ?_;refine tr 2 ?_;refine Bx 0 rfl fun b1 => ?_;refine Bx 0 rfl fun b2 => ?_;refine Al 6 Vy fun b3 => ?_;refine Lb 1 cJ .h2 ?_;refine zg ((yK Cz rfl (fun m' hm he => P6 hm hF hl (At.blk (he _ (.tail _ (.head _))))) rfl ?_)) rfl;rintro _ _ ⟨⟨rfl, hq⟩ | ⟨i, hlt, cs, rfl, hq, hx⟩, rfl⟩
 ·obtain ⟨f, q, hz, hB, hS, hlb, hls⟩ : ∃ (f : y6) (q : Za), ([.string ByteArray.empty, .int .i64 0, .int .i64 0, .int .i64 0, .slice none 0 0, .slice none 0 0, .int .i64 0] : Lv) = q.v f /\ (∀ m, XB m q.A q.ca f.banned) /\ (∀ m, XB m q.B q.cb f.single) /\ f.banned.length <= 1000000000 /\ f.single.length <= 1000000000 :=
   ⟨⟨[], 0, 0, 0, [], [], 0⟩, ⟨none, 0, none, 0⟩, rfl, fun m => XB.z m, fun m => XB.z m, Nat.zero_le _, Nat.zero_le _⟩
  rw [hz];clear hz;refine vr 4 ?_;refine Al 0 Vy fun b4 => ?_;refine Sg 5 gx .here ?_;refine yw (sT [0, 3, 101, 104, 202, 6, 205, 307, 8, 309] .done) mixed zi (fun _ _ _ _ hq => hq) ?_;refine vt 2 ?_;refine Vl 0 rfl Zh .here ?_;refine Vl 0 rfl Zh .here ?_;refine y7 rfl ((yK Rl rfl (fun m' hm he => XV (hB m') hlb) rfl ?_)) rfl
  rintro _ _ ⟨⟨A1, n1, c1, rfl⟩, rfl⟩;refine vt 1 ?_;refine y7 rfl ((yK Rl rfl (fun m' hm he => XV (hS m') hls) rfl ?_)) rfl;rintro _ _ ⟨⟨A2, n2, c2, rfl⟩, rfl⟩;refine zM rfl rfl (xn Lm rfl rfl rfl .here .h4 ?_) rfl;refine vt 1 ?_;refine zM rfl rfl (xn Lm rfl rfl rfl .here .h5 ?_) rfl;refine Vm 3 ?_;refine Lc 1 gx .here ?_;refine Sg 4 gx .h1 ?_
  exact yn [_, _] ⟨⟨b3, _, _, _, rfl, .h1, .inr ⟨rfl, rfl⟩⟩, rfl, trivial⟩ [] ya ⟨.inl ⟨_, rfl, hq⟩, rfl⟩
 ·obtain ⟨q, rfl, hB, hS⟩ := hx;have hmem := List.getElem_mem hlt;obtain ⟨hlb, hls⟩ := hb _ hmem;generalize b.fmts[i] = f at hq hB hS hmem hlb hls;refine vr 4 ?_;refine Al 0 Vy fun b4 => ?_;refine Sg 5 gx .here ?_;refine yw (sT [0, 3, 101, 104, 202, 6, 205, 307, 8, 309] .done) mixed zi (fun _ _ _ _ hq => hq) ?_;refine vt 2 ?_;refine Vl 0 rfl Zh .here ?_
  refine Vl 0 rfl Zh .here ?_;refine y7 rfl ((yK Rl rfl (fun m' hm he => XV (hB.mono hm) hlb) rfl ?_)) rfl;rintro _ _ ⟨⟨A1, n1, c1, rfl⟩, rfl⟩;refine vt 1 ?_;refine y7 rfl ((yK Rl rfl (fun m' hm he => XV (hS.mono hm) hls) rfl ?_)) rfl;rintro _ _ ⟨⟨A2, n2, c2, rfl⟩, rfl⟩;refine zM rfl rfl (xn Lm rfl rfl rfl .here .h4 ?_) rfl;refine vt 1 ?_
  refine zM rfl rfl (xn Lm rfl rfl rfl .here .h5 ?_) rfl;refine Vm 3 ?_;refine Lc 1 gx .here ?_;refine Sg 4 gx .h1 ?_;exact yn [_, _] ⟨⟨b3, _, _, _, rfl, .h1, .inr ⟨rfl, rfl⟩⟩, rfl, trivial⟩ [] ya ⟨.inr ⟨f, ⟨A1, c1, A2, c2⟩, n1, n2, hmem, hq, rfl⟩, rfl⟩
end
section
open Wd Tp Kd
variable {m : Mp}
def Ie (acc : List Bt) (s : Bt) : List Bt := if s ∈ acc then acc else acc ++ [s]
def cO (l : List Bt) : List Bt := l.foldl Ie []
theorem JU (l : List Bt) (s : Bt) : cO (l ++ [s]) = Ie (cO l) s := by simp [cO]
variable {s : Bt}
theorem Ni {acc : List Bt} {t : Bt} : t ∈ Ie acc s ↔ t ∈ acc \/ t = s := by
 unfold Ie
 split
 ·rename_i h
  exact ⟨.inl, fun h2 => h2.elim id fun e => e ▸ h⟩
 ·simp
theorem Uc : ∀ (l acc : List Bt) (t : Bt), t ∈ l.foldl Ie acc ↔ t ∈ acc \/ t ∈ l
 | [], acc, t => by simp
 | s :: r, acc, t => by rw [List.foldl_cons, Uc r, Ni, List.mem_cons, or_assoc]
theorem GO (l : List Bt) (t : Bt) : t ∈ cO l ↔ t ∈ l := by simp [cO, Uc]
theorem MU {es : List (Bt × Value)} {k : Bt} {v : Value} (h : gv es k = some v) : gK es k v = es := by
 unfold gv at h;unfold gK;cases hf : vb k 0 es with
 | none => rw [hf] at h; cases h
 | some p =>
   obtain ⟨j, w⟩ := p;rw [hf] at h;obtain rfl : w = v := by simpa using h
   have h2 := (WQ hf).2;rw [Nat.sub_zero] at h2;obtain ⟨hj, h3⟩ := List.getElem?_eq_some_iff.1 h2;dsimp only;rw [<- h3, List.set_getElem_self]
theorem MW (acc : List Bt) (s : Bt) : gK (fM acc) s (.bool true) = fM (Ie acc s) := by
 unfold Ie
 split
 ·rename_i h
  refine MU ?_;obtain ⟨j, hj⟩ := cX acc 0 h
  simp [gv, hj]
 ·rename_i h
  exact Wj h
def va (cs : List zP) (l : List Bt) : Prop := (∀ s ∈ l, s ∈ uh cs) /\ l.Nodup
def Qw (i : Nat) (seen : List Bt) (f : y6) : Prop := i < 240 /\ yL f.name = true /\ f.name ∉ seen /\ 0 <= f.least /\ f.least <= f.most /\ f.most <= 60 /\ 0 <= f.copies /\ f.copies <= 999
def gb (cs : List zP) (i : Nat) (seen : List Bt) (f : y6) : Prop := Qw i seen f /\ va cs f.banned /\ va cs f.single
def qX (l : List y6) (i : Nat) : List Bt := (l.take i).map (·.name)
theorem Gn {l : List y6} {i : Nat} (h : i < l.length) : qX l (i + 1) = qX l i ++ [l[i].name] := by
 unfold qX;rw [List.take_add_one, List.getElem?_eq_getElem h, List.map_append]
 rfl
def gn (b : ew) (e a : Int) : Prop := (e = 0 /\ a = 0 /\ ∀ (i : Nat) (h : i < b.fmts.length), gb b.cards i (qX b.fmts i) b.fmts[i]) \/
 ∃ (i : Nat) (h : i < b.fmts.length), (∀ (j : Nat) (hj : j < i), gb b.cards j (qX b.fmts j) b.fmts[j]) /\ ¬ gb b.cards i (qX b.fmts i) b.fmts[i] /\ e = 151 /\ a = b.fmts[i].at_
theorem WA {cs : List zP} : s ∈ uh cs ↔ ∃ (i : Nat) (h : i < cs.length), cs[i].name = s := by
 unfold uh;rw [List.mem_map]
 constructor
 ·rintro ⟨c, hc, rfl⟩;obtain ⟨i, hi, rfl⟩ := List.getElem_of_mem hc;exact ⟨i, hi, rfl⟩
 ·rintro ⟨i, hi, rfl⟩;exact ⟨_, List.getElem_mem hi, rfl⟩
theorem GN {l : List Bt} : (l ++ [s]).Nodup ↔ l.Nodup /\ s ∉ l := by
 rw [List.nodup_append]
 simp
 intro _
 constructor
 ·intro h hs;exact h s hs rfl
 ·intro h a ha e;exact h (e ▸ ha)
theorem H6 {K F : Oa} {kc fc : Nat} {b : ew} (hT : xU m) (hC : jc m K b.cards) (hF : gH m F b.fmts) (hs : Dz b) (hn : ∀ f ∈ b.fmts, f.name.length <= 140737488355328) :
  CS Tryz.prog 26 [.agg (KP K b.cards.length kc F b.fmts.length fc).toArray] m [] (fun v L' => L' = [] /\ ∃ e a, v = xb e a /\ gn b e a) := by
 obtain ⟨hlc, hlf, hfb⟩ := hs;refine yQ [.cell 2 31] Tryz.func26 rfl rfl rfl ?_;refine tr 2 ?_;refine Bx 0 rfl fun b1 => ?_;refine Al 3 wR fun b2 => ?_;refine zG .h1 (fun ns hi _ hd1 => ?_);have hR : Rd (yj m ns) (some ⟨b1, 0, none⟩) (KP K b.cards.length kc F b.fmts.length fc) := (Rd.blk hi).mono (yq hd1);have hl2 : Le m (yj m ns) := zU _ _;clear hi hd1
 generalize yj m ns = m9 at hR hl2;have hT := hT.mono hl2;have hC := hC.mono hl2;have hF := hF.mono hl2;have hb1 : mc m9 ⟨b1, 1, none⟩ = some (.slice F b.fmts.length fc) := hR.at_ (i := 1) rfl;have hbk : At m9 ⟨b1, 0, none⟩ (KP K b.cards.length kc F b.fmts.length fc) := fun i u hi => hR.at_ hi;clear hR;obtain ⟨us, hrf, hul, hef⟩ := hF;refine tr 1 ?_
 refine zg (qT rfl (fun b3 => ?_)) rfl;refine vr 7 ?_;refine Lo 5 cJ rfl hb1 ?_
 refine yv (α := Nat) (fun i => [(1, zS b1), (2, zS b2), (3, .map (some b3)), (16, .slice F b.fmts.length fc), (17, .int .i64 (b.fmts.length : Nat)), (18, .int .i64 (i : Nat))]) (fun i => [uF b3 (fM (qX b.fmts i)), cel b2 [.int .i64 0, .int .i64 0] 31]) (fun i => i <= b.fmts.length /\ ∀ (j : Nat) (h : j < b.fmts.length), j < i -> gb b.cards j (qX b.fmts j) b.fmts[j]) (fun i => b.fmts.length - i) 0 gB zx ⟨Nat.zero_le _, fun _ _ h => by cases h⟩ ?_
 rintro i ⟨hi, hall⟩
 try dsimp only at hi hall
 try dsimp only
 by_cases hlt : i < b.fmts.length
 rotate_left
 ·refine tr 2 ?_;refine zH 6 ?_;refine zm ?_;refine zk ?_;refine qt 3 ?_;refine pe 0 (zA wR kx rfl rfl) ?_;refine Sg 3 y5 .h1 ?_;exact gT hl2 [_] ⟨⟨b2, _, _, _, rfl, .h1, .inr ⟨rfl, rfl⟩⟩, trivial⟩ [] ya ⟨rfl, 0, 0, rfl, .inl ⟨rfl, rfl, fun j h => hall j h za⟩⟩
 have hA : F.isSome = true := hrf.isSome za;have hat := hrf.elem (i * 7) 7;obtain ⟨q, e, hB, hS⟩ := hef i hlt;rw [e] at hat;clear e;have hnl := hn _ (List.getElem_mem hlt);obtain ⟨hlb, hls⟩ := hfb _ (List.getElem_mem hlt);have hend : ¬ gb b.cards i (qX b.fmts i) b.fmts[i] -> gn b 151 b.fmts[i].at_ := fun h => .inr ⟨i, hlt, fun j hj => hall j za hj, h, rfl, rfl⟩
 have hnext : gb b.cards i (qX b.fmts i) b.fmts[i] -> ∀ (j : Nat) (h : j < b.fmts.length), j < i + 1 -> gb b.cards j (qX b.fmts j) b.fmts[j] := fun h2 j h hj => by
  by_cases hji : j < i
  ·exact hall j h hji
  ·obtain rfl : j = i := by omega
   exact h2
 have hst := Gn hlt;generalize b.fmts[i] = f at hat hB hS hnl hlb hls hend hnext hst;generalize hsn' : qX b.fmts (i + 1) = sn' at hst;generalize qX b.fmts i = sn at hst hend hnext ⊢;clear hall;refine tr 2 ?_;refine y4 11 ?_;refine pe 0 (zo Lg rfl rfl hA za) ?_;refine La 0 gx hat ?_;refine Al 1 Vy fun b4 => ?_;refine Sg 3 gx .here ?_
 refine zG .here (fun ns hi _ hd1 => ?_);have hR : Rd (yj m9 ns) (some ⟨b4, 0, none⟩) (q.v f) := (Rd.blk hi).mono (yq hd1);have hl3 : Le m9 (yj m9 ns) := zU _ _;clear hi hd1;generalize yj m9 ns = m8 at hR hl3;have hT := hT.mono hl3;have hC := hC.mono hl3;have hB := hB.mono hl3;have hS := hS.mono hl3;have hbk := hbk.mono hl3
 have hq0 : mc m8 ⟨b4, 0, none⟩ = some (.string (bs f.name)) := hR.at_ (i := 0) rfl;have hq1 : mc m8 ⟨b4, 1, none⟩ = some (.int .i64 f.least) := hR.at_ (i := 1) rfl;have hq2 : mc m8 ⟨b4, 2, none⟩ = some (.int .i64 f.most) := hR.at_ (i := 2) rfl;have hq3 : mc m8 ⟨b4, 3, none⟩ = some (.int .i64 f.copies) := hR.at_ (i := 3) rfl
 have hq4 : mc m8 ⟨b4, 4, none⟩ = some (.slice q.A f.banned.length q.ca) := hR.at_ (i := 4) rfl;have hq5 : mc m8 ⟨b4, 5, none⟩ = some (.slice q.B f.single.length q.cb) := hR.at_ (i := 5) rfl;have hq6 : mc m8 ⟨b4, 6, none⟩ = some (.int .i64 f.at_) := hR.at_ (i := 6) rfl;clear hR
 refine d6 (α := Bool) (fun p => [(1, zS b1), (2, zS b2), (3, .map (some b3)), (5, zS b4), (6, .bool p), (16, .slice F b.fmts.length fc), (17, .int .i64 (b.fmts.length : Nat)), (18, .int .i64 (i : Nat))]) (fun _ => [uF b3 (fM sn), cel b2 [.int .i64 0, .int .i64 0] 31]) (fun p => p = true ↔ Qw i sn f) ?_ ?_
 ·by_cases g0 : i < 240
  rotate_left
  ·refine tr 2 ?_;refine zH 41 ?_;exact QR false zx (iff_of_false Bool.false_ne_true fun h => g0 h.1) zb
  refine tr 2 ?_;refine y4 2 ?_;refine Lo 0 yI rfl hq0 ?_;refine Cr YH rfl (fun m' hm he => (qU (hT.mono hm) hnl)) ?_;rintro _ rfl;cases g1 : yL f.name with
  | false =>
    refine vr 37 ?_;exact QR false zx (iff_of_false Bool.false_ne_true fun h => by rw [h.2.1] at g1; cases g1) zb
  | true =>
  have hgu := WL sn f.name;refine vr 4 ?_;refine Lo 0 yI rfl hq0 ?_;refine lr 0 (cr qZ rfl rfl .here al) ?_;rw [hgu];by_cases g2 : f.name ∈ sn
  ·rw [decide_eq_true g2];refine vr 31 ?_;exact QR false zx (iff_of_false Bool.false_ne_true fun h => h.2.2.1 g2) zb
  rw [decide_eq_false g2];by_cases g3 : 0 <= f.least
  rotate_left
  ·refine vr 4 ?_;refine Lo 0 yl rfl hq1 ?_;refine zF 25 ?_;exact QR false zx (iff_of_false Bool.false_ne_true fun h => g3 h.2.2.2.1) zb
  by_cases g4 : f.least <= f.most
  rotate_left
  ·refine vr 4 ?_;refine Lo 0 yl rfl hq1 ?_;refine yr 3 ?_;refine Lo 1 yl rfl hq1 ?_;refine Lo 0 yl rfl hq2 ?_;refine zF 18 ?_;exact QR false zx (iff_of_false Bool.false_ne_true fun h => g4 h.2.2.2.2.1) zb
  by_cases g5 : f.most <= 60
  rotate_left
  ·refine vr 4 ?_;refine Lo 0 yl rfl hq1 ?_;refine yr 3 ?_;refine Lo 1 yl rfl hq1 ?_;refine Lo 0 yl rfl hq2 ?_;refine yr 3 ?_;refine Lo 0 yl rfl hq2 ?_;refine zF 13 ?_;exact QR false zx (iff_of_false Bool.false_ne_true fun h => g5 h.2.2.2.2.2.1) zb
  by_cases g6 : 0 <= f.copies
  rotate_left
  ·refine vr 4 ?_;refine Lo 0 yl rfl hq1 ?_;refine yr 3 ?_;refine Lo 1 yl rfl hq1 ?_;refine Lo 0 yl rfl hq2 ?_;refine yr 3 ?_;refine Lo 0 yl rfl hq2 ?_;refine yr 3 ?_;refine Lo 0 yl rfl hq3 ?_;refine zF 8 ?_;exact QR false zx (iff_of_false Bool.false_ne_true fun h => g6 h.2.2.2.2.2.2.1) zb
  by_cases g7 : f.copies <= 999
  rotate_left
  ·refine vr 4 ?_;refine Lo 0 yl rfl hq1 ?_;refine yr 3 ?_;refine Lo 1 yl rfl hq1 ?_;refine Lo 0 yl rfl hq2 ?_;refine yr 3 ?_;refine Lo 0 yl rfl hq2 ?_;refine yr 3 ?_;refine Lo 0 yl rfl hq3 ?_;refine yr 3 ?_;refine Lo 0 yl rfl hq3 ?_;refine zF 3 ?_;exact QR false zx (iff_of_false Bool.false_ne_true fun h => g7 h.2.2.2.2.2.2.2) zb
  refine vr 4 ?_;refine Lo 0 yl rfl hq1 ?_;refine yr 3 ?_;refine Lo 1 yl rfl hq1 ?_;refine Lo 0 yl rfl hq2 ?_;refine yr 3 ?_;refine Lo 0 yl rfl hq2 ?_;refine yr 3 ?_;refine Lo 0 yl rfl hq3 ?_;refine yr 3 ?_;refine Lo 0 yl rfl hq3 ?_;refine yr 3 ?_;exact QR true zx (iff_of_true rfl ⟨g0, g1, g2, g3, g4, g5, g6, g7⟩) zb
 intro p hp
 try dsimp only
 generalize hbase : Qw i sn f = base at hp;refine tr 4 ?_;refine Lo 1 Zh rfl hq4 ?_;refine Lo 0 Zh rfl hq5 ?_;refine pe 4 (uR SK FT rfl rfl) ?_
 refine yv (α := Nat × Bool) (fun y => [(1, zS b1), (2, zS b2), (3, .map (some b3)), (5, zS b4), (6, .bool y.2), (16, .slice F b.fmts.length fc), (17, .int .i64 (b.fmts.length : Nat)), (18, .int .i64 (i : Nat)), (68, .agg [.slice q.A f.banned.length q.ca, .slice q.B f.single.length q.cb].toArray), (69, .int .i64 (y.1 : Nat))]) (fun _ => [uF b3 (fM sn), cel b2 [.int .i64 0, .int .i64 0] 31]) (fun y => y.1 <= 2 /\ (y.2 = true ↔ base /\ (0 < y.1 -> va b.cards f.banned) /\ (1 < y.1 -> va b.cards f.single))) (fun y => 2 - y.1) (0, p) XY zx ⟨Nat.zero_le _, hp.trans ⟨fun h => ⟨h, fun h => (by cases h), fun h => (by cases h)⟩, fun h => h.1⟩⟩ ?_
 clear hp p;rintro ⟨j, p⟩ ⟨hj, hp⟩;dsimp only at hj hp;dsimp only;by_cases hj2 : j < 2
 rotate_left
 ·obtain rfl : j = 2 := by omega
  have hp2 : p = true ↔ gb b.cards i sn f := hp.trans ⟨fun h => ⟨by rw [hbase]; exact h.1, h.2.1 zb, h.2.2 zb⟩, fun h => ⟨by rw [<- hbase]; exact h.1, fun _ => h.2.1, fun _ => h.2.2⟩⟩;cases p with
  | false =>
    have hend := hend fun h => absurd (hp2.2 h) zb;refine tr 2 ?_;refine zH 6 ?_;refine zm ?_;refine zk ?_;refine qt 12 ?_;refine Lo 0 yl rfl hq6 ?_;refine pe 0 (zA wR kx rfl rfl) ?_;refine Sg 6 y5 .h1 ?_;exact gT (hl2.trans hl3) [_] ⟨⟨b2, _, _, _, rfl, .h1, .inr ⟨rfl, rfl⟩⟩, trivial⟩ [] ya ⟨rfl, 151, f.at_, rfl, hend⟩
  | true =>
    have hok := hp2.1 rfl;have hput := Wj hok.1.2.2.1;rw [<- hst] at hput;refine tr 2 ?_;refine zH 6 ?_;refine zm ?_;refine zk ?_;refine qt 14 ?_;refine Lo 0 yI rfl hq0 ?_;refine zg (wY qZ rfl rfl rfl .here ?_) rfl;refine vr 4 ?_;refine Pa 2 ?_;rw [hput]
    exact UM hl3 (i + 1) gB (by rw [hsn']; exact zN.refl _) ⟨hlt, hnext hok⟩ za
 obtain ⟨A, c, l, hvn, hrl, hll, hpn⟩ : ∃ (A : Oa) (c : Nat) (l : List Bt), cF [.slice q.A f.banned.length q.ca, .slice q.B f.single.length q.cb] (((j : Nat) : Int).toNat * 1) = some (.slice A l.length c) /\ XB m8 A c l /\ l.length <= 140737488355328 /\ ((base /\ (0 < j -> va b.cards f.banned) /\ (1 < j -> va b.cards f.single)) /\ va b.cards l ↔ base /\ (0 < j + 1 -> va b.cards f.banned) /\ (1 < j + 1 -> va b.cards f.single)) := by
  rcases Nat.lt_or_ge j 1 with h | h
  ·obtain rfl : j = 0 := by omega
   exact ⟨q.A, q.ca, f.banned, rfl, hB, hlb, fun h => ⟨h.1.1, fun _ => h.2, fun h => by omega⟩, fun h => ⟨⟨h.1, fun h => by omega, fun h => by omega⟩, h.2.1 zb⟩⟩
  ·obtain rfl : j = 1 := by omega
   exact ⟨q.B, q.cb, f.single, rfl, hS, hls, fun h => ⟨h.1.1, fun _ => h.1.2.1 zb, fun _ => h.2⟩, fun h => ⟨⟨h.1, fun _ => h.2.1 zb, fun h => by omega⟩, h.2.2 zb⟩⟩
 generalize hP : (base /\ (0 < j -> va b.cards f.banned) /\ (1 < j -> va b.cards f.single)) = P at hp hpn;have hrl := hrl.1;refine tr 2 ?_;refine y4 10 ?_;refine pe 5 ((ub SK Fo rfl rfl za za hvn)) ?_;refine zg (qT rfl (fun b5 => ?_)) rfl;refine vr 11 ?_
 refine yv (α := Nat × Bool) (fun y => [(1, zS b1), (2, zS b2), (3, .map (some b3)), (5, zS b4), (6, .bool y.2), (9, .map (some b5)), (16, .slice F b.fmts.length fc), (17, .int .i64 (b.fmts.length : Nat)), (18, .int .i64 (i : Nat)), (68, .agg [.slice q.A f.banned.length q.ca, .slice q.B f.single.length q.cb].toArray), (69, .int .i64 (j : Nat)), (73, .slice A l.length c), (74, .int .i64 (l.length : Nat)), (75, .int .i64 (y.1 : Nat))]) (fun y => [uF b5 (fM (cO (l.take y.1))), uF b3 (fM sn), cel b2 [.int .i64 0, .int .i64 0] 31]) (fun y => y.1 <= l.length /\ (y.2 = true ↔ P /\ va b.cards (l.take y.1))) (fun y => l.length - y.1) (0, p) SY zx ⟨Nat.zero_le _, hp.trans ⟨fun h => ⟨h, by rw [List.take_zero]; exact ⟨fun _ h => (by cases h), List.nodup_nil⟩⟩, fun h => h.1⟩⟩ ?_
 clear hp p;rintro ⟨k, p⟩ ⟨hk, hp⟩;dsimp only at hk hp;dsimp only;by_cases hkl : k < l.length
 rotate_left
 ·obtain rfl : k = l.length := by omega
  rw [List.take_length] at hp;refine tr 2 ?_;refine zH 6 ?_;refine zm ?_;refine zk ?_;refine qD ?_;refine qt 2 ?_;refine Pa 2 ?_;exact QR (j + 1, p) (.cons .h1 .p1) ⟨by omega, hp.trans hpn⟩ yV
 have hX : A.isSome = true := hrl.isSome (by rw [List.length_map]; omega);have hcx := hrl.at_ (show (l.map xm)[k]? = some (.string (bs l[k])) by simp [hkl, xm]);have htk : l.take (k + 1) = l.take k ++ [l[k]] := List.take_succ_eq_append_getElem hkl;have hon := JU (l.take k) l[k];rw [<- htk] at hon
 have hstep : (P /\ va b.cards (l.take k)) /\ l[k] ∈ uh b.cards /\ l[k] ∉ l.take k ↔ P /\ va b.cards (l.take (k + 1)) := by
  rw [htk];unfold va;rw [GN]
  constructor
  ·rintro ⟨⟨h1, h2, h3⟩, h4, h5⟩;refine ⟨h1, fun s hs => ?_, h3, h5⟩;rcases List.mem_append.1 hs with hs | hs
   ·exact h2 s hs
   ·rw [List.mem_singleton.1 hs]; exact h4
  ·rintro ⟨h1, h2, h3, h5⟩;exact ⟨⟨h1, fun s hs => h2 s (List.mem_append_left _ hs), h3⟩, h2 _ (List.mem_append_right _ (List.mem_singleton.2 rfl)), h5⟩
 have hmo := GO (l.take k) l[k];generalize l[k] = s at hcx hon hstep hmo;have hgu := WL (cO (l.take k)) s;have hput := MW (cO (l.take k)) s;rw [<- hon] at hput;generalize cO (l.take k) = on at hgu hput hmo ⊢;refine tr 2 ?_;refine y4 10 ?_;refine pe 0 (zw ql rfl rfl hX za) ?_;refine Lo 5 yI rfl hcx ?_;refine La 1 jB hbk ?_
 refine zg ((yK E5 rfl (fun m' hm he => Pe (s := s) (hC.mono hm) hlc) rfl ?_)) rfl;rintro _ _ ⟨⟨rfl, hno⟩ | ⟨ix, hix, rfl, hyes⟩, rfl⟩
 ·have hun : s ∉ uh b.cards := fun h => by
   obtain ⟨i2, h2, h3⟩ := WA.1 h;exact hno i2 h2 h3
  cases p with
  | false =>
    refine vr 25 ?_;refine zg (wY qZ rfl rfl rfl .here ?_) rfl;refine vr 4 ?_;refine Pa 2 ?_;rw [hput];exact QR (k + 1, false) zx ⟨hkl, iff_of_false Bool.false_ne_true fun h => hun (hstep.2 h).2.1⟩ yV
  | true =>
    refine vr 25 ?_;refine zg (wY qZ rfl rfl rfl .here ?_) rfl;refine vr 4 ?_;refine Pa 2 ?_;rw [hput];exact QR (k + 1, false) zx ⟨hkl, iff_of_false Bool.false_ne_true fun h => hun (hstep.2 h).2.1⟩ yV
 ·have hkn : s ∈ uh b.cards := WA.2 ⟨ix, hix, hyes⟩;cases p with
  | false =>
    refine vr 25 ?_;refine zg (wY qZ rfl rfl rfl .here ?_) rfl;refine vr 4 ?_;refine Pa 2 ?_;rw [hput];exact QR (k + 1, false) zx ⟨hkl, iff_of_false Bool.false_ne_true fun h => absurd (hp.2 (hstep.2 h).1) zb⟩ yV
  | true =>
    refine vr 16 ?_;refine lr 0 (cr qZ rfl rfl .here al) ?_;rw [hgu];by_cases hin : s ∈ on
    ·rw [decide_eq_true hin];refine vr 8 ?_;refine zg (wY qZ rfl rfl rfl .here ?_) rfl;refine vr 4 ?_;refine Pa 2 ?_;rw [hput];exact QR (k + 1, false) zx ⟨hkl, iff_of_false Bool.false_ne_true fun h => (hstep.2 h).2.2 (hmo.1 hin)⟩ yV
    ·rw [decide_eq_false hin];refine vr 8 ?_;refine zg (wY qZ rfl rfl rfl .here ?_) rfl;refine vr 4 ?_;refine Pa 2 ?_;rw [hput];exact QR (k + 1, true) zx ⟨hkl, iff_of_true rfl (hstep.1 ⟨hp.1 rfl, hkn, fun h => hin (hmo.2 h)⟩)⟩ yV
end
namespace La
def qe (a : Int) : Int := if a < 0 \/ 3 < a then 3 else a
def ZE (a b : Int) : Int := if a = b \/ b = 0 then a else if a = 0 then b else 3
def kr (a b : Int) : Int := ZE (qe a) (qe b)
theorem cT (a : Int) : 0 <= qe a /\ qe a <= 3 := by unfold qe; split <;> omega
theorem ZC (a : Int) : qe a = 0 \/ qe a = 1 \/ qe a = 2 \/ qe a = 3 := by have := cT a; omega
def GV (a b : Int) : Bool := decide (kr a b = qe b)
end La
section
open La
def aL (a : Int) : Value := .int .i8 a
theorem bZ (h : yB) (a : Int) : C Tryz.prog 124 [aL a].toArray h fun v h' => v = aL (qe a) /\ h' = h := by
 refine YS [2] Tryz.func124 rfl rfl rfl ?_;unfold aL;by_cases h0 : a < 0
 ·refine zy ?_;refine zh ?_;refine zd (zr rfl) rfl rfl rfl ?_;refine zE ?_;refine zc ?_;refine zy ?_;refine zy ?_;refine zh ?_;refine zd (z7 rfl) rfl rfl rfl ?_;refine zd (dt (qj rfl rfl) vN) rfl rfl rfl ?_;refine zd (z7 rfl) rfl rfl rfl ?_;refine ab rfl rfl rfl ?_
  refine ab rfl rfl rfl ?_;refine zd (wG rfl rfl) rfl rfl rfl ?_;refine zE ?_;refine zc ?_;refine wX rfl ?_;refine zy ?_;refine zh ?_;refine zd (zr rfl) rfl rfl rfl ?_;refine zE ?_;refine zc ?_;refine wr ?_;refine wh ?_;refine yH rfl ?_;exact ⟨by rw [qe, if_pos (.inl h0)], rfl⟩
 ·by_cases h3 : 3 < a
  ·refine zy ?_;refine zh ?_;refine zd (zr rfl) rfl rfl rfl ?_;refine zE ?_;refine zc ?_;refine zy ?_;refine zy ?_;refine zh ?_;refine zd (z7 rfl) rfl rfl rfl ?_;refine zd (df (qj rfl rfl) fN) rfl rfl rfl ?_;refine zd (z7 rfl) rfl rfl rfl ?_
   refine zd (z7 rfl) rfl rfl rfl ?_;refine zd (dt (dy rfl rfl) vN) rfl rfl rfl ?_;refine zd (jm rfl rfl) rfl rfl rfl ?_;refine zE ?_;refine zc ?_;refine wX rfl ?_;refine zy ?_;refine zh ?_;refine zd (zr rfl) rfl rfl rfl ?_;refine zE ?_;refine zc ?_;refine wr ?_
   refine wh ?_;refine yH rfl ?_;exact ⟨by rw [qe, if_pos (.inr h3)], rfl⟩
  ·refine zy ?_;refine zh ?_;refine zd (zr rfl) rfl rfl rfl ?_;refine zE ?_;refine zc ?_;refine zy ?_;refine zy ?_;refine zh ?_;refine zd (z7 rfl) rfl rfl rfl ?_;refine zd (df (qj rfl rfl) fN) rfl rfl rfl ?_;refine zd (z7 rfl) rfl rfl rfl ?_
   refine zd (z7 rfl) rfl rfl rfl ?_;refine zd (df (dy rfl rfl) fN) rfl rfl rfl ?_;refine zd (jm rfl rfl) rfl rfl rfl ?_;refine zE ?_;refine zc ?_;refine vL rfl ?_;refine jC ?_;refine zc ?_;refine zy ?_;refine zh ?_;refine zd (z7 rfl) rfl rfl rfl ?_
   refine zd (zr rfl) rfl rfl rfl ?_;refine zE ?_;refine zc ?_;refine wr ?_;refine yH rfl ?_;exact ⟨by rw [qe, if_neg za], rfl⟩
def NA : Lv := [aL 0, aL 1, aL 2, aL 3, aL 1, aL 1, aL 3, aL 3, aL 2, aL 3, aL 2, aL 3, aL 3, aL 3, aL 3, aL 3]
theorem Ny (h : yB) : C Tryz.prog 145 [].toArray h fun v h' => v = .agg NA.toArray /\ Le (mp h) (mp h') := by
 refine Ph [.cell 0 203] Tryz.func145 rfl rfl rfl ?_;refine zy ?_;refine zh ?_;refine yh (jt R3 rfl (fun b1 h1 hn1 hb1 hl1 => ?_)) rfl;refine zE ?_;refine zc ?_;refine zy ?_;refine zh ?_
 iterate 4 (refine zd (uR SI FO rfl rfl) rfl rfl rfl ?_)
 refine zd (uR SH R3 rfl rfl) rfl rfl rfl ?_;refine yh (we SL rfl rfl rfl hb1 rfl rfl (fun h2 hb2 hl2 hn2 => ?_)) rfl;refine zE ?_;refine zc ?_;refine wr ?_;refine aA rfl hb2 SL ?_;refine ⟨rfl, fun k o hk => ?_⟩;rw [hl2 k (Nd hk hn1)];exact hl1 k o hk
theorem Nz (a b : Int) : cF ((NA.drop ((qe a).toNat * 4)).take 4) ((qe b).toNat * 1) = some (aL (kr a b)) := by
 unfold kr;rcases ZC a with ha | ha | ha | ha <;> rcases ZC b with hb | hb | hb | hb <;> rw [ha, hb] <;> rfl
theorem ki (h : yB) (a b : Int) : C Tryz.prog 122 [aL a, aL b].toArray h fun v h' => v = aL (kr a b) /\ Le (mp h) (mp h') := by
 refine YS [4] Tryz.func122 rfl rfl rfl ?_;have ha := cT a;have hb := cT b;have hj := Nz a b;refine zy ?_;refine zh ?_;refine zd (zr rfl) rfl rfl rfl ?_;refine zE ?_;refine zc ?_;refine zy ?_
 refine Ig [(1, .pure), (4, .pure), (0, .kept), (2, .kept), (3, .pure), (5, .kept), (6, .pure), (7, .pure)] mixed zi (fun _ _ _ _ hq => hq) ?_;refine jq rfl (z7 rfl) rfl rfl rfl ?_;refine jq rfl (z7 rfl) rfl rfl rfl ?_;refine f9 rfl (xW E2 rfl ((Ny h)) rfl ?_) rfl;rintro _ h1 ⟨rfl, hl⟩;refine ⟨hl, ?_⟩
 refine f9 rfl (xW Hc rfl ((bZ h1 a)) rfl ?_) rfl;rintro _ h1 ⟨rfl, rfl⟩;refine ⟨Le.refl _, ?_⟩;refine jq rfl (OZ SH Fp rfl rfl za za) rfl rfl rfl ?_;refine f9 rfl (xW Hc rfl ((bZ h1 b)) rfl ?_) rfl;rintro _ h1 ⟨rfl, rfl⟩;refine ⟨Le.refl _, ?_⟩
 refine jq rfl ((ub SI Fk rfl rfl hb.1 za hj)) rfl rfl rfl ?_;refine jq rfl (zr rfl) rfl rfl rfl ?_;refine If ?_;refine zc ?_;refine wr ?_;refine yH rfl ?_;exact ⟨rfl, hl⟩
theorem Pd (h : yB) (a b : Int) : C Tryz.prog 125 [aL a, aL b].toArray h fun v h' => v = .bool (GV a b) /\ Le (mp h) (mp h') := by
 refine YS [4] Tryz.func125 rfl rfl rfl ?_;refine zy ?_;refine zh ?_;refine zd (zr rfl) rfl rfl rfl ?_;refine zE ?_;refine zc ?_;refine zy ?_;refine zh ?_;refine zd (z7 rfl) rfl rfl rfl ?_;refine zd (z7 rfl) rfl rfl rfl ?_;refine yh (xW ZT rfl ((ki h a b)) rfl ?_) rfl;rintro _ h1 ⟨rfl, hl⟩
 refine zd (z7 rfl) rfl rfl rfl ?_;refine yh (xW Hc rfl ((bZ h1 b)) rfl ?_) rfl;rintro _ h1 ⟨rfl, rfl⟩;refine zd ((y3 rfl rfl)) rfl rfl rfl ?_;refine zd (zr rfl) rfl rfl rfl ?_;refine zE ?_;refine zc ?_;refine wr ?_;refine yH rfl ?_;exact ⟨rfl, hl⟩
end
namespace La
mutual
def Xx : zY -> Int
 | .mk op _ _ kids => if op = 6 then 3 else if 8 <= op /\ op <= 12 then k6 0 kids else 0
def k6 : Int -> List zY -> Int
 | l, [] => l
 | l, k :: r => k6 (kr l (Xx k)) r
end
mutual
def fZ : zI -> Int
 | .mk op who _ nums kids => if op = 6 then (if who = 0 then 1 else if who = 1 then 2 else 3) else kD (k6 0 nums) kids
def kD : Int -> List zI -> Int
 | l, [] => l
 | l, k :: r => kD (kr l (fZ k)) r
end
mutual
def jw : Int -> zW -> Bool
 | u, .mk op _ n _ cond thn els =>
   if op = 5 then GV (kr u (Xx n)) 1
   else if op = 8 then wH (kr u (fZ cond)) thn && wH (kr u (fZ cond)) els
   else if 0 <= op /\ op <= 3 then decide (kr u (Xx n) = 0)
   else decide (qe u = 0)
def wH : Int -> List zW -> Bool
 | _, [] => true
 | u, x :: r => jw u x && wH u r
end
theorem Qe (l : Int) (a b : List zY) : k6 l (a ++ b) = k6 (k6 l a) b := by
 induction a generalizing l with
 | nil => simp [k6]
 | cons x r ih => simp [k6, ih]
theorem VL (l : Int) (a b : List zI) : kD l (a ++ b) = kD (kD l a) b := by
 induction a generalizing l with
 | nil => simp [kD]
 | cons x r ih => simp [kD, ih]
theorem di (u : Int) (a b : List zW) : wH u (a ++ b) = (wH u a && wH u b) := by
 induction a with
 | nil => simp [wH]
 | cons x r ih => simp [wH, ih, Bool.and_assoc]
variable {i : Nat} {l : Int}
theorem Wq {k : List zY} (h : i < k.length) : k6 l (k.take (i + 1)) = kr (k6 l (k.take i)) (Xx k[i]) := by
 rw [List.take_succ_eq_append_getElem h, Qe]; simp [k6]
theorem Ks {k : List zI} (h : i < k.length) : kD l (k.take (i + 1)) = kr (kD l (k.take i)) (fZ k[i]) := by
 rw [List.take_succ_eq_append_getElem h, VL]; simp [kD]
theorem JH {u : Int} {k : List zW} (h : i < k.length) : wH u (k.take (i + 1)) = (wH u (k.take i) && jw u k[i]) := by
 rw [List.take_succ_eq_append_getElem h, di]; simp [wH]
end La
namespace La
theorem four {a : Int} (h : 0 <= a /\ a <= 3) : a = 0 \/ a = 1 \/ a = 2 \/ a = 3 := by omega
end La
section
open La
variable {cs : Lv} {m : Mp}
theorem Jc {x : zY} (hx : xr m cs x) : ∀ h : yB, Le m (mp h) -> C Tryz.prog 123 [.agg cs.toArray].toArray h fun v h' => v = aL (Xx x) /\ Le (mp h) (mp h') := by
 induction hx with
 | @mk op n who kids A len c vs ho hl hm hr hv hk ih =>
   intro h hle;subst hl;simp only [maxLen] at hm;have kle := qV.mk hle;refine YS [2] Tryz.func123 rfl rfl rfl ?_;by_cases h6 : op = 6
   ·refine zy ?_;refine zh ?_;refine yh (uE rfl rfl (fun b1 h1 hn1 hb1 hl1 => ?_)) rfl
    replace hle := Le.trans hle hl1
    refine zd (zr rfl) rfl rfl rfl ?_;refine zE ?_;refine zc ?_;refine zy ?_;refine zh ?_;refine zd (zr rfl) rfl rfl rfl ?_;refine zE ?_;refine zc ?_;refine zy ?_;refine uO ?_;refine zy ?_;refine zh ?_;refine zd (zn dU rfl) rfl rfl rfl ?_;refine zJ (yo ze rfl (zZ hb1 rfl)) rfl rfl rfl ?_
    refine zd (dt (y3 rfl rfl) vN) rfl rfl rfl ?_;refine zd (zr rfl) rfl rfl rfl ?_;refine zE ?_;refine zc ?_;refine wX rfl ?_;refine zy ?_;refine zh ?_;refine zd (zr rfl) rfl rfl rfl ?_;refine zE ?_;refine zc ?_;refine wr ?_;refine vf ?_;refine wh ?_
    refine yH rfl ?_;exact ⟨by rw [Xx, if_pos h6]; rfl, hl1⟩
   ·by_cases h8 : 8 <= op /\ op <= 12
    ·obtain ⟨h8a, h8b⟩ := h8;refine zy ?_;refine zh ?_;refine yh (uE rfl rfl (fun b1 h1 hn1 hb1 hl1 => ?_)) rfl
     replace hle := Le.trans hle hl1
     refine zd (zr rfl) rfl rfl rfl ?_;refine zE ?_;refine zc ?_;refine zy ?_;refine zh ?_;refine zd (zr rfl) rfl rfl rfl ?_;refine zE ?_;refine zc ?_;refine zy ?_;refine uO ?_;refine zy ?_;refine zh ?_;refine zd (zn dU rfl) rfl rfl rfl ?_;refine zJ (yo ze rfl (zZ hb1 rfl)) rfl rfl rfl ?_
     refine zd (df (y3 rfl rfl) fN) rfl rfl rfl ?_;refine zd (zr rfl) rfl rfl rfl ?_;refine zE ?_;refine zc ?_;refine vL rfl ?_;refine zy ?_;refine zh ?_;refine zd (zn dU rfl) rfl rfl rfl ?_;refine zJ (yo ze rfl (zZ hb1 rfl)) rfl rfl rfl ?_
     refine zd (dt (kh rfl rfl) vN) rfl rfl rfl ?_;refine zd (z7 rfl) rfl rfl rfl ?_;refine zd (zn dU rfl) rfl rfl rfl ?_;refine zJ (yo ze rfl (zZ hb1 rfl)) rfl rfl rfl ?_;refine zd (dt (Xn rfl rfl) vN) rfl rfl rfl ?_
     refine zd (wG rfl rfl) rfl rfl rfl ?_;refine zd (zr rfl) rfl rfl rfl ?_;refine zE ?_;refine zc ?_;refine wX rfl ?_;refine zy ?_;refine zh ?_;refine zd (zn TN rfl) rfl rfl rfl ?_;refine zJ (yo xO rfl (zZ hb1 rfl)) rfl rfl rfl ?_;refine zd (UN Em rfl) rfl rfl rfl ?_;refine zd (z7 rfl) rfl rfl rfl ?_
     refine zE ?_;refine zc ?_;refine uO ?_;have hlab : Xx (.mk op n who kids) = k6 0 kids := by rw [Xx, if_neg h6, if_pos ⟨h8a, h8b⟩]
     rw [hlab];refine YO (fun i : Nat => [(3, aL (k6 0 (kids.take i))), (20, .slice A kids.length c), (21, .int .i64 kids.length), (22, .int .i64 i)]) (fun i h' => i <= kids.length /\ Le (mp h) (mp h')) (fun i => kids.length - i) 0 de ⟨Nat.zero_le _, hl1⟩ ?_;clear hb1 hl1 hn1;rintro i h2 ⟨hi, hle2⟩;by_cases hlt : i < kids.length
     ·obtain ⟨a1, a2, a3, a4, a5, a6, hc⟩ := (hk i hlt).form;have hA : A.isSome = true := hr.isSome za;have hat := (hr.elem (i * 4) 4).mono (kle.out.trans hle2);have ih1 := ih i hlt;rw [hc] at hat ih1;have hs := Wq (l := 0) hlt;have kle2 := qV.mk hle2;refine zy ?_;refine zh ?_;refine zd (dt (qj rfl rfl) vN) rfl rfl rfl ?_
      refine zE ?_;refine zc ?_;refine zy ?_;refine wX rfl ?_;refine jC ?_;refine zc ?_;refine zy ?_;refine uO ?_;refine zy ?_;refine zh ?_;refine zd (zQ dc rfl rfl hA za za) rfl rfl rfl ?_;refine zJ (yd zT rfl rfl hat) rfl rfl rfl ?_;refine yh (jt uw rfl (fun b2 h3 hn1 hb1 hl1 => ?_)) rfl
      replace hle2 := Le.trans hle2 hl1
      replace hat := hat.mono hl1
      refine yh (we zT rfl rfl rfl hb1 rfl rfl (fun h4 hb2 hl2 hn2 => ?_)) rfl;refine zE ?_;refine zc ?_;refine zh ?_;refine zd (z7 rfl) rfl rfl rfl ?_;refine zJ (yd zT rfl rfl (At.blk hb2)) rfl rfl rfl ?_;have hl24 := kle2.out.trans (hl1.stored hn1 hl2);refine yh (xW Hd rfl ((ih1 _ (kle.out.trans hl24))) rfl ?_) rfl
      rintro _ h5 ⟨rfl, hl5⟩;refine yh (xW ZT rfl ((ki h5 _ _)) rfl ?_) rfl;rintro _ h6 ⟨rfl, hl6⟩;refine zd (zr rfl) rfl rfl rfl ?_;refine zE ?_;refine wn ?_;refine zc ?_;refine zh ?_;refine zd (wO rfl rfl (fK za za)) rfl rfl rfl ?_;refine zd (z7 rfl) rfl rfl rfl ?_;refine zE ?_
      exact ⟨i + 1, ⟨by rw [hs]; rfl, rfl, rfl, rfl, trivial⟩, ⟨by omega, hl24.trans (hl5.trans hl6)⟩, by show kids.length - (i + 1) < kids.length - i; omega⟩
     ·refine zy ?_;refine zh ?_;refine zd (df (qj rfl rfl) fN) rfl rfl rfl ?_;refine zE ?_;refine zc ?_;refine zy ?_;refine vL rfl ?_;refine YP ?_;refine ku ?_;refine jH ?_;refine jQ ?_;refine wn ?_;refine zc ?_;refine zy ?_
      refine zh ?_;refine zd (z7 rfl) rfl rfl rfl ?_;refine zd (zr rfl) rfl rfl rfl ?_;refine zE ?_;refine zc ?_;refine wr ?_;refine yH rfl ?_;refine ⟨?_, hle2⟩;rw [List.take_of_length_le za]
    ·refine zy ?_;refine zh ?_;refine yh (uE rfl rfl (fun b1 h1 hn1 hb1 hl1 => ?_)) rfl
     replace hle := Le.trans hle hl1
     refine zd (zr rfl) rfl rfl rfl ?_;refine zE ?_;refine zc ?_;refine zy ?_;refine zh ?_;refine zd (zr rfl) rfl rfl rfl ?_;refine zE ?_;refine zc ?_;refine zy ?_;refine uO ?_;refine zy ?_;refine zh ?_;refine zd (zn dU rfl) rfl rfl rfl ?_;refine zJ (yo ze rfl (zZ hb1 rfl)) rfl rfl rfl ?_
     refine zd (df (y3 rfl rfl) fN) rfl rfl rfl ?_;refine zd (zr rfl) rfl rfl rfl ?_;refine zE ?_;refine zc ?_;refine vL rfl ?_;refine zy ?_;refine zh ?_;refine zd (zn dU rfl) rfl rfl rfl ?_;refine zJ (yo ze rfl (zZ hb1 rfl)) rfl rfl rfl ?_
     refine RA (kh rfl rfl) rfl rfl rfl (fun hc1 => ?_) (fun hc1 => ?_);refine zd (z7 rfl) rfl rfl rfl ?_;refine zd (zn dU rfl) rfl rfl rfl ?_;refine zJ (yo ze rfl (zZ hb1 rfl)) rfl rfl rfl ?_;refine zd (df (Xn rfl rfl) fN) rfl rfl rfl ?_
     refine zd (wG rfl rfl) rfl rfl rfl ?_;refine zd (zr rfl) rfl rfl rfl ?_;refine zE ?_;refine zc ?_;refine vL rfl ?_;refine jC ?_;refine wn ?_;refine zc ?_;refine zy ?_;refine zh ?_;refine zd (z7 rfl) rfl rfl rfl ?_;refine zd (zr rfl) rfl rfl rfl ?_;refine zE ?_;refine zc ?_;refine wr ?_
     refine yH rfl ?_;exact ⟨by rw [Xx, if_neg h6, if_neg h8]; rfl, by assumption⟩;refine zd (z7 rfl) rfl rfl rfl ?_
     iterate 3 (refine ab rfl rfl rfl ?_)
     refine zd (jm rfl rfl) rfl rfl rfl ?_;refine zd (zr rfl) rfl rfl rfl ?_;refine zE ?_;refine zc ?_;refine vL rfl ?_;refine jC ?_;refine wn ?_;refine zc ?_;refine zy ?_;refine zh ?_;refine zd (z7 rfl) rfl rfl rfl ?_;refine zd (zr rfl) rfl rfl rfl ?_;refine zE ?_;refine zc ?_;refine wr ?_
     refine yH rfl ?_;exact ⟨by rw [Xx, if_neg h6, if_neg h8]; rfl, by assumption⟩
theorem O3 {x : zI} (hx : yP m cs x) : ∀ h : yB, Le m (mp h) -> C Tryz.prog 126 [.agg cs.toArray].toArray h fun v h' => v = aL (fZ x) /\ Le (mp h) (mp h') := by
 induction hx with
 | @mk op who name nums kids A B la ca lb cb vs us ho hw hn hla hma hra hva hka hlb hmb hrb hvb hkb ih =>
   intro h hle;subst hla hlb;simp only [maxLen] at hma hmb;have kle := qV.mk hle;refine YS [2] Tryz.func126 rfl rfl rfl ?_;by_cases h6 : op = 6
   ·refine zy ?_;refine zh ?_;refine yh (uE rfl rfl (fun b1 h1 hn1 hb1 hl1 => ?_)) rfl
    replace hle := Le.trans hle hl1
    refine zd (zr rfl) rfl rfl rfl ?_;refine zE ?_;refine zc ?_;refine zy ?_;refine zy ?_;refine zh ?_;refine zd (zn NP rfl) rfl rfl rfl ?_;refine zJ (yo ze rfl (zZ hb1 rfl)) rfl rfl rfl ?_;refine zd (dt (y3 rfl rfl) vN) rfl rfl rfl ?_;refine zE ?_;refine zc ?_
    refine wX rfl ?_;refine zy ?_;refine zy ?_;refine zh ?_;refine zd (zn TM rfl) rfl rfl rfl ?_;refine zJ (yo ze rfl (zZ hb1 rfl)) rfl rfl rfl ?_;refine zE ?_;refine zc ?_;refine uO ?_;refine zy ?_;refine zh ?_;refine RA (y3 rfl rfl) rfl rfl rfl (fun hc1 => ?_) (fun hc1 => ?_)
    refine zd (zr rfl) rfl rfl rfl ?_;refine zE ?_;refine zc ?_;refine wX rfl ?_;refine zy ?_;refine zh ?_;refine zd (zr rfl) rfl rfl rfl ?_;refine zE ?_;refine zc ?_;refine wr ?_;refine vf ?_;refine wh ?_;refine wh ?_;refine yH rfl ?_
    exact ⟨by rw [fZ, if_pos h6]; (repeat' split) <;> first | rfl | omega, by assumption⟩;refine zd (zr rfl) rfl rfl rfl ?_;refine zE ?_;refine zc ?_;refine vL rfl ?_;refine zy ?_;refine zh ?_;refine RA (y3 rfl rfl) rfl rfl rfl (fun hc2 => ?_) (fun hc2 => ?_);refine zd (zr rfl) rfl rfl rfl ?_;refine zE ?_;refine zc ?_
    refine wX rfl ?_;refine zy ?_;refine zh ?_;refine zd (zr rfl) rfl rfl rfl ?_;refine zE ?_;refine zc ?_;refine wr ?_;refine vf ?_;refine wh ?_;refine wh ?_;refine yH rfl ?_;exact ⟨by rw [fZ, if_pos h6]; (repeat' split) <;> first | rfl | omega, by assumption⟩;refine zd (zr rfl) rfl rfl rfl ?_;refine zE ?_
    refine zc ?_;refine vL rfl ?_;refine jC ?_;refine wn ?_;refine zc ?_;refine zy ?_;refine zh ?_;refine zd (zr rfl) rfl rfl rfl ?_;refine zE ?_;refine zc ?_;refine wr ?_;refine wh ?_;refine yH rfl ?_;exact ⟨by rw [fZ, if_pos h6]; (repeat' split) <;> first | rfl | omega, by assumption⟩
   ·refine zy ?_;refine zh ?_;refine yh (uE rfl rfl (fun b1 h1 hn1 hb1 hl1 => ?_)) rfl
    replace hle := Le.trans hle hl1
    refine zd (zr rfl) rfl rfl rfl ?_;refine zE ?_;refine zc ?_;refine zy ?_;refine zy ?_;refine zh ?_;refine zd (zn NP rfl) rfl rfl rfl ?_;refine zJ (yo ze rfl (zZ hb1 rfl)) rfl rfl rfl ?_;refine zd (df (y3 rfl rfl) fN) rfl rfl rfl ?_;refine zE ?_
    refine zc ?_;refine vL rfl ?_;refine jC ?_;refine zc ?_;refine zy ?_;refine zh ?_;refine zd (zr rfl) rfl rfl rfl ?_;refine zE ?_;refine zc ?_;refine zy ?_;refine zy ?_;refine zh ?_;refine zd (zn TL rfl) rfl rfl rfl ?_;refine zJ (yo xO rfl (zZ hb1 rfl)) rfl rfl rfl ?_
    refine zd (UN Em rfl) rfl rfl rfl ?_;refine zd (z7 rfl) rfl rfl rfl ?_;refine zE ?_;refine zc ?_;refine uO ?_;have hlab : fZ (.mk op who name nums kids) = kD (k6 0 nums) kids := by rw [fZ, if_neg h6]
    rw [hlab];refine YO (fun i : Nat => [(1, .pointer (some ⟨b1, 0, none⟩)), (3, aL (k6 0 (nums.take i))), (18, .slice A nums.length ca), (19, .int .i64 nums.length), (20, .int .i64 i)]) (fun i h' => i <= nums.length /\ Le (mp h1) (mp h')) (fun i => nums.length - i) 0 vX ⟨Nat.zero_le _, Le.refl _⟩ ?_;have kb1 := qV.mk hb1;have kl1 := qV.mk hl1
    clear hb1 hl1 hn1;rintro i h2 ⟨hi, hle2⟩;by_cases hlt : i < nums.length
    ·obtain ⟨a1, a2, a3, a4, a5, a6, hc⟩ := (hka i hlt).form;have hA : A.isSome = true := hra.isSome za;have hat := (hra.elem (i * 4) 4).mono (hle.trans hle2);have ih1 := Jc (hka i hlt);rw [hc] at hat ih1;have hs := Wq (l := 0) hlt;have kle2 := qV.mk hle2;refine zy ?_;refine zh ?_
     refine zd (dt (qj rfl rfl) vN) rfl rfl rfl ?_;refine zE ?_;refine zc ?_;refine zy ?_;refine wX rfl ?_;refine jC ?_;refine zc ?_;refine zy ?_;refine uO ?_;refine zy ?_;refine zh ?_;refine zd (zQ dc rfl rfl hA za za) rfl rfl rfl ?_
     refine zJ (yd zT rfl rfl hat) rfl rfl rfl ?_;refine yh (jt uw rfl (fun b2 h3 hn1 hb1 hl1 => ?_)) rfl
     replace hle2 := Le.trans hle2 hl1
     replace hat := hat.mono hl1
     refine yh (we zT rfl rfl rfl hb1 rfl rfl (fun h4 hb2 hl2 hn2 => ?_)) rfl;refine zE ?_;refine zc ?_;refine zh ?_;refine zd (z7 rfl) rfl rfl rfl ?_;refine zJ (yd zT rfl rfl (At.blk hb2)) rfl rfl rfl ?_;have hl24 := kle2.out.trans (hl1.stored hn1 hl2);refine yh (xW Hd rfl ((ih1 _ (hle.trans hl24))) rfl ?_) rfl;rintro _ h5 ⟨rfl, hl5⟩
     refine yh (xW ZT rfl ((ki h5 _ _)) rfl ?_) rfl;rintro _ h6 ⟨rfl, hl6⟩;refine zd (zr rfl) rfl rfl rfl ?_;refine zE ?_;refine wn ?_;refine zc ?_;refine zh ?_;refine zd (wO rfl rfl (fK za za)) rfl rfl rfl ?_;refine zd (z7 rfl) rfl rfl rfl ?_;refine zE ?_
     exact ⟨i + 1, ⟨rfl, by rw [hs]; rfl, rfl, rfl, rfl, trivial⟩, ⟨by omega, hl24.trans (hl5.trans hl6)⟩, by show nums.length - (i + 1) < nums.length - i; omega⟩
    have hb2 := hle2 _ _ kb1.out;have hnt : nums.take i = nums := List.take_of_length_le za;rw [hnt];refine zy ?_;refine zh ?_;refine zd (df (qj rfl rfl) fN) rfl rfl rfl ?_;refine zE ?_;refine zc ?_;refine zy ?_;refine vL rfl ?_;refine YP ?_;refine ku ?_
    refine jH ?_;refine jQ ?_;refine zc ?_;refine zy ?_;refine zy ?_;refine zh ?_;refine zd (zn TK rfl) rfl rfl rfl ?_;refine zJ (yo wT rfl (zZ hb2 rfl)) rfl rfl rfl ?_;refine zd (UN D6 rfl) rfl rfl rfl ?_;refine zd (z7 rfl) rfl rfl rfl ?_;refine zE ?_;refine zc ?_;refine uO ?_
    refine YO (fun i : Nat => [(3, aL (kD (k6 0 nums) (kids.take i))), (30, .slice B kids.length cb), (31, .int .i64 kids.length), (32, .int .i64 i)]) (fun i h' => i <= kids.length /\ Le (mp h1) (mp h')) (fun i => kids.length - i) 0 ⟨by rw [List.take_zero, kD]; rfl, rfl, rfl, rfl, trivial⟩ ⟨Nat.zero_le _, hle2⟩ ?_;clear hb2 hle2 hnt hi hlt i h2;rintro i h2 ⟨hi, hle2⟩
    by_cases hlt : i < kids.length
    ·obtain ⟨a1, a2, a3, a4, a5, a6, a7, a8, a9, hc⟩ := (hkb i hlt).form;have hB : B.isSome = true := hrb.isSome za;have hat := (hrb.elem (i * 5) 5).mono (hle.trans hle2);have ih1 := ih i hlt;rw [hc] at hat ih1;have hs := Ks (l := k6 0 nums) hlt;have kle2 := qV.mk hle2;refine zy ?_;refine zh ?_
     refine zd (dt (qj rfl rfl) vN) rfl rfl rfl ?_;refine zE ?_;refine zc ?_;refine zy ?_;refine wX rfl ?_;refine jC ?_;refine zc ?_;refine zy ?_;refine uO ?_;refine zy ?_;refine zh ?_;refine zd (zQ jy rfl rfl hB za za) rfl rfl rfl ?_
     refine zJ (yd xP rfl rfl hat) rfl rfl rfl ?_;refine yh (jt gr rfl (fun b2 h3 hn1 hb1 hl1 => ?_)) rfl
     replace hle2 := Le.trans hle2 hl1
     replace hat := hat.mono hl1
     refine yh (we xP rfl rfl rfl hb1 rfl rfl (fun h4 hb2 hl2 hn2 => ?_)) rfl;refine zE ?_;refine zc ?_;refine zh ?_;refine zd (z7 rfl) rfl rfl rfl ?_;refine zJ (yd xP rfl rfl (At.blk hb2)) rfl rfl rfl ?_;have hl24 := kle2.out.trans (hl1.stored hn1 hl2);refine yh (xW Oj rfl ((ih1 _ (hle.trans hl24))) rfl ?_) rfl;rintro _ h5 ⟨rfl, hl5⟩
     refine yh (xW ZT rfl ((ki h5 _ _)) rfl ?_) rfl;rintro _ h6 ⟨rfl, hl6⟩;refine zd (zr rfl) rfl rfl rfl ?_;refine zE ?_;refine wn ?_;refine zc ?_;refine zh ?_;refine zd (wO rfl rfl (fK za za)) rfl rfl rfl ?_;refine zd (z7 rfl) rfl rfl rfl ?_;refine zE ?_
     exact ⟨i + 1, ⟨by rw [hs]; rfl, rfl, rfl, rfl, trivial⟩, ⟨by omega, hl24.trans (hl5.trans hl6)⟩, by show kids.length - (i + 1) < kids.length - i; omega⟩
    ·refine zy ?_;refine zh ?_;refine zd (df (qj rfl rfl) fN) rfl rfl rfl ?_;refine zE ?_;refine zc ?_;refine zy ?_;refine vL rfl ?_;refine YP ?_;refine ku ?_;refine jH ?_;refine jQ ?_;refine zc ?_;refine zy ?_;refine zh ?_
     refine zd (z7 rfl) rfl rfl rfl ?_;refine zd (zr rfl) rfl rfl rfl ?_;refine zE ?_;refine zc ?_;refine wr ?_;refine yH rfl ?_;refine ⟨?_, kl1.out.trans hle2⟩;rw [List.take_of_length_le za]
end
section
open La
def JJ (b : Nat) : Value := .pointer (some ⟨b, 0, none⟩)
def chk (u : Int) : Value := .agg [aL u].toArray
theorem eI (h : yB) (u : Int) (cs : Lv) : C Tryz.prog 95 [chk u, .agg cs.toArray].toArray h fun v h' => v = .bool (decide (qe u = 0)) /\ Le (mp h) (mp h') := by
 refine YS [4] Tryz.func95 rfl rfl rfl ?_;unfold chk;refine zy ?_;refine zh ?_;refine yh (uE rfl rfl (fun b1 h1 hn1 hb1 hl1 => ?_)) rfl;refine yh (uE rfl rfl (fun b2 h2 hn2 hb2 hl2 => ?_)) rfl
 replace hb1 := hl2 _ _ hb1
 replace hl1 := Le.trans hl1 hl2
 refine zd (zr rfl) rfl rfl rfl ?_;refine zE ?_;refine zc ?_;refine zy ?_;refine zh ?_;refine zd (zn XL rfl) rfl rfl rfl ?_;refine zJ (yo Iw rfl (zZ hb1 rfl)) rfl rfl rfl ?_;have hl := hl1;refine yh (xW Hc rfl ((bZ h2 u)) rfl ?_) rfl;rintro _ h2 ⟨rfl, rfl⟩;refine zd ((y3 rfl rfl)) rfl rfl rfl ?_
 refine zd (zr rfl) rfl rfl rfl ?_;refine zE ?_;refine zc ?_;refine wr ?_;refine yH rfl ?_;exact ⟨rfl, hl⟩
variable {cond : zI} {cs : Lv} {els : List zW} {m : Mp} {n : zY} {name : Bt} {op : Int} {thn : List zW} {who : Int}
theorem bA (hx : un m cs (.mk op who n name cond thn els)) (h : yB) (u : Int) (hle : Le m (mp h)) :
  C Tryz.prog 94 [chk u, .agg cs.toArray].toArray h fun v h' => v = .bool (decide (kr u (Xx n) = 0)) /\ Le (mp h) (mp h') := by
 obtain ⟨op', who', nop, nn, nwho, nA, nlen, nc, name', cop, cwho, cname, cA, cla, cca, cB, clb, ccb, A1, la, ca, B1, lb, cb, n', cond', thn', els', rfl, hmk, _, hn, hcd, _, _⟩ := hx.parts
 injection hmk with e1 e2 e3 e4 e5 e6 e7
 subst e1 e2 e3 e4 e5 e6 e7;refine YS [4] Tryz.func94 rfl rfl rfl ?_;unfold chk;have kle := qV.mk hle;clear hle hx;refine zy ?_;refine zh ?_;refine yh (uE rfl rfl (fun b1 h1 hn1 hb1 hl1 => ?_)) rfl;refine yh (uE rfl rfl (fun b2 h2 hn2 hb2 hl2 => ?_)) rfl
 replace hb1 := hl2 _ _ hb1
 replace hl1 := Le.trans hl1 hl2
 refine zd (zr rfl) rfl rfl rfl ?_;refine zE ?_;refine zc ?_;refine zy ?_;have hl := hl1;have hat : At (mp h2) ⟨b2, 2, none⟩ [.int .i8 nop, .int .i64 nn, .int .i8 nwho, .slice nA nlen nc] := At.blkO (k := 4) hb2;refine Ig [(0, .pure), (2, .pure), (1, .read), (3, .read), (4, .kept), (5, .kept), (6, .pure), (7, .pure)] mixed zi (fun _ _ _ _ hq => hq) ?_
 refine jq rfl (zn XL rfl) rfl rfl rfl ?_;refine jq rfl (zn NO rfl) rfl rfl rfl ?_;refine XR rfl (yo Iw rfl (zZ hb1 rfl)) rfl rfl rfl ?_;refine XR rfl (yd zT rfl rfl hat) rfl rfl rfl ?_;refine f9 rfl (xW Hd rfl ((Jc hn h2 (kle.out.trans hl))) rfl ?_) rfl;rintro _ h3 ⟨rfl, hl3⟩;refine ⟨hl3, ?_⟩
 refine f9 rfl (xW ZT rfl ((ki h3 _ _)) rfl ?_) rfl;rintro _ h4 ⟨rfl, hl4⟩;refine ⟨hl4, ?_⟩;refine jq rfl ((y3 rfl rfl)) rfl rfl rfl ?_;refine jq rfl (zr rfl) rfl rfl rfl ?_;refine If ?_;refine zc ?_;refine wr ?_;refine yH rfl ?_;exact ⟨rfl, hl.trans (hl3.trans hl4)⟩
theorem PR (hx : un m cs (.mk op who n name cond thn els)) (h : yB) (u : Int) (hle : Le m (mp h)) :
  C Tryz.prog 96 [chk u, .agg cs.toArray].toArray h fun v h' => v = .bool (GV (kr u (Xx n)) 1) /\ Le (mp h) (mp h') := by
 obtain ⟨op', who', nop, nn, nwho, nA, nlen, nc, name', cop, cwho, cname, cA, cla, cca, cB, clb, ccb, A1, la, ca, B1, lb, cb, n', cond', thn', els', rfl, hmk, _, hn, hcd, _, _⟩ := hx.parts
 injection hmk with e1 e2 e3 e4 e5 e6 e7
 subst e1 e2 e3 e4 e5 e6 e7;refine YS [4] Tryz.func96 rfl rfl rfl ?_;unfold chk;have kle := qV.mk hle;clear hle hx;refine zy ?_;refine zh ?_;refine yh (uE rfl rfl (fun b1 h1 hn1 hb1 hl1 => ?_)) rfl;refine yh (uE rfl rfl (fun b2 h2 hn2 hb2 hl2 => ?_)) rfl
 replace hb1 := hl2 _ _ hb1
 replace hl1 := Le.trans hl1 hl2
 refine zd (zr rfl) rfl rfl rfl ?_;refine zE ?_;refine zc ?_;refine zy ?_;have hl := hl1;have hat : At (mp h2) ⟨b2, 2, none⟩ [.int .i8 nop, .int .i64 nn, .int .i8 nwho, .slice nA nlen nc] := At.blkO (k := 4) hb2;refine Ig [(0, .pure), (2, .pure), (1, .read), (3, .read), (4, .kept), (5, .kept), (6, .kept), (7, .pure)] mixed zi (fun _ _ _ _ hq => hq) ?_
 refine jq rfl (zn XL rfl) rfl rfl rfl ?_;refine jq rfl (zn NO rfl) rfl rfl rfl ?_;refine XR rfl (yo Iw rfl (zZ hb1 rfl)) rfl rfl rfl ?_;refine XR rfl (yd zT rfl rfl hat) rfl rfl rfl ?_;refine f9 rfl (xW Hd rfl ((Jc hn h2 (kle.out.trans hl))) rfl ?_) rfl;rintro _ h3 ⟨rfl, hl3⟩;refine ⟨hl3, ?_⟩
 refine f9 rfl (xW ZT rfl ((ki h3 _ _)) rfl ?_) rfl;rintro _ h4 ⟨rfl, hl4⟩;refine ⟨hl4, ?_⟩;refine f9 rfl (xW E8 rfl ((Pd h4 _ 1)) rfl ?_) rfl;rintro _ h5 ⟨rfl, hl5⟩;refine ⟨hl5, ?_⟩;refine jq rfl (zr rfl) rfl rfl rfl ?_;refine If ?_;refine zc ?_;refine wr ?_;refine yH rfl ?_;exact ⟨rfl, hl.trans (hl3.trans (hl4.trans hl5))⟩
def HI (m : Mp) (v : Value) (l : List zW) : Prop := ∀ (u : Int) (h : yB), Le m (mp h) -> C Tryz.prog 55 [chk u, v].toArray h fun r h' => r = .bool (wH u l) /\ Le (mp h) (mp h')
def b6 (m : Mp) (cs : Lv) : zW -> Prop
 | .mk _ _ _ _ _ thn els => (∀ v, cs[12]? = some v -> HI m v thn) /\ (∀ v, cs[13]? = some v -> HI m v els)
theorem Lw (hx : un m cs (.mk op who n name cond thn els)) (hk : b6 m cs (.mk op who n name cond thn els)) (h : yB) (u : Int) (hle : Le m (mp h)) :
  C Tryz.prog 97 [chk u, .agg cs.toArray].toArray h fun v h' => v = .bool (wH (kr u (fZ cond)) thn && wH (kr u (fZ cond)) els) /\ Le (mp h) (mp h') := by
 obtain ⟨op', who', nop, nn, nwho, nA, nlen, nc, name', cop, cwho, cname, cA, cla, cca, cB, clb, ccb, A1, la, ca, B1, lb, cb, n', cond', thn', els', rfl, hmk, _, hn, hcd, _, _⟩ := hx.parts
 injection hmk with e1 e2 e3 e4 e5 e6 e7
 subst e1 e2 e3 e4 e5 e6 e7;obtain ⟨hkA, hkB⟩ := hk;have hkA := hkA _ rfl;have hkB := hkB _ rfl;refine YS [4] Tryz.func97 rfl rfl rfl ?_;unfold chk;have kle := qV.mk hle;clear hle hx;refine zy ?_;refine zh ?_;refine yh (uE rfl rfl (fun b1 h1 hn1 hb1 hl1 => ?_)) rfl;refine yh (uE rfl rfl (fun b2 h2 hn2 hb2 hl2 => ?_)) rfl
 replace hb1 := hl2 _ _ hb1
 replace hl1 := Le.trans hl1 hl2
 refine zd (zr rfl) rfl rfl rfl ?_;refine zE ?_;refine zc ?_;refine zy ?_;have hl := hl1;have hat : At (mp h2) ⟨b2, 7, none⟩ [.int .i8 cop, .int .i8 cwho, .string (bs cname), .slice cA cla cca, .slice cB clb ccb] := At.blkO (k := 5) hb2;have kb2 := qV.mk hb2;have kl := qV.mk hl
 refine SM (fun b3 : Nat => [(3, JJ b2), (5, JJ b3)]) (fun b3 h' => mp h' b3 = some (.cells [aL (kr u (fZ cond))].toArray 111 (0, 0)) /\ Le (mp h2) (mp h')) ?_ ?_
 ·have hcc := O3 hcd;clear hl hl1 hl2 hn1 hn2
  refine Hn (.step 0 .pure (.step 2 .pure (.step 1 .read (.step 3 .read (.fork (.step 4 .kept (.fork (.step 5 .kept (.step 6 .pure (.step 7 .kept (.step 8 .wild (.done))))) (.step 7 .kept (.step 5 .kept (.step 6 .pure (.step 8 .wild (.done))))))) (.step 7 .kept (.step 4 .kept (.step 5 .kept (.step 6 .pure (.step 8 .wild (.done))))))))))) mixed zi (fun _ _ _ _ hq => hq) ?_
  refine bU rfl (zn XL rfl) rfl rfl rfl ?_;refine bU rfl (zn TJ rfl) rfl rfl rfl ?_;refine QZ rfl (yo Iw rfl (zZ hb1 rfl)) rfl rfl rfl ?_;refine QZ rfl (yd xP rfl rfl hat) rfl rfl rfl ?_;refine Q3 ?_ ?_
  ·refine gR rfl (xW Oj rfl ((hcc h2 (kle.out.trans kl.out))) rfl ?_) rfl;rintro _ h3 ⟨rfl, hl3⟩;refine ⟨hl3, ?_⟩;clear hb1 hb2 hat;refine Q3 ?_ ?_
   ·refine gR rfl (xW ZT rfl ((ki h3 _ _)) rfl ?_) rfl;rintro _ h4 ⟨rfl, hl4⟩;refine ⟨hl4, ?_⟩;have hl34 := qV.mk (hl3.trans hl4);clear hl3 hl4;refine bU rfl (zA YT ID rfl rfl) rfl rfl rfl ?_;refine gR rfl (jt YT rfl (fun b3 h5 hn1 hb1 hl1 => ⟨hl1, ?_⟩)) rfl
    refine XQ rfl rfl (we v8 rfl rfl rfl hb1 rfl rfl (fun h6 hb2 hl2 hn2 => ?_)) rfl;refine Q2 ?_;exact ⟨b3, vv, ⟨hb2, hl34.out.trans (hl1.stored hn1 hl2)⟩, Nat.zero_lt_one⟩
   ·have kl3 := qV.mk hl3;clear hl3;refine gR rfl (jt YT rfl (fun b3 h4 hn1 hb1 hl1 => ⟨hl1, ?_⟩)) rfl;refine gR rfl (xW ZT rfl ((ki _ _ _)) rfl ?_) rfl;rintro _ h5 ⟨rfl, hl5⟩;refine ⟨hl5, ?_⟩;have hb1' := hl5 _ _ hb1;clear hb1;refine bU rfl (zA YT ID rfl rfl) rfl rfl rfl ?_
    refine XQ rfl rfl (we v8 rfl rfl rfl hb1' rfl rfl (fun h6 hb1 hl2 hn2 => ?_)) rfl;refine Q2 ?_;exact ⟨b3, vv, ⟨hb1, kl3.out.trans ((hl1.trans hl5).stored hn1 hl2)⟩, Nat.zero_lt_one⟩
  ·clear hb1 hb2 hat;refine gR rfl (jt YT rfl (fun b3 h3 hn1 hb1 hl1 => ⟨hl1, ?_⟩)) rfl;refine gR rfl (xW Oj rfl ((hcc _ (kle.out.trans (kl.out.trans hl1)))) rfl ?_) rfl;rintro _ h4 ⟨rfl, hl4⟩;refine ⟨hl4, ?_⟩;refine gR rfl (xW ZT rfl ((ki _ _ _)) rfl ?_) rfl;rintro _ h5 ⟨rfl, hl5⟩;refine ⟨hl5, ?_⟩;have hb1' := hl5 _ _ (hl4 _ _ hb1);clear hb1
   refine bU rfl (zA YT ID rfl rfl) rfl rfl rfl ?_;refine XQ rfl rfl (we v8 rfl rfl rfl hb1' rfl rfl (fun h6 hb1 hl2 hn2 => ?_)) rfl;refine Q2 ?_;exact ⟨b3, vv, ⟨hb1, (hl1.trans (hl4.trans hl5)).stored hn1 hl2⟩, Nat.zero_lt_one⟩
 ·rintro b3 h3 ⟨hb3, hl3⟩;clear hl hl1 hl2 hn1 hn2 hb1 hb2 hat;have hb2 := hl3 _ _ kb2.out;have hl03 := kl.out.trans hl3;have kl03 := qV.mk hl03;generalize kr u (fZ cond) = j at *;have c1 := hkA j h3 (kle.out.trans hl03);refine zy ?_;refine zh ?_;refine zJ (yd v8 rfl rfl (At.blk hb3)) rfl rfl rfl ?_;refine zd (zn TI rfl) rfl rfl rfl ?_
  refine zJ (yo y8 rfl (zZ hb2 rfl)) rfl rfl rfl ?_;refine yh (xW Of rfl (c1) rfl ?_) rfl;rintro _ h4 ⟨rfl, hl4⟩;have hb2' := hl4 _ _ hb2;have hb3' := hl4 _ _ hb3;clear hb2 hb3 hl3 hl03;have c2 := hkB j h4 (kle.out.trans (kl03.out.trans hl4));cases hr : wH j thn with
  | false =>
    refine zd (z7 rfl) rfl rfl rfl ?_
    iterate 4 (refine ab rfl rfl rfl ?_)
    refine zd (jm rfl rfl) rfl rfl rfl ?_;refine zd (zr rfl) rfl rfl rfl ?_;refine zE ?_;refine zc ?_;refine wr ?_;refine yH rfl ?_;exact ⟨rfl, kl03.out.trans hl4⟩
  | true =>
    refine zd (z7 rfl) rfl rfl rfl ?_;refine zJ (yd v8 rfl rfl (At.blk hb3')) rfl rfl rfl ?_;refine zd (zn TH rfl) rfl rfl rfl ?_;refine zJ (yo y8 rfl (zZ hb2' rfl)) rfl rfl rfl ?_;refine yh (xW Of rfl (c2) rfl ?_) rfl;rintro _ h5 ⟨rfl, hl5⟩;refine zd (wG rfl rfl) rfl rfl rfl ?_;refine zd (zr rfl) rfl rfl rfl ?_
    refine zE ?_;refine zc ?_;refine wr ?_;refine yH rfl ?_;exact ⟨by simp, kl03.out.trans (hl4.trans hl5)⟩
def P4 (f : Nat) (u : Int) : Value := .func (.func f) [chk u].toArray [].toArray
def Hi (u : Int) : Lv := [P4 94 u, P4 94 u, P4 94 u, P4 94 u, P4 95 u, P4 96 u, P4 95 u, P4 95 u, P4 97 u]
theorem Ri {x : zW} (hx : un m cs x) (hk : b6 m cs x) (u : Int) (h : yB) (b1 b2 : Nat) (hle : Le m (mp h)) (hb1 : mp h b1 = some (.cells [aL u].toArray 111 (0, 0))) (hb2 : mp h b2 = some (.cells (Hi u).toArray 153 (0, 0))) :
  C Tryz.prog 99 [.agg cs.toArray, JJ b1, JJ b2].toArray h fun v h' => v = .bool (!jw u x) /\ Le (mp h) (mp h') := by
 obtain ⟨op, who, nop, nn, nwho, nA, nlen, nc, name, cop, cwho, cname, cA, cla, cca, cB, clb, ccb, A1, la, ca, B1, lb, cb, n, cond, thn, els, rfl, rfl, ho, hn, hcd, _, _⟩ := hx.parts;refine YS [4] Tryz.func99 rfl rfl rfl ?_;have kle := qV.mk hle;clear hle;unfold Hi at hb2;have hcase : op = 0 \/ op = 1 \/ op = 2 \/ op = 3 \/ op = 4 \/ op = 5 \/ op = 6 \/ op = 7 \/ op = 8 \/ op < 0 \/ 9 <= op := by omega
 have ho1 := ho.1;have ho2 := ho.2;rcases hcase with h0 | h0 | h0 | h0 | h0 | h0 | h0 | h0 | h0 | h0 | h0
 ·subst h0;refine zy ?_;refine zh ?_;refine yh (uE rfl rfl (fun b3 h1 hn1 hb3 hl1 => ?_)) rfl
  replace hb1 := hl1 _ _ hb1
  replace hb2 := hl1 _ _ hb2
  refine zd (zr rfl) rfl rfl rfl ?_;refine zE ?_;refine zc ?_;refine zy ?_;refine zh ?_;refine zJ (yd v8 rfl rfl (At.blk hb1)) rfl rfl rfl ?_;refine zd (y0 rfl rfl) rfl rfl rfl ?_;refine zd (zr rfl) rfl rfl rfl ?_;refine zE ?_;refine zc ?_;refine zy ?_;refine zy ?_;refine zh ?_
  refine zd (zn wm rfl) rfl rfl rfl ?_;refine zJ (yo ze rfl (zZ hb3 rfl)) rfl rfl rfl ?_;refine zd (dt (kh rfl rfl) vN) rfl rfl rfl ?_;refine zd (z7 rfl) rfl rfl rfl ?_;refine zd (zn wm rfl) rfl rfl rfl ?_;refine zJ (yo ze rfl (zZ hb3 rfl)) rfl rfl rfl ?_
  refine zd (ww Vz ND rfl (fK za za)) rfl rfl rfl ?_;refine zd (dt (qj rfl rfl) vN) rfl rfl rfl ?_;refine zd (wG rfl rfl) rfl rfl rfl ?_;refine zE ?_;refine zc ?_;refine wX rfl ?_;refine zh ?_;refine zd (zn wm rfl) rfl rfl rfl ?_
  refine zJ (yo ze rfl (zZ hb3 rfl)) rfl rfl rfl ?_;refine zd (wv dw rfl rfl za za) rfl rfl rfl ?_;refine zJ (yo Zi rfl (zZ hb2 rfl)) rfl rfl rfl ?_;refine zd (zr rfl) rfl rfl rfl ?_;refine zE ?_;refine zc ?_;refine zy ?_;refine zh ?_;refine zd (z7 rfl) rfl rfl rfl ?_
  refine zJ (yd wF rfl rfl (At.blk hb3)) rfl rfl rfl ?_;refine yh (qW zi rfl rfl ((bA hx _ u (kle.out.trans hl1))) rfl ?_) rfl;rintro _ h4 ⟨rfl, hl4⟩;refine zd (kg rfl) rfl rfl rfl ?_;refine zd (zr rfl) rfl rfl rfl ?_;refine zE ?_;refine zc ?_;refine wr ?_;refine yH rfl ?_;exact ⟨by simp [jw], hl1.trans hl4⟩
 ·subst h0;refine zy ?_;refine zh ?_;refine yh (uE rfl rfl (fun b3 h1 hn1 hb3 hl1 => ?_)) rfl
  replace hb1 := hl1 _ _ hb1
  replace hb2 := hl1 _ _ hb2
  refine zd (zr rfl) rfl rfl rfl ?_;refine zE ?_;refine zc ?_;refine zy ?_;refine zh ?_;refine zJ (yd v8 rfl rfl (At.blk hb1)) rfl rfl rfl ?_;refine zd (y0 rfl rfl) rfl rfl rfl ?_;refine zd (zr rfl) rfl rfl rfl ?_;refine zE ?_;refine zc ?_;refine zy ?_;refine zy ?_;refine zh ?_
  refine zd (zn wm rfl) rfl rfl rfl ?_;refine zJ (yo ze rfl (zZ hb3 rfl)) rfl rfl rfl ?_;refine zd (dt (kh rfl rfl) vN) rfl rfl rfl ?_;refine zd (z7 rfl) rfl rfl rfl ?_;refine zd (zn wm rfl) rfl rfl rfl ?_;refine zJ (yo ze rfl (zZ hb3 rfl)) rfl rfl rfl ?_
  refine zd (ww Vz ND rfl (fK za za)) rfl rfl rfl ?_;refine zd (dt (qj rfl rfl) vN) rfl rfl rfl ?_;refine zd (wG rfl rfl) rfl rfl rfl ?_;refine zE ?_;refine zc ?_;refine wX rfl ?_;refine zh ?_;refine zd (zn wm rfl) rfl rfl rfl ?_
  refine zJ (yo ze rfl (zZ hb3 rfl)) rfl rfl rfl ?_;refine zd (wv dw rfl rfl za za) rfl rfl rfl ?_;refine zJ (yo Zi rfl (zZ hb2 rfl)) rfl rfl rfl ?_;refine zd (zr rfl) rfl rfl rfl ?_;refine zE ?_;refine zc ?_;refine zy ?_;refine zh ?_;refine zd (z7 rfl) rfl rfl rfl ?_
  refine zJ (yd wF rfl rfl (At.blk hb3)) rfl rfl rfl ?_;refine yh (qW zi rfl rfl ((bA hx _ u (kle.out.trans hl1))) rfl ?_) rfl;rintro _ h4 ⟨rfl, hl4⟩;refine zd (kg rfl) rfl rfl rfl ?_;refine zd (zr rfl) rfl rfl rfl ?_;refine zE ?_;refine zc ?_;refine wr ?_;refine yH rfl ?_;exact ⟨by simp [jw], hl1.trans hl4⟩
 ·subst h0;refine zy ?_;refine zh ?_;refine yh (uE rfl rfl (fun b3 h1 hn1 hb3 hl1 => ?_)) rfl
  replace hb1 := hl1 _ _ hb1
  replace hb2 := hl1 _ _ hb2
  refine zd (zr rfl) rfl rfl rfl ?_;refine zE ?_;refine zc ?_;refine zy ?_;refine zh ?_;refine zJ (yd v8 rfl rfl (At.blk hb1)) rfl rfl rfl ?_;refine zd (y0 rfl rfl) rfl rfl rfl ?_;refine zd (zr rfl) rfl rfl rfl ?_;refine zE ?_;refine zc ?_;refine zy ?_;refine zy ?_;refine zh ?_
  refine zd (zn wm rfl) rfl rfl rfl ?_;refine zJ (yo ze rfl (zZ hb3 rfl)) rfl rfl rfl ?_;refine zd (dt (kh rfl rfl) vN) rfl rfl rfl ?_;refine zd (z7 rfl) rfl rfl rfl ?_;refine zd (zn wm rfl) rfl rfl rfl ?_;refine zJ (yo ze rfl (zZ hb3 rfl)) rfl rfl rfl ?_
  refine zd (ww Vz ND rfl (fK za za)) rfl rfl rfl ?_;refine zd (dt (qj rfl rfl) vN) rfl rfl rfl ?_;refine zd (wG rfl rfl) rfl rfl rfl ?_;refine zE ?_;refine zc ?_;refine wX rfl ?_;refine zh ?_;refine zd (zn wm rfl) rfl rfl rfl ?_
  refine zJ (yo ze rfl (zZ hb3 rfl)) rfl rfl rfl ?_;refine zd (wv dw rfl rfl za za) rfl rfl rfl ?_;refine zJ (yo Zi rfl (zZ hb2 rfl)) rfl rfl rfl ?_;refine zd (zr rfl) rfl rfl rfl ?_;refine zE ?_;refine zc ?_;refine zy ?_;refine zh ?_;refine zd (z7 rfl) rfl rfl rfl ?_
  refine zJ (yd wF rfl rfl (At.blk hb3)) rfl rfl rfl ?_;refine yh (qW zi rfl rfl ((bA hx _ u (kle.out.trans hl1))) rfl ?_) rfl;rintro _ h4 ⟨rfl, hl4⟩;refine zd (kg rfl) rfl rfl rfl ?_;refine zd (zr rfl) rfl rfl rfl ?_;refine zE ?_;refine zc ?_;refine wr ?_;refine yH rfl ?_;exact ⟨by simp [jw], hl1.trans hl4⟩
 ·subst h0;refine zy ?_;refine zh ?_;refine yh (uE rfl rfl (fun b3 h1 hn1 hb3 hl1 => ?_)) rfl
  replace hb1 := hl1 _ _ hb1
  replace hb2 := hl1 _ _ hb2
  refine zd (zr rfl) rfl rfl rfl ?_;refine zE ?_;refine zc ?_;refine zy ?_;refine zh ?_;refine zJ (yd v8 rfl rfl (At.blk hb1)) rfl rfl rfl ?_;refine zd (y0 rfl rfl) rfl rfl rfl ?_;refine zd (zr rfl) rfl rfl rfl ?_;refine zE ?_;refine zc ?_;refine zy ?_;refine zy ?_;refine zh ?_
  refine zd (zn wm rfl) rfl rfl rfl ?_;refine zJ (yo ze rfl (zZ hb3 rfl)) rfl rfl rfl ?_;refine zd (dt (kh rfl rfl) vN) rfl rfl rfl ?_;refine zd (z7 rfl) rfl rfl rfl ?_;refine zd (zn wm rfl) rfl rfl rfl ?_;refine zJ (yo ze rfl (zZ hb3 rfl)) rfl rfl rfl ?_
  refine zd (ww Vz ND rfl (fK za za)) rfl rfl rfl ?_;refine zd (dt (qj rfl rfl) vN) rfl rfl rfl ?_;refine zd (wG rfl rfl) rfl rfl rfl ?_;refine zE ?_;refine zc ?_;refine wX rfl ?_;refine zh ?_;refine zd (zn wm rfl) rfl rfl rfl ?_
  refine zJ (yo ze rfl (zZ hb3 rfl)) rfl rfl rfl ?_;refine zd (wv dw rfl rfl za za) rfl rfl rfl ?_;refine zJ (yo Zi rfl (zZ hb2 rfl)) rfl rfl rfl ?_;refine zd (zr rfl) rfl rfl rfl ?_;refine zE ?_;refine zc ?_;refine zy ?_;refine zh ?_;refine zd (z7 rfl) rfl rfl rfl ?_
  refine zJ (yd wF rfl rfl (At.blk hb3)) rfl rfl rfl ?_;refine yh (qW zi rfl rfl ((bA hx _ u (kle.out.trans hl1))) rfl ?_) rfl;rintro _ h4 ⟨rfl, hl4⟩;refine zd (kg rfl) rfl rfl rfl ?_;refine zd (zr rfl) rfl rfl rfl ?_;refine zE ?_;refine zc ?_;refine wr ?_;refine yH rfl ?_;exact ⟨by simp [jw], hl1.trans hl4⟩
 ·subst h0;refine zy ?_;refine zh ?_;refine yh (uE rfl rfl (fun b3 h1 hn1 hb3 hl1 => ?_)) rfl
  replace hb1 := hl1 _ _ hb1
  replace hb2 := hl1 _ _ hb2
  refine zd (zr rfl) rfl rfl rfl ?_;refine zE ?_;refine zc ?_;refine zy ?_;refine zh ?_;refine zJ (yd v8 rfl rfl (At.blk hb1)) rfl rfl rfl ?_;refine zd (y0 rfl rfl) rfl rfl rfl ?_;refine zd (zr rfl) rfl rfl rfl ?_;refine zE ?_;refine zc ?_;refine zy ?_;refine zy ?_;refine zh ?_
  refine zd (zn wm rfl) rfl rfl rfl ?_;refine zJ (yo ze rfl (zZ hb3 rfl)) rfl rfl rfl ?_;refine zd (dt (kh rfl rfl) vN) rfl rfl rfl ?_;refine zd (z7 rfl) rfl rfl rfl ?_;refine zd (zn wm rfl) rfl rfl rfl ?_;refine zJ (yo ze rfl (zZ hb3 rfl)) rfl rfl rfl ?_
  refine zd (ww Vz ND rfl (fK za za)) rfl rfl rfl ?_;refine zd (dt (qj rfl rfl) vN) rfl rfl rfl ?_;refine zd (wG rfl rfl) rfl rfl rfl ?_;refine zE ?_;refine zc ?_;refine wX rfl ?_;refine zh ?_;refine zd (zn wm rfl) rfl rfl rfl ?_
  refine zJ (yo ze rfl (zZ hb3 rfl)) rfl rfl rfl ?_;refine zd (wv dw rfl rfl za za) rfl rfl rfl ?_;refine zJ (yo Zi rfl (zZ hb2 rfl)) rfl rfl rfl ?_;refine zd (zr rfl) rfl rfl rfl ?_;refine zE ?_;refine zc ?_;refine zy ?_;refine zh ?_;refine zd (z7 rfl) rfl rfl rfl ?_
  refine zJ (yd wF rfl rfl (At.blk hb3)) rfl rfl rfl ?_;refine yh (qW zi rfl rfl ((eI _ u _)) rfl ?_) rfl;rintro _ h4 ⟨rfl, hl4⟩;refine zd (kg rfl) rfl rfl rfl ?_;refine zd (zr rfl) rfl rfl rfl ?_;refine zE ?_;refine zc ?_;refine wr ?_;refine yH rfl ?_;exact ⟨by simp [jw], hl1.trans hl4⟩
 ·subst h0;refine zy ?_;refine zh ?_;refine yh (uE rfl rfl (fun b3 h1 hn1 hb3 hl1 => ?_)) rfl
  replace hb1 := hl1 _ _ hb1
  replace hb2 := hl1 _ _ hb2
  refine zd (zr rfl) rfl rfl rfl ?_;refine zE ?_;refine zc ?_;refine zy ?_;refine zh ?_;refine zJ (yd v8 rfl rfl (At.blk hb1)) rfl rfl rfl ?_;refine zd (y0 rfl rfl) rfl rfl rfl ?_;refine zd (zr rfl) rfl rfl rfl ?_;refine zE ?_;refine zc ?_;refine zy ?_;refine zy ?_;refine zh ?_
  refine zd (zn wm rfl) rfl rfl rfl ?_;refine zJ (yo ze rfl (zZ hb3 rfl)) rfl rfl rfl ?_;refine zd (dt (kh rfl rfl) vN) rfl rfl rfl ?_;refine zd (z7 rfl) rfl rfl rfl ?_;refine zd (zn wm rfl) rfl rfl rfl ?_;refine zJ (yo ze rfl (zZ hb3 rfl)) rfl rfl rfl ?_
  refine zd (ww Vz ND rfl (fK za za)) rfl rfl rfl ?_;refine zd (dt (qj rfl rfl) vN) rfl rfl rfl ?_;refine zd (wG rfl rfl) rfl rfl rfl ?_;refine zE ?_;refine zc ?_;refine wX rfl ?_;refine zh ?_;refine zd (zn wm rfl) rfl rfl rfl ?_
  refine zJ (yo ze rfl (zZ hb3 rfl)) rfl rfl rfl ?_;refine zd (wv dw rfl rfl za za) rfl rfl rfl ?_;refine zJ (yo Zi rfl (zZ hb2 rfl)) rfl rfl rfl ?_;refine zd (zr rfl) rfl rfl rfl ?_;refine zE ?_;refine zc ?_;refine zy ?_;refine zh ?_;refine zd (z7 rfl) rfl rfl rfl ?_
  refine zJ (yd wF rfl rfl (At.blk hb3)) rfl rfl rfl ?_;refine yh (qW zi rfl rfl ((PR hx _ u (kle.out.trans hl1))) rfl ?_) rfl;rintro _ h4 ⟨rfl, hl4⟩;refine zd (kg rfl) rfl rfl rfl ?_;refine zd (zr rfl) rfl rfl rfl ?_;refine zE ?_;refine zc ?_;refine wr ?_;refine yH rfl ?_;exact ⟨by simp [jw], hl1.trans hl4⟩
 ·subst h0;refine zy ?_;refine zh ?_;refine yh (uE rfl rfl (fun b3 h1 hn1 hb3 hl1 => ?_)) rfl
  replace hb1 := hl1 _ _ hb1
  replace hb2 := hl1 _ _ hb2
  refine zd (zr rfl) rfl rfl rfl ?_;refine zE ?_;refine zc ?_;refine zy ?_;refine zh ?_;refine zJ (yd v8 rfl rfl (At.blk hb1)) rfl rfl rfl ?_;refine zd (y0 rfl rfl) rfl rfl rfl ?_;refine zd (zr rfl) rfl rfl rfl ?_;refine zE ?_;refine zc ?_;refine zy ?_;refine zy ?_;refine zh ?_
  refine zd (zn wm rfl) rfl rfl rfl ?_;refine zJ (yo ze rfl (zZ hb3 rfl)) rfl rfl rfl ?_;refine zd (dt (kh rfl rfl) vN) rfl rfl rfl ?_;refine zd (z7 rfl) rfl rfl rfl ?_;refine zd (zn wm rfl) rfl rfl rfl ?_;refine zJ (yo ze rfl (zZ hb3 rfl)) rfl rfl rfl ?_
  refine zd (ww Vz ND rfl (fK za za)) rfl rfl rfl ?_;refine zd (dt (qj rfl rfl) vN) rfl rfl rfl ?_;refine zd (wG rfl rfl) rfl rfl rfl ?_;refine zE ?_;refine zc ?_;refine wX rfl ?_;refine zh ?_;refine zd (zn wm rfl) rfl rfl rfl ?_
  refine zJ (yo ze rfl (zZ hb3 rfl)) rfl rfl rfl ?_;refine zd (wv dw rfl rfl za za) rfl rfl rfl ?_;refine zJ (yo Zi rfl (zZ hb2 rfl)) rfl rfl rfl ?_;refine zd (zr rfl) rfl rfl rfl ?_;refine zE ?_;refine zc ?_;refine zy ?_;refine zh ?_;refine zd (z7 rfl) rfl rfl rfl ?_
  refine zJ (yd wF rfl rfl (At.blk hb3)) rfl rfl rfl ?_;refine yh (qW zi rfl rfl ((eI _ u _)) rfl ?_) rfl;rintro _ h4 ⟨rfl, hl4⟩;refine zd (kg rfl) rfl rfl rfl ?_;refine zd (zr rfl) rfl rfl rfl ?_;refine zE ?_;refine zc ?_;refine wr ?_;refine yH rfl ?_;exact ⟨by simp [jw], hl1.trans hl4⟩
 ·subst h0;refine zy ?_;refine zh ?_;refine yh (uE rfl rfl (fun b3 h1 hn1 hb3 hl1 => ?_)) rfl
  replace hb1 := hl1 _ _ hb1
  replace hb2 := hl1 _ _ hb2
  refine zd (zr rfl) rfl rfl rfl ?_;refine zE ?_;refine zc ?_;refine zy ?_;refine zh ?_;refine zJ (yd v8 rfl rfl (At.blk hb1)) rfl rfl rfl ?_;refine zd (y0 rfl rfl) rfl rfl rfl ?_;refine zd (zr rfl) rfl rfl rfl ?_;refine zE ?_;refine zc ?_;refine zy ?_;refine zy ?_;refine zh ?_
  refine zd (zn wm rfl) rfl rfl rfl ?_;refine zJ (yo ze rfl (zZ hb3 rfl)) rfl rfl rfl ?_;refine zd (dt (kh rfl rfl) vN) rfl rfl rfl ?_;refine zd (z7 rfl) rfl rfl rfl ?_;refine zd (zn wm rfl) rfl rfl rfl ?_;refine zJ (yo ze rfl (zZ hb3 rfl)) rfl rfl rfl ?_
  refine zd (ww Vz ND rfl (fK za za)) rfl rfl rfl ?_;refine zd (dt (qj rfl rfl) vN) rfl rfl rfl ?_;refine zd (wG rfl rfl) rfl rfl rfl ?_;refine zE ?_;refine zc ?_;refine wX rfl ?_;refine zh ?_;refine zd (zn wm rfl) rfl rfl rfl ?_
  refine zJ (yo ze rfl (zZ hb3 rfl)) rfl rfl rfl ?_;refine zd (wv dw rfl rfl za za) rfl rfl rfl ?_;refine zJ (yo Zi rfl (zZ hb2 rfl)) rfl rfl rfl ?_;refine zd (zr rfl) rfl rfl rfl ?_;refine zE ?_;refine zc ?_;refine zy ?_;refine zh ?_;refine zd (z7 rfl) rfl rfl rfl ?_
  refine zJ (yd wF rfl rfl (At.blk hb3)) rfl rfl rfl ?_;refine yh (qW zi rfl rfl ((eI _ u _)) rfl ?_) rfl;rintro _ h4 ⟨rfl, hl4⟩;refine zd (kg rfl) rfl rfl rfl ?_;refine zd (zr rfl) rfl rfl rfl ?_;refine zE ?_;refine zc ?_;refine wr ?_;refine yH rfl ?_;exact ⟨by simp [jw], hl1.trans hl4⟩
 ·subst h0;refine zy ?_;refine zh ?_;refine yh (uE rfl rfl (fun b3 h1 hn1 hb3 hl1 => ?_)) rfl
  replace hb1 := hl1 _ _ hb1
  replace hb2 := hl1 _ _ hb2
  refine zd (zr rfl) rfl rfl rfl ?_;refine zE ?_;refine zc ?_;refine zy ?_;refine zh ?_;refine zJ (yd v8 rfl rfl (At.blk hb1)) rfl rfl rfl ?_;refine zd (y0 rfl rfl) rfl rfl rfl ?_;refine zd (zr rfl) rfl rfl rfl ?_;refine zE ?_;refine zc ?_;refine zy ?_;refine zy ?_;refine zh ?_
  refine zd (zn wm rfl) rfl rfl rfl ?_;refine zJ (yo ze rfl (zZ hb3 rfl)) rfl rfl rfl ?_;refine zd (dt (kh rfl rfl) vN) rfl rfl rfl ?_;refine zd (z7 rfl) rfl rfl rfl ?_;refine zd (zn wm rfl) rfl rfl rfl ?_;refine zJ (yo ze rfl (zZ hb3 rfl)) rfl rfl rfl ?_
  refine zd (ww Vz ND rfl (fK za za)) rfl rfl rfl ?_;refine zd (dt (qj rfl rfl) vN) rfl rfl rfl ?_;refine zd (wG rfl rfl) rfl rfl rfl ?_;refine zE ?_;refine zc ?_;refine wX rfl ?_;refine zh ?_;refine zd (zn wm rfl) rfl rfl rfl ?_
  refine zJ (yo ze rfl (zZ hb3 rfl)) rfl rfl rfl ?_;refine zd (wv dw rfl rfl za za) rfl rfl rfl ?_;refine zJ (yo Zi rfl (zZ hb2 rfl)) rfl rfl rfl ?_;refine zd (zr rfl) rfl rfl rfl ?_;refine zE ?_;refine zc ?_;refine zy ?_;refine zh ?_;refine zd (z7 rfl) rfl rfl rfl ?_
  refine zJ (yd wF rfl rfl (At.blk hb3)) rfl rfl rfl ?_;refine yh (qW zi rfl rfl ((Lw hx hk _ u (kle.out.trans hl1))) rfl ?_) rfl;rintro _ h4 ⟨rfl, hl4⟩;refine zd (kg rfl) rfl rfl rfl ?_;refine zd (zr rfl) rfl rfl rfl ?_;refine zE ?_;refine zc ?_;refine wr ?_;refine yH rfl ?_;exact ⟨by simp [jw], hl1.trans hl4⟩
 ·refine zy ?_;refine zh ?_;refine yh (uE rfl rfl (fun b3 h1 hn1 hb3 hl1 => ?_)) rfl
  replace hb1 := hl1 _ _ hb1
  replace hb2 := hl1 _ _ hb2
  refine zd (zr rfl) rfl rfl rfl ?_;refine zE ?_;refine zc ?_;refine zy ?_;refine zh ?_;refine zJ (yd v8 rfl rfl (At.blk hb1)) rfl rfl rfl ?_;refine zd (y0 rfl rfl) rfl rfl rfl ?_;refine zd (zr rfl) rfl rfl rfl ?_;refine zE ?_;refine zc ?_;refine zy ?_;refine zy ?_;refine zh ?_
  refine zd (zn wm rfl) rfl rfl rfl ?_;refine zJ (yo ze rfl (zZ hb3 rfl)) rfl rfl rfl ?_;refine zd (df (kh rfl rfl) fN) rfl rfl rfl ?_;refine zd (z7 rfl) rfl rfl rfl ?_
  iterate 4 (refine ab rfl rfl rfl ?_)
  refine zd (jm rfl rfl) rfl rfl rfl ?_;refine zE ?_;refine zc ?_;refine vL rfl ?_;refine jC ?_;refine zc ?_;refine zy ?_;refine zh ?_;refine zd (z7 rfl) rfl rfl rfl ?_;refine zJ (yd wF rfl rfl (At.blk hb3)) rfl rfl rfl ?_;refine yh (qW zi rfl rfl ((eI _ u _)) rfl ?_) rfl;rintro _ h4 ⟨rfl, hl4⟩
  refine zd (kg rfl) rfl rfl rfl ?_;refine zd (zr rfl) rfl rfl rfl ?_;refine zE ?_;refine zc ?_;refine wr ?_;refine yH rfl ?_;exact ⟨by rw [jw, if_neg za, if_neg za, if_neg za], hl1.trans hl4⟩
 ·refine zy ?_;refine zh ?_;refine yh (uE rfl rfl (fun b3 h1 hn1 hb3 hl1 => ?_)) rfl
  replace hb1 := hl1 _ _ hb1
  replace hb2 := hl1 _ _ hb2
  refine zd (zr rfl) rfl rfl rfl ?_;refine zE ?_;refine zc ?_;refine zy ?_;refine zh ?_;refine zJ (yd v8 rfl rfl (At.blk hb1)) rfl rfl rfl ?_;refine zd (y0 rfl rfl) rfl rfl rfl ?_;refine zd (zr rfl) rfl rfl rfl ?_;refine zE ?_;refine zc ?_;refine zy ?_;refine zy ?_;refine zh ?_
  refine zd (zn wm rfl) rfl rfl rfl ?_;refine zJ (yo ze rfl (zZ hb3 rfl)) rfl rfl rfl ?_;refine zd (dt (kh rfl rfl) vN) rfl rfl rfl ?_;refine zd (z7 rfl) rfl rfl rfl ?_;refine zd (zn wm rfl) rfl rfl rfl ?_;refine zJ (yo ze rfl (zZ hb3 rfl)) rfl rfl rfl ?_
  refine zd (ww Vz ND rfl (fK za za)) rfl rfl rfl ?_;refine zd (df (qj rfl rfl) fN) rfl rfl rfl ?_;refine zd (wG rfl rfl) rfl rfl rfl ?_;refine zE ?_;refine zc ?_;refine vL rfl ?_;refine jC ?_;refine zc ?_;refine zy ?_;refine zh ?_
  refine zd (z7 rfl) rfl rfl rfl ?_;refine zJ (yd wF rfl rfl (At.blk hb3)) rfl rfl rfl ?_;refine yh (qW zi rfl rfl ((eI _ u _)) rfl ?_) rfl;rintro _ h4 ⟨rfl, hl4⟩;refine zd (kg rfl) rfl rfl rfl ?_;refine zd (zr rfl) rfl rfl rfl ?_;refine zE ?_;refine zc ?_;refine wr ?_;refine yH rfl ?_
  exact ⟨by rw [jw, if_neg za, if_neg za, if_neg za], hl1.trans hl4⟩
end
section
open La
def Od (b1 b2 : Nat) : Value := .func (.func 99) [].toArray [JJ b1, JJ b2].toArray
variable {A : Oa} {c : Nat} {l : List zW} {m : Mp} {vs : Lv}
theorem LT (hm : l.length <= maxLen) (hr : Rd m A vs) (hv : vs.length = l.length * 14) (hk : ∀ (i : Nat) (hi : i < l.length), un m ((vs.drop (i * 14)).take 14) l[i]) (hs : ∀ (i : Nat) (hi : i < l.length), b6 m ((vs.drop (i * 14)).take 14) l[i]) (u : Int) (h : yB) (b1 b2 : Nat) (hle : Le m (mp h)) (hb1 : mp h b1 = some (.cells [aL u].toArray 111 (0, 0))) (hb2 : mp h b2 = some (.cells (Hi u).toArray 153 (0, 0))) :
  C Tryz.prog 127 [.slice A l.length c, Od b1 b2].toArray h fun v h' => ∃ z : Int, v = .int .i64 z /\ (0 <= z ↔ wH u l = false) /\ Le (mp h) (mp h') := by
 simp only [maxLen] at hm;refine YS [4] Tryz.func127 rfl rfl rfl ?_;refine zy ?_;refine zh ?_;refine zd (zr rfl) rfl rfl rfl ?_;refine zE ?_;refine zc ?_;refine zy ?_;refine zy ?_;refine zh ?_;refine zd (z7 rfl) rfl rfl rfl ?_;refine zd (UN D7 rfl) rfl rfl rfl ?_;refine zd (z7 rfl) rfl rfl rfl ?_;refine zE ?_
 refine zc ?_;refine uO ?_;refine YO (fun i : Nat => [(0, .slice A l.length c), (1, Od b1 b2), (7, .int .i64 l.length), (8, .int .i64 i)]) (fun i h' => i <= l.length /\ wH u (l.take i) = true /\ Le (mp h) (mp h')) (fun i => l.length - i) 0 de ⟨Nat.zero_le _, by simp [wH], Le.refl _⟩ ?_;rintro i h2 ⟨hi, hright, hle2⟩;by_cases hlt : i < l.length
 ·have he := hk i hlt;have hcl := fun h3 (hl3 : Le (mp h) (mp h3)) => Ri he (hs i hlt) u h3 b1 b2 (hle.trans hl3) (hl3 _ _ hb1) (hl3 _ _ hb2);have hA : A.isSome = true := hr.isSome za;have hat := (hr.elem (i * 14) 14).mono (hle.trans hle2);obtain ⟨op, who, nop, nn, nwho, nA, nlen, nc, name, cop, cwho, cname, cA, cla, cca, cB, clb, ccb, A1, la, ca, B1, lb, cb, hc⟩ := he.form
  rw [hc] at hat hcl;have hsu := JH (u := u) hlt;rw [hright, Bool.true_and] at hsu;clear he hc hk hs hb1 hb2;refine zy ?_;refine zh ?_;refine zd (dt (qj rfl rfl) vN) rfl rfl rfl ?_;refine zE ?_;refine zc ?_;refine zy ?_;refine wX rfl ?_;refine jC ?_;refine zc ?_;refine zy ?_;refine uO ?_
  refine zy ?_;refine zh ?_;refine zd (z7 rfl) rfl rfl rfl ?_;refine zd (zr rfl) rfl rfl rfl ?_;refine zE ?_;refine zc ?_;refine zy ?_;refine zh ?_
  iterate 3 (refine zd (z7 rfl) rfl rfl rfl ?_)
  refine zd (zQ VJ rfl rfl hA za za) rfl rfl rfl ?_;refine zJ (yd wF rfl rfl hat) rfl rfl rfl ?_;refine yh (qW zi rfl rfl ((hcl h2 hle2)) rfl ?_) rfl;rintro _ h4 ⟨rfl, hl4⟩;cases hre : jw u l[i] with
  | true =>
    rw [hre] at hsu;refine zE ?_;refine zc ?_;refine vL rfl ?_;refine jC ?_;refine wn ?_;refine zc ?_;refine zh ?_;refine zd (wO rfl rfl (fK za za)) rfl rfl rfl ?_;refine zd (z7 rfl) rfl rfl rfl ?_;refine zE ?_
    exact ⟨i + 1, de, ⟨by omega, hsu, hle2.trans hl4⟩, by show l.length - (i + 1) < l.length - i; omega⟩
  | false =>
    rw [hre] at hsu;refine zE ?_;refine zc ?_;refine wX rfl ?_;refine zy ?_;refine zh ?_;refine zd (z7 rfl) rfl rfl rfl ?_;refine zd (zr rfl) rfl rfl rfl ?_;refine zE ?_;refine zc ?_;refine wr ?_;refine vf ?_;refine wh ?_;refine fb ?_;refine vf ?_;refine wh ?_;refine yH rfl ?_
    refine ⟨i, rfl, ⟨fun _ => ?_, fun _ => by omega⟩, hle2.trans hl4⟩;rw [<- List.take_append_drop (i + 1) l, di, hsu]
    rfl
 ·refine zy ?_;refine zh ?_;refine zd (df (qj rfl rfl) fN) rfl rfl rfl ?_;refine zE ?_;refine zc ?_;refine zy ?_;refine vL rfl ?_;refine YP ?_;refine ku ?_;refine jH ?_;refine jQ ?_;refine zc ?_;refine zy ?_;refine zh ?_
  refine zd (zr rfl) rfl rfl rfl ?_;refine zE ?_;refine zc ?_;refine wr ?_;refine yH rfl ?_;rw [List.take_of_length_le za] at hright;exact ⟨-1, rfl, ⟨fun h => by omega, fun h => by rw [hright] at h; cases h⟩, hle2⟩
theorem Kr {c : Nat} (hm : l.length <= maxLen) (hr : Rd m A vs) (hv : vs.length = l.length * 14) (hk : ∀ (i : Nat) (hi : i < l.length), un m ((vs.drop (i * 14)).take 14) l[i]) (hs : ∀ (i : Nat) (hi : i < l.length), b6 m ((vs.drop (i * 14)).take 14) l[i]) (u : Int) (h : yB) (b1 b2 : Nat) (hle : Le m (mp h)) (hb1 : mp h b1 = some (.cells [aL u].toArray 111 (0, 0))) (hb2 : mp h b2 = some (.cells (Hi u).toArray 153 (0, 0))) :
  C Tryz.prog 98 [.slice A l.length c, Od b1 b2].toArray h fun v h' => v = .bool (!wH u l) /\ Le (mp h) (mp h') := by
 have hc := LT (c := c) hm hr hv hk hs u h b1 b2 hle hb1 hb2;refine YS [4] Tryz.func98 rfl rfl rfl ?_;refine zy ?_;refine zh ?_;refine zd (zr rfl) rfl rfl rfl ?_;refine zE ?_;refine zc ?_;refine zy ?_;refine zh ?_;refine zd (z7 rfl) rfl rfl rfl ?_;refine zd (z7 rfl) rfl rfl rfl ?_;refine yh (xW E7 rfl (hc) rfl ?_) rfl
 rintro _ h2 ⟨z, rfl, hz, hl2⟩
 have hd : decide (0 <= z) = !wH u l := by
  cases hr : wH u l with
  | true => rw [hr] at hz; simp at hz ⊢; omega
  | false => rw [hr] at hz; simp at hz ⊢; exact hz
 refine zd ((pv (kh rfl rfl) hd)) rfl rfl rfl ?_;refine zd (zr rfl) rfl rfl rfl ?_;refine zE ?_;refine zc ?_;refine wr ?_;refine yH rfl ?_;exact ⟨rfl, hl2⟩
theorem Vf {c : Nat} (hm : l.length <= maxLen) (hr : Rd m A vs) (hv : vs.length = l.length * 14) (hk : ∀ (i : Nat) (hi : i < l.length), un m ((vs.drop (i * 14)).take 14) l[i]) (hs : ∀ (i : Nat) (hi : i < l.length), b6 m ((vs.drop (i * 14)).take 14) l[i]) : HI m (.slice A l.length c) l := by
 intro u h hle;refine YS [4] Tryz.func55 rfl rfl rfl ?_;unfold chk;have kle := qV.mk hle;clear hle;refine zy ?_;refine zh ?_;refine yh (uE rfl rfl (fun b1 h1 hn1 hb1 hl1 => ?_)) rfl;refine zd (zr rfl) rfl rfl rfl ?_;refine zE ?_;refine zc ?_;refine zy ?_;refine zh ?_;refine zJ (yd v8 rfl rfl (At.blk hb1)) rfl rfl rfl ?_
 refine zd (y0 rfl rfl) rfl rfl rfl ?_;refine zJ (yd v8 rfl rfl (At.blk hb1)) rfl rfl rfl ?_;refine zd (y0 rfl rfl) rfl rfl rfl ?_;refine zJ (yd v8 rfl rfl (At.blk hb1)) rfl rfl rfl ?_;refine zd (y0 rfl rfl) rfl rfl rfl ?_;refine zJ (yd v8 rfl rfl (At.blk hb1)) rfl rfl rfl ?_;refine zd (y0 rfl rfl) rfl rfl rfl ?_
 refine zJ (yd v8 rfl rfl (At.blk hb1)) rfl rfl rfl ?_;refine zd (y0 rfl rfl) rfl rfl rfl ?_;refine zJ (yd v8 rfl rfl (At.blk hb1)) rfl rfl rfl ?_;refine zd (y0 rfl rfl) rfl rfl rfl ?_;refine zJ (yd v8 rfl rfl (At.blk hb1)) rfl rfl rfl ?_;refine zd (y0 rfl rfl) rfl rfl rfl ?_
 refine zJ (yd v8 rfl rfl (At.blk hb1)) rfl rfl rfl ?_;refine zd (y0 rfl rfl) rfl rfl rfl ?_;refine zJ (yd v8 rfl rfl (At.blk hb1)) rfl rfl rfl ?_;refine zd (y0 rfl rfl) rfl rfl rfl ?_;refine zd (uR dw R4 rfl rfl) rfl rfl rfl ?_;have kl1 := qV.mk hl1;have kb1 := qV.mk hb1;clear hl1 hb1 hn1
 refine yh (jt R4 rfl (fun b2 h2 hn1 hb1 hl1 => ?_)) rfl;refine yh (we Ds rfl rfl rfl hb1 rfl rfl (fun h3 hb2 hl2 hn2 => ?_)) rfl;refine zE ?_;refine zc ?_;refine zy ?_;refine zh ?_;refine zd (z7 rfl) rfl rfl rfl ?_;refine zd (y0 rfl rfl) rfl rfl rfl ?_;have hl13 := hl1.stored hn1 hl2;have hl03 := kl1.out.trans hl13
 refine yh (xW Ce rfl ((Kr (c := c) hm hr hv hk hs u _ b1 b2 (kle.out.trans hl03) (hl13 _ _ kb1.out) hb2)) rfl ?_) rfl;rintro _ h4 ⟨rfl, hl4⟩;refine zd (kg rfl) rfl rfl rfl ?_;refine zd (zr rfl) rfl rfl rfl ?_;refine zE ?_;refine zc ?_;refine wr ?_;refine yH rfl ?_;exact ⟨by simp, hl03.trans hl4⟩
theorem P9 {cs : Lv} {x : zW} (hx : un m cs x) : b6 m cs x := by
 induction hx with
 | @mk op who n name cond thn els ns cs A B la ca lb cb vs us ho hw hn hnm hc hla hma hra hva hka hlb hmb hrb hvb hkb ih1 ih2 =>
   obtain ⟨_, _, _, _, _, _, rfl⟩ := hn.form;obtain ⟨_, _, _, _, _, _, _, _, _, rfl⟩ := hc.form;subst hla hlb;have hA := Vf (c := ca) hma hra hva hka ih1;have hB := Vf (c := cb) hmb hrb hvb hkb ih2;refine ⟨fun u hu => ?_, fun u hu => ?_⟩
   ·simp at hu
    subst hu;exact hA
   ·simp at hu
    subst hu;exact hB
theorem Jb {len : Nat} (h : xV m A len l) : HI m (.slice A len c) l := by
 obtain ⟨rfl, hm, vs, hr, hv, hk⟩ := h;exact Vf hm hr hv hk fun i hi => P9 (hk i hi)
end
section
open La
def qb (x : zP) : Bool := wH 0 x.played && (wH 0 x.dead && wH 0 x.dawn)
def j5 : List zP -> List Int
 | [] => [0, 0]
 | x :: r => if qb x then j5 r else [140, x.at_]
variable {l : List zP}
theorem ZB {i : Nat} (h : ∀ x ∈ l.take i, qb x = true) : j5 l = j5 (l.drop i) := by
 induction l generalizing i with
 | nil => simp
 | cons x r ih =>
   cases i with
   | zero => rfl
   | succ i =>
     rw [j5, if_pos (h x yA), List.drop_succ_cons];exact ih fun y hy => h y (by simp [hy])
def T2 (l : List Int) : Value := .agg (El [.i64, .i64] l).toArray
theorem LU {m : Mp} {A : Oa} {len c : Nat} (hl : ep m A len l) (h : yB) (hle : Le m (mp h)) : C Tryz.prog 24 [.slice A len c].toArray h fun v h' => v = T2 (j5 l) /\ Le (mp h) (mp h') := by
 obtain ⟨rfl, hm, vs, hr, hv, hk⟩ := hl;simp only [maxLen] at hm;refine Ph [.cell 2 31] Tryz.func24 rfl rfl rfl ?_;have kle := qV.mk hle;clear hle;refine zy ?_;refine zh ?_;refine yh (jt wR rfl (fun b1 h1 hn1 hb1 hl1 => ?_)) rfl;refine zE ?_;refine zc ?_;refine zy ?_;refine zh ?_;refine zd (zA YT ID rfl rfl) rfl rfl rfl ?_
 have kl1 := qV.mk hl1;have kb1 := qV.mk hb1;have kn1 := qV.mk hn1;clear hl1 hb1 hn1;refine yh (jt YT rfl (fun b2 h2 hn1 hb1 hl1 => ?_)) rfl;refine yh (we v8 rfl rfl rfl hb1 rfl rfl (fun h3 hb2 hl2 hn2 => ?_)) rfl;refine zE ?_;refine zc ?_;refine zy ?_;refine zy ?_;refine zh ?_;refine zd (z7 rfl) rfl rfl rfl ?_
 refine zd (UN D8 rfl) rfl rfl rfl ?_;refine zd (z7 rfl) rfl rfl rfl ?_;refine zE ?_;refine zc ?_;refine uO ?_;have hl13 := hl1.stored hn1 hl2;have hl03 := kl1.out.trans hl13;have hb13 := hl13 _ _ kb1.out
 refine YO (fun i : Nat => [(2, JJ b1), (3, JJ b2), (7, .slice A l.length c), (8, .int .i64 l.length), (9, .int .i64 i)]) (fun i h' => i <= l.length /\ (∀ x ∈ l.take i, qb x = true) /\ Le (mp h3) (mp h')) (fun i => l.length - i) 0 vX ⟨Nat.zero_le _, by simp, Le.refl _⟩ ?_;have kl03 := qV.mk hl03;have kb13 := qV.mk hb13;have kb2 := qV.mk hb2
 clear hl1 hn1 hl2 hl13 hl03 hb13 hb2 hb1 hn2;rintro i h2 ⟨hi, hright, hle2⟩;have hbr := hle2 _ _ kb13.out;have hbc := hle2 _ _ kb2.out;have kle2 := qV.mk hle2;have kl02 := qV.mk (kl03.out.trans hle2);by_cases hlt : i < l.length
 ·have hA : A.isSome = true := hr.isSome za;have hat := (hr.elem (i * 12) 12).mono (kle.out.trans kl02.out);obtain ⟨P, lp, cp, D, ld, cd, W, lw, cw, hc, _, hP, hD, hW, _⟩ := hk i hlt;have hcx := hc;rw [hc] at hat
  have hcp : j5 l = if qb l[i] then j5 (l.drop (i + 1)) else [140, l[i].at_] := by
   rw [ZB hright, List.drop_eq_getElem_cons hlt, j5]
  have hyes : qb l[i] = true -> ∀ x ∈ l.take (i + 1), qb x = true := fun hx x hm => by
   rw [List.take_succ_eq_append_getElem hlt] at hm;rcases List.mem_append.1 hm with hm | hm
   ·exact hright x hm
   ·simp at hm; subst hm; exact hx
  have cP := fun h' (hh : Le (mp h) (mp h')) => Jb (c := cp) hP 0 h' (kle.out.trans hh);have cD := fun h' (hh : Le (mp h) (mp h')) => Jb (c := cd) hD 0 h' (kle.out.trans hh);have cW := fun h' (hh : Le (mp h) (mp h')) => Jb (c := cw) hW 0 h' (kle.out.trans hh);generalize l[i] = x at *;clear hle2 hc hat;have hbr2 := qV.mk hbr;have hbc2 := qV.mk hbc;clear hbr hbc
  have hat := (hr.elem (i * 12) 12).mono (kle.out.trans kl02.out);rw [hcx] at hat;refine zy ?_;refine zh ?_;refine zd (dt (qj rfl rfl) vN) rfl rfl rfl ?_;refine zE ?_;refine zc ?_;refine zy ?_;refine wX rfl ?_;refine jC ?_;refine zc ?_;refine zy ?_;refine uO ?_;refine zy ?_;refine zh ?_
  refine zd (zQ WS rfl rfl hA za za) rfl rfl rfl ?_;refine zJ (yd kI rfl rfl hat) rfl rfl rfl ?_;refine yh (jt Vx rfl (fun b3 h4 hn1 hb1 hl1 => ?_)) rfl
  replace hat := hat.mono hl1
  refine yh (we kI rfl rfl rfl hb1 rfl rfl (fun h5 hb2 hl2 hn2 => ?_)) rfl;refine zE ?_;refine zc ?_;refine zy ?_;refine zh ?_;have hl24 := hl1.stored hn1 hl2;have hbr := hl24 _ _ hbr2.out;have hbc := hl24 _ _ hbc2.out;clear hl1 hn1 hl2 hn2 hb1 hat;refine zJ (yd v8 rfl rfl (At.blk hbc)) rfl rfl rfl ?_
  refine zd (zn TP rfl) rfl rfl rfl ?_;refine zJ (yo y8 rfl (zZ hb2 rfl)) rfl rfl rfl ?_;refine yh (xW Of rfl ((cP _ (kl02.out.trans hl24))) rfl ?_) rfl;rintro _ h6 ⟨rfl, hl6⟩
  replace hb2 := hl6 _ _ hb2
  replace hl24 := Le.trans hl24 hl6
  replace hbr := hl6 _ _ hbr
  replace hbc := hl6 _ _ hbc
  clear hl6;cases hr1 : wH 0 x.played with
  | false =>
    refine zd (kg rfl) rfl rfl rfl ?_;refine zd (z7 rfl) rfl rfl rfl ?_
    iterate 5 (refine ab rfl rfl rfl ?_)
    refine zd (wG rfl rfl) rfl rfl rfl ?_;refine zd (z7 rfl) rfl rfl rfl ?_
    iterate 5 (refine ab rfl rfl rfl ?_)
    refine zd (wG rfl rfl) rfl rfl rfl ?_;refine zE ?_;refine zc ?_;refine wX rfl ?_;refine zy ?_;refine zh ?_;refine zd (zn Qt rfl) rfl rfl rfl ?_;refine zJ (yo yl rfl (zZ hb2 rfl)) rfl rfl rfl ?_;refine zd (zA wR kx rfl rfl) rfl rfl rfl ?_
    refine yh (we y5 rfl rfl rfl hbr rfl rfl (fun h7 hb1 hl1 hn1 => ?_)) rfl;refine zE ?_;refine zc ?_;refine wr ?_;refine vf ?_;refine wh ?_;refine fb ?_;refine vf ?_;refine wh ?_;refine aA rfl hb1 y5 ?_;refine ⟨?_, (kl02.out.trans hl24).stored kn1.out hl1⟩;rw [hcp, if_neg (by simp [qb, hr1])]
    rfl
  | true =>
    refine zd (kg rfl) rfl rfl rfl ?_;refine zd (z7 rfl) rfl rfl rfl ?_;refine zJ (yd v8 rfl rfl (At.blk hbc)) rfl rfl rfl ?_;refine zd (zn TO rfl) rfl rfl rfl ?_;refine zJ (yo y8 rfl (zZ hb2 rfl)) rfl rfl rfl ?_;refine yh (xW Of rfl ((cD _ (kl02.out.trans hl24))) rfl ?_) rfl;rintro _ h7 ⟨rfl, hl7⟩
    replace hb2 := hl7 _ _ hb2
    replace hl24 := Le.trans hl24 hl7
    replace hbr := hl7 _ _ hbr
    replace hbc := hl7 _ _ hbc
    clear hl7;cases hr2 : wH 0 x.dead with
    | false =>
      refine zd (kg rfl) rfl rfl rfl ?_;refine zd (jm rfl rfl) rfl rfl rfl ?_;refine zd (z7 rfl) rfl rfl rfl ?_
      iterate 5 (refine ab rfl rfl rfl ?_)
      refine zd (wG rfl rfl) rfl rfl rfl ?_;refine zE ?_;refine zc ?_;refine wX rfl ?_;refine zy ?_;refine zh ?_;refine zd (zn Qt rfl) rfl rfl rfl ?_;refine zJ (yo yl rfl (zZ hb2 rfl)) rfl rfl rfl ?_;refine zd (zA wR kx rfl rfl) rfl rfl rfl ?_
      refine yh (we y5 rfl rfl rfl hbr rfl rfl (fun h8 hb1 hl1 hn1 => ?_)) rfl;refine zE ?_;refine zc ?_;refine wr ?_;refine vf ?_;refine wh ?_;refine fb ?_;refine vf ?_;refine wh ?_;refine aA rfl hb1 y5 ?_;refine ⟨?_, (kl02.out.trans hl24).stored kn1.out hl1⟩;rw [hcp, if_neg (by simp [qb, hr2])]
      rfl
    | true =>
      refine zd (kg rfl) rfl rfl rfl ?_;refine zd (jm rfl rfl) rfl rfl rfl ?_;refine zd (z7 rfl) rfl rfl rfl ?_;refine zJ (yd v8 rfl rfl (At.blk hbc)) rfl rfl rfl ?_;refine zd (zn P3 rfl) rfl rfl rfl ?_;refine zJ (yo y8 rfl (zZ hb2 rfl)) rfl rfl rfl ?_;refine yh (xW Of rfl ((cW _ (kl02.out.trans hl24))) rfl ?_) rfl
      rintro _ h8 ⟨rfl, hl8⟩
      replace hb2 := hl8 _ _ hb2
      replace hl24 := Le.trans hl24 hl8
      replace hbr := hl8 _ _ hbr
      replace hbc := hl8 _ _ hbc
      clear hl8;cases hr3 : wH 0 x.dawn with
      | false =>
        refine zd (kg rfl) rfl rfl rfl ?_;refine zd (jm rfl rfl) rfl rfl rfl ?_;refine zE ?_;refine zc ?_;refine wX rfl ?_;refine zy ?_;refine zh ?_;refine zd (zn Qt rfl) rfl rfl rfl ?_;refine zJ (yo yl rfl (zZ hb2 rfl)) rfl rfl rfl ?_;refine zd (zA wR kx rfl rfl) rfl rfl rfl ?_
        refine yh (we y5 rfl rfl rfl hbr rfl rfl (fun h9 hb1 hl1 hn1 => ?_)) rfl;refine zE ?_;refine zc ?_;refine wr ?_;refine vf ?_;refine wh ?_;refine fb ?_;refine vf ?_;refine wh ?_;refine aA rfl hb1 y5 ?_;refine ⟨?_, (kl02.out.trans hl24).stored kn1.out hl1⟩;rw [hcp, if_neg (by simp [qb, hr3])]
        rfl
      | true =>
        refine zd (kg rfl) rfl rfl rfl ?_;refine zd (jm rfl rfl) rfl rfl rfl ?_;refine zE ?_;refine zc ?_;refine vL rfl ?_;refine jC ?_;refine wn ?_;refine zc ?_;refine zh ?_;refine zd (wO rfl rfl (fK za za)) rfl rfl rfl ?_;refine zd (z7 rfl) rfl rfl rfl ?_;refine zE ?_
        exact ⟨i + 1, vX, ⟨by omega, hyes (by simp [qb, hr1, hr2, hr3]), kle2.out.trans hl24⟩, by show l.length - (i + 1) < l.length - i; omega⟩
 ·refine zy ?_;refine zh ?_;refine zd (df (qj rfl rfl) fN) rfl rfl rfl ?_;refine zE ?_;refine zc ?_;refine zy ?_;refine vL rfl ?_;refine YP ?_;refine ku ?_;refine jH ?_;refine jQ ?_;refine zc ?_;refine zy ?_;refine zh ?_
  refine zd (zA wR kx rfl rfl) rfl rfl rfl ?_;refine yh (we y5 rfl rfl rfl hbr rfl rfl (fun h4 hb1 hl1 hn1 => ?_)) rfl;refine zE ?_;refine zc ?_;refine wr ?_;refine aA rfl hb1 y5 ?_;refine ⟨?_, kl02.out.stored kn1.out hl1⟩;rw [ZB hright, List.drop_of_length_le za]
  rfl
end
namespace Tp
open Go Go.Eng Wd Kd
structure gy where
 kind : Int
 text : Bt
 n : Int
deriving DecidableEq
def ju (w : yf) : gy := ⟨w.kind, w.text, w.n⟩
def Ge (s : Bt) (p : Nat) (K : List gy) (q : Nat) : Prop := ∃ ws : List yf, ws.map ju = K /\ ∀ acc, Xy s p acc = Xy s q (acc ++ ws)
theorem Ge.nil (s : Bt) (p : Nat) : Ge s p [] p := ⟨[], rfl, fun acc => by rw [List.append_nil]⟩
variable {a : List gy} {p q : Nat} {s : Bt}
theorem Ge.trans {r : Nat} {b : List gy} (h : Ge s p a q) (k : Ge s q b r) : Ge s p (a ++ b) r := by
 obtain ⟨u, hu, h⟩ := h;obtain ⟨v, hv, k⟩ := k;exact ⟨u ++ v, by rw [List.map_append, hu, hv], fun acc => by rw [h, k, List.append_assoc]⟩
theorem Ge.step {ws : List yf} (hp : p < s.length) (h : wA s p = .next q ws) : Ge s p (ws.map ju) q := ⟨ws, rfl, fun _ => aQ hp h⟩
def RU (r : Bt) : Prop := r = [] \/ ∃ b t, r = b :: t /\ b.toNat < 128 /\ xN b.toNat = false /\ vT b.toNat = false /\ b.toNat ≠ 39
variable {b : UInt8} {r t : Bt}
theorem RU.app (h : RU (b :: t)) : RU (b :: t ++ r) := by
 rcases h with h | ⟨b', t', h, h1⟩
 ·cases h
 ·cases h;exact .inr ⟨b, t ++ r, rfl, h1⟩
def Lay (f : Bool) (T : Bt) (K : List gy) : Prop := ∀ (s : Bt) (p : Nat) (r : Bt), s.drop p = T ++ r -> (f = true -> RU r) -> Ge s p K (p + T.length)
variable {A : Bt}
theorem j9 (h : s.drop p = A ++ r) : s.drop (p + A.length) = r := by
 rw [<- List.drop_drop, h, List.drop_left]
variable {f : Bool}
theorem Lay.app {g : Bool} {B : Bt} {b : List gy} (h : Lay f A a) (k : Lay g B b) (hf : f = true -> ∃ x t, B = x :: t /\ RU B) : Lay g (A ++ B) (a ++ b) := by
 intro s p r hs hr;rw [List.append_assoc] at hs;have h1 := h s p (B ++ r) hs (fun e => by obtain ⟨x, t, rfl, hF⟩ := hf e; exact hF.app);have h2 := k s (p + A.length) r (j9 hs) hr;rw [List.length_append, <- Nat.add_assoc];exact h1.trans h2
variable {K : List gy} {T : Bt}
theorem Lay.weak (h : Lay false T K) : Lay true T K := fun s p r hs _ => h s p r hs (fun e => by cases e)
theorem Lay.nil : Lay false [] [] := fun s p r _ _ => Ge.nil s p
theorem Lay.congr {T' : Bt} {K' : List gy} (h : Lay f T K) (e : T' = T) (e' : K' = K) : Lay f T' K' := by subst e e'; exact h
theorem W9 (h : s.drop p = b :: r) : p < s.length /\ xI s p = b.toNat := by
 have hl : p < s.length := by
  have := congrArg List.length h;rw [List.length_drop, List.length_cons] at this;omega
 refine ⟨hl, ?_⟩;have h2 : (s.drop p).getD 0 0 = b := by rw [h]; rfl
 unfold xI;rw [List.getD_eq_getElem?_getD, List.getElem?_drop, Nat.add_zero, <- List.getD_eq_getElem?_getD] at h2;rw [h2]
theorem fl (hb : ZF b.toNat = true) : Lay false [b] [] := by
 intro s p r hs _;obtain ⟨hp, hv⟩ := W9 hs
 have h128 : xI s p < 128 := by
  rw [hv];unfold ZF at hb;have := of_decide_eq_true hb;omega
 have h1 : wA s p = .next (p + 1) [] := by
  unfold wA;rw [u6 h128, hv];dsimp only;rw [if_pos hb]
 exact Ge.step hp h1
abbrev xh (m : Bt) : gy := ⟨3, m, 0⟩
theorem uX {m : Bt} (hb : b.toNat < 128 /\ ZF b.toNat = false /\ b.toNat ≠ 35 /\ xN b.toNat = false /\ vT b.toNat = false) (hm : m = b :: t) (h : ∀ r, WB (m ++ r) = some m) : Lay false m [xh m] := by
 intro s p r hs _;have hs2 : s.drop p = b :: (t ++ r) := by rw [hs, hm]; rfl
 obtain ⟨hp, hv⟩ := W9 hs2
 have h1 : wA s p = .next (p + m.length) [⟨3, m, 0, p⟩] := by
  unfold wA;rw [u6 (by rw [hv]; exact hb.1), hv];dsimp only;rw [if_neg (by rw [hb.2.1]; decide), if_neg hb.2.2.1, if_neg (by rw [hb.2.2.2.1]; decide), if_neg (by rw [hb.2.2.2.2]; decide)];unfold eE;rw [hs, h r]
 exact Ge.step hp h1
theorem Ns : Lay false [43] [xh [43]] := uX zb rfl fun _ => rfl
theorem H0 : Lay false [45] [xh [45]] := uX zb rfl fun _ => rfl
theorem Nq : Lay false [42] [xh [42]] := uX zb rfl fun _ => rfl
theorem ga : Lay false [40] [xh [40]] := uX zb rfl fun _ => rfl
theorem jO : Lay false [41] [xh [41]] := uX zb rfl fun _ => rfl
theorem Yn : Lay false [44] [xh [44]] := uX zb rfl fun _ => rfl
theorem Ug : Lay false [47] [xh [47]] := uX zb rfl fun _ => rfl
theorem fp : Lay false [59] [xh [59]] := uX zb rfl fun _ => rfl
theorem Qm : Lay false [123] [xh [123]] := uX zb rfl fun _ => rfl
theorem Ql : Lay false [125] [xh [125]] := uX zb rfl fun _ => rfl
theorem Tr : Lay false [60, 61] [xh [60, 61]] := uX zb rfl fun _ => rfl
theorem Ts : Lay false [61, 61] [xh [61, 61]] := uX zb rfl fun _ => rfl
theorem Tq : Lay false [60, 32] [xh [60]] := by
 intro s p r hs _;obtain ⟨hp, hv⟩ := W9 hs;have hv : xI s p = 60 := hv
 have h1 : wA s p = .next (p + 1) [⟨3, [60], 0, p⟩] := by
  unfold wA;rw [u6 (by rw [hv]; decide), hv];dsimp only;rw [if_neg zb, if_neg zb, if_neg zb, if_neg zb];unfold eE;rw [hs]
  rfl
 have h2 := Ge.step hp h1;have h3 := fl (b := 32) zb s (p + 1) r (j9 (A := [60]) hs) (fun e => by cases e);exact h2.trans h3
variable {w : Bt}
theorem J8 {i x k : Nat} (hi : i < w.length) (h : OX w i x k) : OX (w ++ r) i x k := by
 have e : ∀ j, j < w.length -> xI (w ++ r) j = xI w j := fun j hj => by
  unfold xI;rw [List.getD_eq_getElem?_getD, List.getElem?_append_left hj, <- List.getD_eq_getElem?_getD]
 have hl : (w ++ r).length = w.length + r.length := List.length_append;cases h with
 | one h => rw [<- e i hi] at h ⊢; exact .one h
 | two x h l1 k1 hx h1 => exact .two x (by rw [e _ hi]; exact h) za (by rw [e _ l1]; exact k1) (by rw [e _ hi, e _ l1]; exact hx) h1
 | three x h l1 k1 k2 hx h1 hv => exact .three x (by rw [e _ hi]; exact h) za (by rw [e _ za]; exact k1) (by rw [e _ l1]; exact k2) (by rw [e _ hi, e _ za, e _ l1]; exact hx) h1 hv
 | four x h l1 k1 k2 k3 hx h1 hv => exact .four x (by rw [e _ hi]; exact h) za (by rw [e _ za]; exact k1) (by rw [e _ za]; exact k2) (by rw [e _ l1]; exact k3) (by rw [e _ hi, e _ za, e _ za, e _ l1]; exact hx) h1 hv
theorem Ng (hs : s.drop p = w ++ r) (hr : RU r) : ∀ (d i n m : Nat), w.length - i = d -> i <= w.length -> yZ w i n = (w.length, m) -> yZ s (p + i) n = (p + w.length, m) := by
 intro d
 induction d using Nat.strongRecOn with
 | _ d ih =>
 intro i n m hd hi hn;by_cases hlt : i < w.length
 ·cases hx : rn w i with
  | none =>
    rw [jL hlt hx] at hn;have := congrArg Prod.fst hn;dsimp only at this;omega
  | some c =>
    obtain ⟨x, k⟩ := c;rw [wW hlt hx] at hn;have hk := ue hx
    have hs2 : rn s (p + i) = some (x, k) := by
     rw [<- Zp, hs];exact kw (J8 hlt (bt hx))
    have hps : p + i < s.length := by
     have := congrArg List.length hs;rw [List.length_drop, List.length_append] at this;omega
    rw [wW hps hs2]
    split at hn
    ·have := congrArg Prod.fst hn;dsimp only at this;omega
    ·rename_i hst
     rw [if_neg hst]
     have hle : i + k <= w.length := by
      rcases Nat.lt_or_ge 1 k with h1 | h1
      ·exact (hk.2.2.2.2 h1).2.2
      ·omega
     have := ih (w.length - (i + k)) za (i + k) (n + 1) m rfl hle hn;rw [<- Nat.add_assoc] at this;exact this
 ·have hie : i = w.length := by omega
  subst hie;have e : yZ w w.length n = (w.length, n) := by rw [yZ, if_neg (Nat.lt_irrefl _)]
  rw [e] at hn;cases hn;have hd2 := j9 hs;rcases hr with rfl | ⟨b, t, rfl, h1, h2, h3, h4⟩
  ·have hn2 : ¬ p + w.length < s.length := by
    have := congrArg List.length hd2;rw [List.length_drop] at this
    simp at this
    omega
   rw [yZ, if_neg hn2]
  ·obtain ⟨hp, hv⟩ := W9 hd2;have hrn : rn s (p + w.length) = some (b.toNat, 1) := by rw [u6 (by rw [hv]; exact h1), hv]
   rw [wW hp hrn, if_pos];unfold g8;rw [h2, h3, decide_eq_true h4];cases (n == 0) <;> rfl
structure OG (w : Bt) : Prop where
 go : (yZ w 0 0).1 = w.length
 lo : 1 <= (yZ w 0 0).2
 hi : (yZ w 0 0).2 <= 24
 len : w.length <= 40
theorem qG (h : yL w = true) : OG w := by
 unfold yL at h;simp only [Bool.and_eq_true, decide_eq_true_eq] at h;exact ⟨h.1.2.2.1, h.1.1, h.1.2.1, h.1.2.2.2⟩
abbrev ur (w : Bt) : gy := ⟨1, w, 0⟩
theorem Gh (h : OG w) : ∃ x k, 0 < w.length /\ rn w 0 = some (x, k) /\ xN x = true := by
 have h0 : 0 < w.length := by
  rcases Nat.eq_zero_or_pos w.length with e | e
  ·have e2 : yZ w 0 0 = (0, 0) := by rw [yZ, if_neg za]
   have := h.lo;rw [e2] at this;dsimp only at this;omega
  ·exact e
 cases hx : rn w 0 with
 | none =>
   have e2 := jL (n := 0) h0 hx;have := h.lo;rw [e2] at this;dsimp only at this;omega
 | some c =>
   obtain ⟨x, k⟩ := c;refine ⟨x, k, h0, rfl, ?_⟩;have e2 := wW (n := 0) h0 hx;cases hl : xN x with
   | true => rfl
   | false =>
     rw [if_pos (by unfold g8; rw [hl]; rfl)] at e2;have := h.lo;rw [e2] at this;dsimp only at this;omega
theorem fk (h : OG w) : Lay true w [ur w] := by
 intro s p r hs hr;obtain ⟨x, k, h0, hx, hl⟩ := Gh h
 have hps : p < s.length := by
  have := congrArg List.length hs;rw [List.length_drop, List.length_append] at this;omega
 have hs2 : rn s p = some (x, k) := by
  rw [show p = p + 0 from rfl, <- Zp, hs];exact kw (J8 h0 (bt hx))
 have hgo : yZ s p 0 = (p + w.length, (yZ w 0 0).2) := Ng hs (hr rfl) _ 0 0 _ rfl (Nat.zero_le _) (by rw [<- h.go])
 have hseg : JD s p (p + w.length) = w := by
  unfold JD;rw [hs, Nat.add_sub_cancel_left, List.take_left]
 have hns : ZF x = false /\ x ≠ 35 := by
  unfold xN at hl;have := of_decide_eq_true hl;unfold ZF;exact ⟨decide_eq_false za, by omega⟩
 have h1 : wA s p = .next (p + w.length) [⟨1, w, 0, p⟩] := by
  unfold wA;rw [hs2];dsimp only;rw [if_neg (by rw [hns.1]; decide), if_neg hns.2, if_pos hl];unfold au;rw [hgo];dsimp only;rw [if_neg (by have := h.hi; have := h.len; omega), hseg]
 exact Ge.step hps h1
end Tp
namespace Tp
open Go Go.Eng Wd Kd
def TG (b : UInt8) : Bool := decide (b.toNat < 128) && !xN b.toNat && !vT b.toNat && decide (b.toNat ≠ 39)
variable {t : Bt}
theorem WN {b : UInt8} (h : TG b = true) : RU (b :: t) := by
 unfold TG at h;simp only [Bool.and_eq_true, Bool.not_eq_true', decide_eq_true_eq] at h;exact .inr ⟨b, t, rfl, h.1.1.1, h.1.1.2, h.1.2, h.2⟩
variable {A : Bt} {a b : List gy} {g : Bool}
theorem Lay.tm {x : UInt8} (h : Lay true A a) (k : Lay g (x :: t) b) (hx : TG x = true := by decide) : Lay g (A ++ x :: t) (a ++ b) := h.app k fun _ => ⟨x, t, rfl, WN hx⟩
theorem Lay.fm {B : Bt} (h : Lay false A a) (k : Lay g B b) : Lay g (A ++ B) (a ++ b) := h.app k fun e => by cases e
abbrev VC (n : Int) : gy := ⟨2, [], n⟩
variable {k : Nat}
theorem N4 (h : k <= 9) : (d8 k).toNat = 48 + k := by
 unfold d8;rw [UInt8.toNat_ofNat'];omega
variable {n q : Nat} {r s : Bt}
theorem dY (hs : s.drop q = r) (hr : RU r) : q6 s q n = (q, n) := by
 rw [q6, if_neg];rintro ⟨h1, h2⟩;rcases hr with rfl | ⟨b, t, rfl, -, -, h3, -⟩
 ·have := congrArg List.length hs;rw [List.length_drop] at this
  simp at this
  omega
 ·rw [(W9 hs).2, h3] at h2;cases h2
theorem eV (hs : s.drop q = d8 k :: r) (hk : k <= 9) : q6 s q n = q6 s (q + 1) (min (n * 10 + k) 1000) := by
 obtain ⟨h1, h2⟩ := W9 hs;rw [N4 hk] at h2;rw [q6, if_pos ⟨h1, by rw [h2]; unfold vT; exact decide_eq_true za⟩, h2, Nat.add_sub_cancel_left]
theorem X1 {p : Nat} (hs : s.drop p = d8 k :: r) (hk : k <= 9) (hg : q6 s p 0 = (q, n)) (h0 : k = 0 -> q <= p + 1) (hn : n <= 999) : Ge s p [VC n] q := by
 obtain ⟨h1, h2⟩ := W9 hs;rw [N4 hk] at h2
 have h3 : wA s p = .next q [⟨2, [], n, p⟩] := by
  unfold wA;rw [u6 za, h2];dsimp only;rw [if_neg (by unfold ZF; rw [decide_eq_false za]; decide), if_neg za, if_neg (by unfold xN; rw [decide_eq_false za]; decide), if_pos (by unfold vT; exact decide_eq_true za)];unfold ag;rw [hg, h2];dsimp only;rw [if_neg (fun e => by have := h0 za; omega), if_neg za]
 exact Ge.step h1 h3
theorem Tt (hn : n <= 999) : Lay true (dg n) [VC n] := by
 intro s p r hs hr;have hr := hr rfl;unfold dg at hs ⊢
 split at hs
 ·rename_i h
  rw [if_pos h]
  have h1 : q6 s p 0 = (p + 1, n) := by
   have g1 : s.drop (p + 1) = r := j9 (A := [d8 n]) hs;rw [eV hs za, dY g1 hr]
   congr 1
   omega
  exact X1 hs za h1 (fun _ => Nat.le_refl _) hn
 ·rename_i h
  rw [if_neg h]
  split at hs
  ·rename_i h2
   rw [if_pos h2]
   have h1 : q6 s p 0 = (p + 2, n) := by
    have g1 : s.drop (p + 1) = d8 (n % 10) :: r := j9 (A := [d8 (n / 10)]) hs;have g2 : s.drop (p + 1 + 1) = r := j9 (A := [d8 (n / 10), d8 (n % 10)]) hs;rw [eV hs za, eV g1 za, dY g2 hr]
    congr 1
    omega
   exact X1 hs za h1 (fun _ => by omega) hn
  ·rename_i h2
   rw [if_neg h2]
   have h1 : q6 s p 0 = (p + 3, n) := by
    have g1 : s.drop (p + 1) = d8 (n / 10 % 10) :: d8 (n % 10) :: r := j9 (A := [d8 (n / 100)]) hs;have g2 : s.drop (p + 1 + 1) = d8 (n % 10) :: r := j9 (A := [d8 (n / 100), d8 (n / 10 % 10)]) hs;have g3 : s.drop (p + 1 + 1 + 1) = r := j9 (A := [d8 (n / 100), d8 (n / 10 % 10), d8 (n % 10)]) hs
    rw [eV hs za, eV g1 za, eV g2 za, dY g3 hr]
    congr 1
    omega
   exact X1 hs za h1 (fun _ => by omega) hn
theorem IV {n : Int} (h0 : 0 <= n) (h9 : n <= 999) : Lay true (qO n) [VC n] := by
 obtain ⟨u, rfl⟩ := Int.eq_ofNat_of_zero_le h0;exact Tt (n := u) za
def Zx (w : Bt) : Bool := w.all (fun b => decide (97 <= b.toNat /\ b.toNat <= 122)) && decide (1 <= w.length /\ w.length <= 24)
variable {w : Bt}
theorem To (h : ∀ b ∈ w, 97 <= b.toNat /\ b.toNat <= 122) : ∀ (d i n : Nat), w.length - i = d -> i <= w.length -> yZ w i n = (w.length, n + (w.length - i)) := by
 intro d
 induction d with
 | zero =>
   intro i n hd hi;have : i = w.length := by omega
   subst this;rw [yZ, if_neg (Nat.lt_irrefl _), Nat.sub_self, Nat.add_zero]
 | succ d ih =>
   intro i n hd hi;have hlt : i < w.length := by omega
   have hb : xI w i = w[i].toNat := by
    unfold xI;rw [List.getD_eq_getElem?_getD, List.getElem?_eq_getElem hlt]
    rfl
   have hr := h w[i] (List.getElem_mem hlt);rw [wW hlt (u6 za), if_neg, ih (i + 1) (n + 1) za za]
   ·congr 1
    omega
   ·unfold g8 xN;rw [decide_eq_true za]
    simp
theorem Me (h : Zx w = true) : OG w := by
 unfold Zx at h;simp only [Bool.and_eq_true, List.all_eq_true, decide_eq_true_eq] at h;have hg := To h.1 _ 0 0 rfl (Nat.zero_le _);exact ⟨by rw [hg], by rw [hg]; dsimp only; omega, by rw [hg]; dsimp only; omega, by omega⟩
theorem wk (h : Zx w = true := by decide) : Lay true w [ur w] := fk (Me h)
def X4 (w : Int) : gy := ur (if w = 0 then ar else fL)
def Xk (s : Bt) (w : Int) : List gy := [ur s, xh zL, X4 w, xh zz]
def dl (op n who : Int) : List gy :=
 if op = 0 then [VC n] else if op = 1 then Xk YZ who else if op = 2 then Xk Y0 who else if op = 3 then Xk Y4 who else if op = 4 then Xk aw who
 else if op = 5 then [ur X8, xh zL, ur ar, xh zz] else if op = 6 then [ur We, xh zL, ur Gq, xh zL, ur ar, xh zz, xh zz] else [ur dH, xh zL, ur xX, xh zz]
def brK (br : Bool) (K : List gy) : List gy := if br then xh zL :: (K ++ [xh zz]) else K
def xw : zY -> List gy
 | .mk op n who [] => dl op n who
 | .mk op _ _ [a, b] =>
   if op = 11 then ur Xs :: xh zL :: (xw a ++ xh y9 :: (xw b ++ [xh zz]))
   else if op = 12 then ur Xt :: xh zL :: (xw a ++ xh y9 :: (xw b ++ [xh zz]))
   else if op = 10 then brK (xM a) (xw a) ++ xh wo :: brK (xM b || decide (Jh b = 10)) (xw b)
   else if op = 8 then xw a ++ xh jd :: brK (xM b) (xw b)
   else xw a ++ xh uc :: brK (xM b) (xw b)
 | _ => []
termination_by structural x => x
theorem bC (op n who : Int) : xw (.mk op n who []) = dl op n who := by rw [xw]
theorem Wu (n who : Int) (a b : zY) : xw (.mk 11 n who [a, b]) = ur Xs :: xh zL :: (xw a ++ xh y9 :: (xw b ++ [xh zz])) := by rw [xw]; rfl
theorem Wv (n who : Int) (a b : zY) : xw (.mk 12 n who [a, b]) = ur Xt :: xh zL :: (xw a ++ xh y9 :: (xw b ++ [xh zz])) := by rw [xw]; rfl
theorem Wt (n who : Int) (a b : zY) : xw (.mk 10 n who [a, b]) = brK (xM a) (xw a) ++ xh wo :: brK (xM b || decide (Jh b = 10)) (xw b) := by rw [xw]; rfl
theorem Ww (n who : Int) (a b : zY) : xw (.mk 8 n who [a, b]) = xw a ++ xh jd :: brK (xM b) (xw b) := by rw [xw]; rfl
theorem Ws (n who : Int) (a b : zY) : xw (.mk 9 n who [a, b]) = xw a ++ xh uc :: brK (xM b) (xw b) := by rw [xw]; rfl
theorem J6 {w : Int} (h : xA w = some s) : Lay true s [X4 w] := by
 unfold xA at h;unfold X4
 split at h
 ·rename_i h0
  cases h;rw [if_pos h0];exact wk
 ·rename_i h0
  split at h
  ·cases h;rw [if_neg h0];exact wk
  ·cases h
theorem Nu {w : Int} {c : Bt} (hc : Zx c = true) (h : xA w = some s) : Lay true (c ++ zL ++ s ++ zz) (Xk c w) :=
 ((((wk hc).tm ga).fm (J6 h)).tm jO).weak
theorem Nn {op n who : Int} (h : uB op n who = some s) : Lay true s (dl op n who) := by
 have side : ∀ {c : Bt}, Zx c = true -> ((xA who).map fun s => c ++ zL ++ s ++ zz) = some s -> Lay true s (Xk c who) := by
  intro c hc h;cases hs : xA who with
  | none => rw [hs] at h; cases h
  | some t => rw [hs] at h; cases h; exact Nu hc hs
 unfold uB at h;unfold dl
 split at h
 ·rename_i h0
  rw [if_pos h0]
  split at h
  ·rename_i h1
   cases h;exact IV h1.2.1 h1.2.2
  ·cases h
 rename_i h0
 rw [if_neg h0]
 split at h
 ·cases h
 split at h
 ·rename_i h1; rw [if_pos h1]; exact side zb h
 rename_i h1
 rw [if_neg h1]
 split at h
 ·rename_i h1; rw [if_pos h1]; exact side zb h
 rename_i h2
 rw [if_neg h2]
 split at h
 ·rename_i h1; rw [if_pos h1]; exact side zb h
 rename_i h3
 rw [if_neg h3]
 split at h
 ·rename_i h1; rw [if_pos h1]; exact side zb h
 rename_i h4
 rw [if_neg h4]
 split at h
 ·cases h
 split at h
 ·rename_i h5
  rw [if_pos h5];cases h;exact ((((wk (w := X8)).tm ga).fm (wk (w := ar))).tm jO).weak
 rename_i h5
 rw [if_neg h5]
 split at h
 ·rename_i h6
  rw [if_pos h6];cases h;exact (((((((wk (w := We)).tm ga).fm (wk (w := Gq))).tm ga).fm (wk (w := ar))).tm jO).fm jO).weak
 rename_i h6
 rw [if_neg h6]
 split at h
 ·cases h;exact ((((wk (w := dH)).tm ga).fm (wk (w := xX))).tm jO).weak
 ·cases h
theorem aZ {br : Bool} {d : Nat} {f : Nat -> Option Bt} {K : List gy} (hf : ∀ d s, f d = some s -> Lay true s K) (h : jW br d f = some s) : Lay true s (brK br K) := by
 rcases fE h with ⟨rfl, h1⟩ | ⟨rfl, -, t, h1, rfl⟩
 ·exact hf _ _ h1
 ·exact ((ga.fm (hf _ _ h1)).tm jO).weak
theorem Qj {t : Bt} (hs : Lay true s a) (hw : Lay false (32 :: w ++ [32]) [xh w]) (ht : Lay true t b) : Lay true (xe w s t) (a ++ xh w :: b) := by
 have e : xe w s t = s ++ (32 :: (w ++ [32])) ++ t := by simp [xe]
 exact ((hs.tm (x := 32) (t := w ++ [32]) hw).fm ht).congr e yA
theorem WF (h : Lay false w [xh w]) : Lay false (32 :: w ++ [32]) [xh w] := ((fl (b := 32) zb).fm h).fm (fl (b := 32) zb)
theorem IS {b : List gy} (hw : Zx w = true) (hs : Lay true s a) (ht : Lay true t b) : Lay true (cR w s t) (ur w :: xh zL :: (a ++ xh y9 :: (b ++ [xh zz]))) := by
 exact (((((((wk hw).tm ga).fm hs).tm Yn).fm (fl (b := 32) zb)).fm ht).tm jO).weak.congr rfl yA
theorem bB : ∀ {x : zY} {d : Nat} {s : Bt}, yC x d = some s -> Lay true s (xw x)
 | .mk op n who k, d, s, h => by
   rcases eK h with ⟨hk, h3⟩ | ⟨a, b, hk, -, -, h3⟩
   ·subst hk;rw [bC];exact Nn h3
   ·have ia : ∀ d s, yC a d = some s -> Lay true s (xw a) := fun d s h => bB h;have ib : ∀ d s, yC b d = some s -> Lay true s (xw b) := fun d s h => bB h;subst hk;unfold b7 at h3
    split at h3
    ·rename_i ho
     subst ho;obtain ⟨u, v, h1, h2, rfl⟩ := y2 h3;rw [Wu];exact IS zb (ia _ _ (wD h1).2) (ib _ _ (wD h2).2)
    split at h3
    ·rename_i ho
     subst ho;obtain ⟨u, v, h1, h2, rfl⟩ := y2 h3;rw [Wv];exact IS zb (ia _ _ (wD h1).2) (ib _ _ (wD h2).2)
    split at h3
    ·rename_i ho
     subst ho;obtain ⟨u, v, h1, h2, rfl⟩ := y2 h3;rw [Wt];exact Qj (aZ ia h1) (WF Nq) (aZ ib h2)
    split at h3
    ·rename_i ho
     subst ho;obtain ⟨u, v, h1, h2, rfl⟩ := y2 h3;rw [Ww];exact Qj (ia _ _ h1) (WF Ns) (aZ ib h2)
    split at h3
    ·rename_i ho
     subst ho;obtain ⟨u, v, h1, h2, rfl⟩ := y2 h3;rw [Ws];exact Qj (ia _ _ h1) (WF H0) (aZ ib h2)
    ·cases h3
termination_by x => SizeOf.sizeOf x
decreasing_by
 all_goals
  subst hk
  simp
  omega
end Tp
namespace Tp
open Go Go.Eng Wd Kd
variable {ws : List yf}
theorem zB {k : gy} {K : List gy} (h : ws.map ju = k :: K) : ∃ a ws', ws = ⟨k.kind, k.text, k.n, a⟩ :: ws' /\ ws'.map ju = K := by
 cases ws with
 | nil => cases h
 | cons w r =>
   rw [List.map_cons] at h
   injection h with h1 h2
   subst h1;exact ⟨w.at_, r, rfl, h2⟩
theorem wJ (h : ws.map ju = []) : ws = [] := List.map_eq_nil_iff.1 h
theorem vR {A B : List gy} (h : ws.map ju = A ++ B) : ∃ u v, ws = u ++ v /\ u.map ju = A /\ v.map ju = B := List.map_eq_append_iff.1 h
theorem GS (s t : Bt) (n a : Int) (ts : List yf) : isW s (⟨1, t, n, a⟩ :: ts) = decide (t = s) := by unfold isW hd; rfl
theorem Ek (s t : Bt) (n a : Int) (ts : List yf) : isW s (⟨3, t, n, a⟩ :: ts) = decide (t = s) := by unfold isW hd; rfl
section
variable {α : Type} {one : List yf -> R α} {signs : List (Bt × Int)} {put : Int -> α -> α -> α} {x : α} {ts : List yf}
variable {n : Nat}
theorem gV (hn : 0 < n) (h : signs.find? (fun s => isW s.1 ts) = none) : wM one signs put n x ts = .ok x ts := by
 obtain ⟨k, rfl⟩ : ∃ k, n = k + 1 := ⟨n - 1, by omega⟩;rw [wM, h]
theorem bv {sg : Bt × Int} (h : signs.find? (fun s => isW s.1 ts) = some sg) : wM one signs put (n + 1) x ts = (one ts.tail).bind fun y ts => wM one signs put n (put sg.2 x y) ts := by
 rw [wM, h]
end
variable {ts : List yf}
theorem Ti (h1 : isW jd ts = false) (h2 : isW uc ts = false) : qo.find? (fun s => isW s.1 ts) = none := by
 unfold qo;rw [List.find?_cons, h1, List.find?_cons, h2]
 rfl
theorem Na (h1 : isW wo ts = false) : wj.find? (fun s => isW s.1 ts) = none := by
 unfold wj;rw [List.find?_cons, h1]
 rfl
structure qF (x : zY) (d : Nat) : Prop where
 S : ∀ (ws rest : List yf) (n : Nat), ws.map ju = xw x -> isW wo rest = false -> (ws ++ rest).length <= n -> ∃ n', rest.length < n' /\ xa (n + 1) d (ws ++ rest) = wM (ai (xa n) (n + 1) d) qo vz n' x rest
 T : xM x = false -> ∀ (ws rest : List yf) (N m : Nat), ws.map ju = xw x -> (ws ++ rest).length < N -> (ws ++ rest).length <= m -> ∃ n', rest.length < n' /\ qk (ja (xa m) d) wj vz N (ws ++ rest) = wM (ja (xa m) d) wj vz n' x rest
 O : xM x = false -> Jh x ≠ 10 -> ∀ (ws rest : List yf) (m : Nat), ws.map ju = xw x -> (ws ++ rest).length <= m -> ja (xa m) d (ws ++ rest) = .ok x rest
variable {d n : Nat} {rest ws : List yf} {x : zY}
theorem XD (h : qF x d) (hw : ws.map ju = xw x) (h1 : isW wo rest = false) (h2 : isW jd rest = false) (h3 : isW uc rest = false) (hn : (ws ++ rest).length <= n) : xa (n + 1) d (ws ++ rest) = .ok x rest := by
 obtain ⟨n', hl, e⟩ := h.S ws rest n hw h1 hn;rw [e, gV za (Ti h2 h3)]
variable {m : Nat}
theorem Fj (h : qF x (d + 1)) (hd : d + 1 <= 8) {rest : List yf} (hw : ws.map ju = brK true (xw x)) (hn : (ws ++ rest).length <= m) : ja (xa m) d (ws ++ rest) = .ok x rest := by
 obtain ⟨a, v, rfl, hv⟩ := zB hw;obtain ⟨u, c, rfl, hu, hc⟩ := vR hv;obtain ⟨b, c', rfl, hc'⟩ := zB hc;obtain rfl := wJ hc';simp only [List.cons_append, List.length_cons, List.length_append, List.length_nil] at hn;obtain ⟨k, rfl⟩ : ∃ k, m = k + 1 := ⟨m - 1, by omega⟩;have hs := XD h (rest := ⟨3, zz, 0, b⟩ :: rest) (n := k) hu rfl rfl rfl (by simp; omega)
 have e1 : ja (xa (k + 1)) d (⟨3, zL, 0, a⟩ :: (u ++ (⟨3, zz, 0, b⟩ :: rest))) = (JQ (xa (k + 1)) false d (⟨3, zL, 0, a⟩ :: (u ++ (⟨3, zz, 0, b⟩ :: rest)))).bind fun x ts => .ok x.1 ts := by
  rfl
 have e2 : JQ (xa (k + 1)) false d (⟨3, zL, 0, a⟩ :: (u ++ (⟨3, zz, 0, b⟩ :: rest))) = .ok (x, qs 0 0 0) rest := by
  rw [JQ, if_pos (show isW zL _ = true from rfl)];have e3 : Wl d (⟨3, zL, 0, a⟩ :: (u ++ (⟨3, zz, 0, b⟩ :: rest))) = .ok () (⟨3, zL, 0, a⟩ :: (u ++ (⟨3, zz, 0, b⟩ :: rest))) := by rw [Wl, if_neg za]
  rw [e3, R.bind];have e4 : wi zL (⟨3, zL, 0, a⟩ :: (u ++ (⟨3, zz, 0, b⟩ :: rest))) = .ok () (u ++ (⟨3, zz, 0, b⟩ :: rest)) := by rfl
  rw [e4, R.bind, hs, R.bind, if_neg zb];have e5 : wi zz (⟨3, zz, 0, b⟩ :: rest) = .ok () rest := by rfl
  rw [e5, R.bind]
 show ja (xa (k + 1)) d (⟨3, zL, 0, a⟩ :: ((u ++ [⟨3, zz, 0, b⟩]) ++ rest)) = _;rw [List.append_assoc];show ja (xa (k + 1)) d (⟨3, zL, 0, a⟩ :: (u ++ (⟨3, zz, 0, b⟩ :: rest))) = _;rw [e1, e2, R.bind]
variable {s : Bt}
theorem IW {br : Bool} (h : ∀ d s, yC x d = some s -> qF x d) (hb : jW br d (yC x) = some s) (hbr : br = false -> xM x = false /\ Jh x ≠ 10) (hw : ws.map ju = brK br (xw x)) (hn : (ws ++ rest).length <= m) : ja (xa m) d (ws ++ rest) = .ok x rest := by
 rcases fE hb with ⟨rfl, h1⟩ | ⟨rfl, hd, t, h1, rfl⟩
 ·exact (h _ _ h1).O (hbr rfl).1 (hbr rfl).2 ws rest m hw hn
 ·exact Fj (h _ _ h1) hd hw hn
variable {N : Nat}
theorem Iz {one : List yf -> R zY} (h : one ts = .ok x rest) : qk one wj vz N ts = wM one wj vz N x rest := by
 rw [qk, h, R.bind]
theorem J9 (h : ∀ d s, yC x d = some s -> qF x d) (hb : jW (xM x) d (yC x) = some s) (hw : ws.map ju = brK (xM x) (xw x)) (hN : (ws ++ rest).length < N) (hn : (ws ++ rest).length <= m) :
  ∃ n', rest.length < n' /\ qk (ja (xa m) d) wj vz N (ws ++ rest) = wM (ja (xa m) d) wj vz n' x rest := by
 cases hs : xM x with
 | true =>
   rw [hs] at hb hw;refine ⟨N, by rw [List.length_append] at hN; omega, Iz (IW h hb (fun e => by cases e) hw hn)⟩
 | false =>
   rw [hs] at hb hw;exact (h _ _ hb).T hs ws rest N m hw hN hn
theorem H1 (h : ∀ d s, yC x d = some s -> qF x d) (hb : jW (xM x) d (yC x) = some s) (hw : ws.map ju = brK (xM x) (xw x)) (h1 : isW wo rest = false) (hn : (ws ++ rest).length <= n) : ai (xa n) (n + 1) d (ws ++ rest) = .ok x rest := by
 obtain ⟨n', hl, e⟩ := J9 (N := n + 1) h hb hw za hn;rw [ai, e, gV za (Na h1)]
variable {op : Int}
theorem Nm {n who : Int} (h : uB op n who = some s) (d m : Nat) (rest : List yf) (hw : ws.map ju = dl op n who) : ja (xa m) d (ws ++ rest) = .ok (.mk op n who []) rest := by
 have side : ∀ {c : Bt} {o : Int}, (xA who).map (fun s => c ++ zL ++ s ++ zz) = some s -> who = 0 \/ who = 1 := by
  intro c o h;unfold xA at h
  split at h
  ·exact .inl ‹_›
  ·split at h
   ·exact .inr ‹_›
   ·cases h
 have four : ∀ {k : Bt}, who = 0 \/ who = 1 -> ws.map ju = Xk k who -> ∃ a b c e, ws = [⟨1, k, 0, a⟩, ⟨3, zL, 0, b⟩, ⟨1, if who = 0 then ar else fL, 0, c⟩, ⟨3, zz, 0, e⟩] := by
  intro k _ hw;obtain ⟨a, w1, rfl, g1⟩ := zB hw;obtain ⟨b, w2, rfl, g2⟩ := zB g1;obtain ⟨c, w3, rfl, g3⟩ := zB g2;obtain ⟨e, w4, rfl, g4⟩ := zB g3;obtain rfl := wJ g4;exact ⟨a, b, c, e, rfl⟩
 unfold uB at h;unfold dl at hw
 split at h
 ·rename_i h0
  subst h0;rw [if_pos rfl] at hw
  split at h
  ·rename_i h1
   obtain ⟨rfl, -, -⟩ := h1;obtain ⟨a, w1, rfl, g1⟩ := zB hw;obtain rfl := wJ g1
   rfl
  ·cases h
 rename_i h0
 rw [if_neg h0] at hw
 split at h
 ·cases h
 rename_i hn
 have hn : n = 0 := by omega
 subst hn
 split at h
 ·rename_i h1
  subst h1;rw [if_pos rfl] at hw;have hs := side (o := 1) h;obtain ⟨a, b, c, e, rfl⟩ := four hs hw;rcases hs with rfl | rfl <;> rfl
 rename_i h1
 rw [if_neg h1] at hw
 split at h
 ·rename_i h1
  subst h1;rw [if_pos rfl] at hw;have hs := side (o := 1) h;obtain ⟨a, b, c, e, rfl⟩ := four hs hw;rcases hs with rfl | rfl <;> rfl
 rename_i h2
 rw [if_neg h2] at hw
 split at h
 ·rename_i h1
  subst h1;rw [if_pos rfl] at hw;have hs := side (o := 1) h;obtain ⟨a, b, c, e, rfl⟩ := four hs hw;rcases hs with rfl | rfl <;> rfl
 rename_i h3
 rw [if_neg h3] at hw
 split at h
 ·rename_i h1
  subst h1;rw [if_pos rfl] at hw;have hs := side (o := 1) h;obtain ⟨a, b, c, e, rfl⟩ := four hs hw;rcases hs with rfl | rfl <;> rfl
 rename_i h4
 rw [if_neg h4] at hw
 split at h
 ·cases h
 rename_i hwho
 have hwho : who = 0 := by omega
 subst hwho
 split at h
 ·rename_i h5
  subst h5;rw [if_pos rfl] at hw;obtain ⟨a, w1, rfl, g1⟩ := zB hw;obtain ⟨b, w2, rfl, g2⟩ := zB g1;obtain ⟨c, w3, rfl, g3⟩ := zB g2;obtain ⟨e, w4, rfl, g4⟩ := zB g3;obtain rfl := wJ g4
  rfl
 rename_i h5
 rw [if_neg h5] at hw
 split at h
 ·rename_i h6
  subst h6;rw [if_pos rfl] at hw;obtain ⟨a, w1, rfl, g1⟩ := zB hw;obtain ⟨b, w2, rfl, g2⟩ := zB g1;obtain ⟨c, w3, rfl, g3⟩ := zB g2;obtain ⟨e, w4, rfl, g4⟩ := zB g3;obtain ⟨f, w5, rfl, g5⟩ := zB g4;obtain ⟨g, w6, rfl, g6⟩ := zB g5;obtain ⟨i, w7, rfl, g7⟩ := zB g6;obtain rfl := wJ g7
  rfl
 rename_i h6
 rw [if_neg h6] at hw
 split at h
 ·rename_i h7
  subst h7;obtain ⟨a, w1, rfl, g1⟩ := zB hw;obtain ⟨b, w2, rfl, g2⟩ := zB g1;obtain ⟨c, w3, rfl, g3⟩ := zB g2;obtain ⟨e, w4, rfl, g4⟩ := zB g3;obtain rfl := wJ g4
  rfl
 ·cases h
theorem IM {w : Bt} {a b : zY} (hw0 : (w = Xs /\ op = 11) \/ (w = Xt /\ op = 12)) (ha : qF a (d + 1)) (hb : qF b (d + 1)) (hd : d + 1 <= 8) {rest : List yf} (hw : ws.map ju = ur w :: xh zL :: (xw a ++ xh y9 :: (xw b ++ [xh zz]))) (hn : (ws ++ rest).length <= m) : ja (xa m) d (ws ++ rest) = .ok (vz op a b) rest := by
 obtain ⟨p1, w1, rfl, g1⟩ := zB hw;obtain ⟨p2, w2, rfl, g2⟩ := zB g1;obtain ⟨u, w3, rfl, hu, g3⟩ := vR g2;obtain ⟨p3, w4, rfl, g4⟩ := zB g3;obtain ⟨v, w5, rfl, hv, g5⟩ := vR g4;obtain ⟨p4, w6, rfl, g6⟩ := zB g5;obtain rfl := wJ g6;simp only [List.cons_append, List.length_cons, List.length_append, List.length_nil] at hn
 obtain ⟨k, rfl⟩ : ∃ k, m = k + 1 := ⟨m - 1, by omega⟩;have h1 := XD ha (rest := ⟨3, y9, 0, p3⟩ :: (v ++ (⟨3, zz, 0, p4⟩ :: rest))) (n := k) hu rfl rfl rfl (by simp; omega);have h2 := XD hb (rest := ⟨3, zz, 0, p4⟩ :: rest) (n := k) hv rfl rfl rfl (by simp; omega);generalize hZ : u ++ (⟨3, y9, 0, p3⟩ :: (v ++ (⟨3, zz, 0, p4⟩ :: rest))) = Z at h1
 have hfull : (⟨1, w, 0, p1⟩ :: ⟨3, zL, 0, p2⟩ :: (u ++ (⟨3, y9, 0, p3⟩ :: (v ++ [⟨3, zz, 0, p4⟩])))) ++ rest = ⟨1, w, 0, p1⟩ :: ⟨3, zL, 0, p2⟩ :: Z := by rw [<- hZ]; simp
 have e2 : JQ (xa (k + 1)) true d (⟨3, zL, 0, p2⟩ :: Z) = .ok (a, b) rest := by
  rw [JQ, if_pos (show isW zL _ = true from rfl)];have e3 : Wl d (⟨3, zL, 0, p2⟩ :: Z) = .ok () (⟨3, zL, 0, p2⟩ :: Z) := by rw [Wl, if_neg za]
  have e4 : wi zL (⟨3, zL, 0, p2⟩ :: Z) = .ok () Z := by rfl
  have e5 : ∀ ts, wi y9 (⟨3, y9, 0, p3⟩ :: ts) = .ok () ts := fun ts => by rfl
  have e6 : wi zz (⟨3, zz, 0, p4⟩ :: rest) = .ok () rest := by rfl
  rw [e3, R.bind, e4, R.bind, h1, R.bind, if_pos rfl, e5, R.bind, h2, R.bind, e6, R.bind]
 show ja (xa (k + 1)) d ((⟨1, w, 0, p1⟩ :: ⟨3, zL, 0, p2⟩ :: (u ++ (⟨3, y9, 0, p3⟩ :: (v ++ [⟨3, zz, 0, p4⟩])))) ++ rest) = _;rw [hfull];rcases hw0 with ⟨rfl, rfl⟩ | ⟨rfl, rfl⟩
 ·have e1 : ja (xa (k + 1)) d (⟨1, Xs, 0, p1⟩ :: ⟨3, zL, 0, p2⟩ :: Z) = (JQ (xa (k + 1)) true d (⟨3, zL, 0, p2⟩ :: Z)).bind fun x ts => .ok (vz 11 x.1 x.2) ts := rfl;rw [e1, e2, R.bind]
 ·have e1 : ja (xa (k + 1)) d (⟨1, Xt, 0, p1⟩ :: ⟨3, zL, 0, p2⟩ :: Z) = (JQ (xa (k + 1)) true d (⟨3, zL, 0, p2⟩ :: Z)).bind fun x ts => .ok (vz 12 x.1 x.2) ts := rfl;rw [e1, e2, R.bind]
end Tp
namespace Tp
open Go Go.Eng Wd Kd
variable {d : Nat} {x : zY}
theorem OP (hO : ∀ (ws rest : List yf) (m : Nat), ws.map ju = xw x -> (ws ++ rest).length <= m -> ja (xa m) d (ws ++ rest) = .ok x rest) (ws rest : List yf) (N m : Nat) (hw : ws.map ju = xw x) (hN : (ws ++ rest).length < N) (hm : (ws ++ rest).length <= m) :
  ∃ n', rest.length < n' /\ qk (ja (xa m) d) wj vz N (ws ++ rest) = wM (ja (xa m) d) wj vz n' x rest :=
 ⟨N, by rw [List.length_append] at hN; omega, Iz (hO ws rest m hw hm)⟩
theorem OW (hT : ∀ (ws rest : List yf) (N m : Nat), ws.map ju = xw x -> (ws ++ rest).length < N -> (ws ++ rest).length <= m -> ∃ n', rest.length < n' /\ qk (ja (xa m) d) wj vz N (ws ++ rest) = wM (ja (xa m) d) wj vz n' x rest) (ws rest : List yf) (n : Nat) (hw : ws.map ju = xw x) (h1 : isW wo rest = false) (hn : (ws ++ rest).length <= n) : ∃ n', rest.length < n' /\ xa (n + 1) d (ws ++ rest) = wM (ai (xa n) (n + 1) d) qo vz n' x rest := by
 obtain ⟨k, hk, e⟩ := hT ws rest (n + 1) n hw za hn;refine ⟨n + 1, by rw [List.length_append] at hn; omega, ?_⟩;have e2 : ai (xa n) (n + 1) d (ws ++ rest) = .ok x rest := by rw [ai, e, gV za (Na h1)]
 rw [xa, qk, e2, R.bind]
theorem Qa (hO : ∀ (ws rest : List yf) (m : Nat), ws.map ju = xw x -> (ws ++ rest).length <= m -> ja (xa m) d (ws ++ rest) = .ok x rest) : qF x d :=
 ⟨OW (OP hO), fun _ => OP hO, fun _ _ => hO⟩
variable {a b : zY} {v : Bt}
theorem PI {u : Bt} (ha : ∀ d s, yC a d = some s -> qF a d) (hb : ∀ d s, yC b d = some s -> qF b d) (h1 : jW (xM a) d (yC a) = some u) (h2 : jW (xM b || decide (Jh b = 10)) d (yC b) = some v) : qF (vz 10 a b) d := by
 have hT : ∀ (ws rest : List yf) (N m : Nat), ws.map ju = xw (vz 10 a b) -> (ws ++ rest).length < N -> (ws ++ rest).length <= m -> ∃ n', rest.length < n' /\ qk (ja (xa m) d) wj vz N (ws ++ rest) = wM (ja (xa m) d) wj vz n' (vz 10 a b) rest := by
  intro ws rest N m hw hN hm;rw [show vz 10 a b = .mk 10 0 0 [a, b] from rfl, Wt] at hw;obtain ⟨x, w1, rfl, hx, g1⟩ := vR hw;obtain ⟨p, y, rfl, hy⟩ := zB g1;rw [List.append_assoc, List.cons_append] at hN hm ⊢;obtain ⟨n1, hl, e⟩ := J9 (rest := ⟨3, wo, 0, p⟩ :: (y ++ rest)) ha h1 hx hN hm;obtain ⟨k, rfl⟩ : ∃ k, n1 = k + 1 := ⟨n1 - 1, by omega⟩
  simp only [List.length_cons, List.length_append] at hl hm
  have e2 := IW (rest := rest) (m := m) hb h2 (fun e => by
   rw [Bool.or_eq_false_iff] at e
   exact ⟨e.1, of_decide_eq_false e.2⟩) hy (by rw [List.length_append]; omega)
  refine ⟨k, by omega, ?_⟩;show qk (ja (xa m) d) wj vz N (x ++ (⟨3, wo, 0, p⟩ :: (y ++ rest))) = _;rw [e, bv (sg := (wo, 10)) rfl];show (ja (xa m) d (y ++ rest)).bind _ = _;rw [e2, R.bind]
 exact ⟨OW hT, fun _ => hT, fun _ h => absurd rfl h⟩
theorem IG {w : Bt} {o : Int} (hw0 : (w = jd /\ o = 8) \/ (w = uc /\ o = 9)) (ha : qF a d) (hb : ∀ d s, yC b d = some s -> qF b d) (h2 : jW (xM b) d (yC b) = some v) : qF (vz o a b) d := by
 have hs : xM (vz o a b) = true := by rcases hw0 with ⟨-, rfl⟩ | ⟨-, rfl⟩ <;> rfl
 refine ⟨fun ws rest n hw hst hn => ?_, fun h => (by rw [hs] at h; cases h), fun h => (by rw [hs] at h; cases h)⟩
 have hK : xw (vz o a b) = xw a ++ xh w :: brK (xM b) (xw b) := by
  rcases hw0 with ⟨rfl, rfl⟩ | ⟨rfl, rfl⟩
  ·exact Ww 0 0 a b
  ·exact Ws 0 0 a b
 rw [hK] at hw;obtain ⟨x, w1, rfl, hx, g1⟩ := vR hw;obtain ⟨p, y, rfl, hy⟩ := zB g1;rw [List.append_assoc, List.cons_append] at hn ⊢;have hst2 : isW wo ((⟨3, w, 0, p⟩ : yf) :: (y ++ rest)) = false := by rcases hw0 with ⟨rfl, -⟩ | ⟨rfl, -⟩ <;> rfl
 obtain ⟨n1, hl, e⟩ := ha.S x (⟨3, w, 0, p⟩ :: (y ++ rest)) n hx hst2 hn;obtain ⟨k, rfl⟩ : ∃ k, n1 = k + 1 := ⟨n1 - 1, by omega⟩;simp only [List.length_cons, List.length_append] at hl hn;have e2 := H1 (rest := rest) (n := n) hb h2 hy hst (by rw [List.length_append]; omega)
 have hf : qo.find? (fun s => isW s.1 ((⟨3, w, 0, p⟩ : yf) :: (y ++ rest))) = some (w, o) := by rcases hw0 with ⟨rfl, rfl⟩ | ⟨rfl, rfl⟩ <;> rfl
 refine ⟨k, by omega, ?_⟩;show xa (n + 1) d (x ++ (⟨3, w, 0, p⟩ :: (y ++ rest))) = _;rw [e, bv hf];show (ai (xa n) (n + 1) d (y ++ rest)).bind _ = _;rw [e2, R.bind]
theorem Qf : ∀ (x : zY) (d : Nat) (s : Bt), yC x d = some s -> qF x d
 | .mk op n who k, d, s, h => by
   rcases eK h with ⟨hk, h3⟩ | ⟨a, b, hk, hn0, hw0, h3⟩
   ·subst hk;exact Qa fun ws rest m hw _ => Nm h3 d m rest (by rw [<- bC]; exact hw)
   ·have ia : ∀ d s, yC a d = some s -> qF a d := fun d s h => Qf a d s h;have ib : ∀ d s, yC b d = some s -> qF b d := fun d s h => Qf b d s h;subst hk hn0 hw0;unfold b7 at h3
    split at h3
    ·rename_i ho
     subst ho;obtain ⟨u, v, h1, h2, rfl⟩ := y2 h3;exact Qa fun ws rest m hw hm => IM (.inl ⟨rfl, rfl⟩) (ia _ _ (wD h1).2) (ib _ _ (wD h2).2) (wD h1).1 (by rw [<- Wu 0 0 a b]; exact hw) hm
    split at h3
    ·rename_i ho
     subst ho;obtain ⟨u, v, h1, h2, rfl⟩ := y2 h3;exact Qa fun ws rest m hw hm => IM (.inr ⟨rfl, rfl⟩) (ia _ _ (wD h1).2) (ib _ _ (wD h2).2) (wD h1).1 (by rw [<- Wv 0 0 a b]; exact hw) hm
    split at h3
    ·rename_i ho
     subst ho;obtain ⟨u, v, h1, h2, rfl⟩ := y2 h3;exact PI ia ib h1 h2
    split at h3
    ·rename_i ho
     subst ho;obtain ⟨u, v, h1, h2, rfl⟩ := y2 h3;exact IG (.inl ⟨rfl, rfl⟩) (ia _ _ h1) ib h2
    split at h3
    ·rename_i ho
     subst ho;obtain ⟨u, v, h1, h2, rfl⟩ := y2 h3;exact IG (.inr ⟨rfl, rfl⟩) (ia _ _ h1) ib h2
    ·cases h3
termination_by x => SizeOf.sizeOf x
decreasing_by
 all_goals
  subst hk
  simp
  omega
theorem Zt {s : Bt} (h : yC x d = some s) {ws rest : List yf} {n : Nat} (hw : ws.map ju = xw x) (h1 : isW wo rest = false) (h2 : isW jd rest = false) (h3 : isW uc rest = false) (hn : (ws ++ rest).length <= n) : xa (n + 1) d (ws ++ rest) = .ok x rest :=
 XD (Qf x d s h) hw h1 h2 h3 hn
end Tp
namespace Tp
open Go Go.Eng Wd Kd
def W0 (op : Int) : Bt := if op = 0 then X9 else if op = 1 then Wa else Wb
def xT : zI -> List gy
 | .mk op _ _ [a, b] [] => xw a ++ xh (W0 op) :: xw b
 | .mk _ who name [] [] => [ur q9, xh zL, X4 who, xh y9, ur name, xh zz]
 | .mk _ _ _ [] [k] => ur el :: brK (decide (qd k = 4) || decide (qd k = 5)) (xT k)
 | .mk op _ _ [] [a, b] =>
   if op = 5 then xT a ++ ur JF :: brK (decide (qd b = 5)) (xT b)
   else brK (decide (qd a = 5)) (xT a) ++ ur gJ :: brK (decide (qd b = 5) || decide (qd b = 4)) (xT b)
 | _ => []
termination_by structural x => x
theorem YF (op who : Int) (name : Bt) (a b : zY) : xT (.mk op who name [a, b] []) = xw a ++ xh (W0 op) :: xw b := by rw [xT]
theorem aU (op who : Int) (name : Bt) : xT (.mk op who name [] []) = [ur q9, xh zL, X4 who, xh y9, ur name, xh zz] := by rw [xT]
theorem YE (op who : Int) (name : Bt) (k : zI) : xT (.mk op who name [] [k]) = ur el :: brK (decide (qd k = 4) || decide (qd k = 5)) (xT k) := by rw [xT]
theorem WZ (who : Int) (name : Bt) (a b : zI) : xT (.mk 5 who name [] [a, b]) = xT a ++ ur JF :: brK (decide (qd b = 5)) (xT b) := by rw [xT]; rfl
theorem YG (who : Int) (name : Bt) (a b : zI) : xT (.mk 4 who name [] [a, b]) = brK (decide (qd a = 5)) (xT a) ++ ur gJ :: brK (decide (qd b = 5) || decide (qd b = 4)) (xT b) := by rw [xT]; rfl
variable {a b : List gy} {k : gy} {w : Bt}
theorem WD {s t : Bt} (hs : Lay true s a) (hw : Lay false (32 :: w ++ [32]) [k]) (ht : Lay true t b) : Lay true (xe w s t) (a ++ k :: b) := by
 have e : xe w s t = s ++ (32 :: (w ++ [32])) ++ t := by simp [xe]
 exact ((hs.tm (x := 32) (t := w ++ [32]) hw).fm ht).congr e yA
theorem IT (h : Zx w = true) : Lay false (32 :: w ++ [32]) [ur w] := ((fl (b := 32) zb).fm (wk h)).tm (fl (b := 32) zb)
theorem PS {op : Int} (hw : (op = 0 /\ w = X9) \/ (op = 1 /\ w = Wa) \/ (op = 2 /\ w = Wb)) : Lay false (32 :: w ++ [32]) [xh (W0 op)] := by
 rcases hw with ⟨rfl, rfl⟩ | ⟨rfl, rfl⟩ | ⟨rfl, rfl⟩
 ·exact ((fl (b := 32) zb).fm Tq).congr rfl rfl
 ·exact (WF Tr).congr rfl rfl
 ·exact (WF Ts).congr rfl rfl
theorem Ku : ∀ {x : zI} {d : Nat} {s : Bt}, yx x d = some s -> Lay true s (xT x)
 | .mk op who name ns ks, d, s, h => by
   have hk : ∀ k ∈ ks, ∀ d s, yx k d = some s -> Lay true s (xT k) := fun k _ d s h => Ku h;have hc := kF h;clear h;generalize hx : zI.mk op who name ns ks = x at hc;cases hc with
   | cmp hw ha hb =>
     cases hx;rw [YF];exact WD (bB ha) (PS hw) (bB hb)
   | holds hn hs =>
     cases hx;rw [aU];exact (((((((wk (w := q9)).tm ga).fm (J6 hs)).tm Yn).fm (fl (b := 32) zb)).fm (fk (qG hn))).tm jO).weak
   | not hd h1 =>
     cases hx;rw [YE];exact ((wk (w := el)).tm (fl (b := 32) zb)).fm (aZ (hk _ (.head _)) h1)
   | or ha hb =>
     cases hx;rw [WZ];exact WD (hk _ (.head _) _ _ ha) (IT zb) (aZ (hk _ (.tail _ (.head _))) hb)
   | and ha hb =>
     cases hx;rw [YG];exact WD (aZ (hk _ (.head _)) ha) (IT zb) (aZ (hk _ (.tail _ (.head _))) hb)
termination_by x => SizeOf.sizeOf x
decreasing_by
 have := List.sizeOf_lt_of_mem ‹k ∈ ks›
 simp
 omega
def jU (K : List gy) : Prop := ∀ (d : Int) (ws rest : List yf), 1 <= d -> ws.map ju = K -> uk d (ws ++ rest) = uk d rest
theorem jU.nil : jU [] := fun d ws rest _ hw => by obtain rfl := wJ hw; rfl
theorem jU.app (h : jU a) (k : jU b) : jU (a ++ b) := fun d ws rest hd hw => by
 obtain ⟨u, v, rfl, hu, hv⟩ := vR hw;rw [List.append_assoc, h d u _ hd hu, k d v _ hd hv]
variable {d n : Int} {t : Bt} {ts : List yf}
theorem GH {a : Int} {k : Int} (hk : k ≠ 3) : uk d (⟨k, t, n, a⟩ :: ts) = uk d ts := by
 rw [uk, if_pos hk]
theorem jx {a : Int} : uk d (⟨3, t, n, a⟩ :: ts) = if 0 < (if t = zL then d + 1 else if t = zz then d - 1 else d) then uk (if t = zL then d + 1 else if t = zz then d - 1 else d) ts else if (hd ts).kind ≠ 3 then true else !decide ((hd ts).text ∈ [X9, Wa, Wb, jd, uc, wo]) := by
 rw [uk, if_neg (fun h => h rfl)]
theorem gD : (1 : Int) ≠ 3 := by decide
theorem Ej : (2 : Int) ≠ 3 := by decide
theorem jU.word (k : gy) (hk : k.kind ≠ 3) : jU [k] := fun d ws rest _ hw => by
 obtain ⟨a, w1, rfl, g1⟩ := zB hw;obtain rfl := wJ g1;exact GH hk
theorem jU.mark {m : Bt} (h1 : m ≠ zL) (h2 : m ≠ zz) : jU [xh m] := fun d ws rest hd hw => by
 obtain ⟨a, w1, rfl, g1⟩ := zB hw;obtain rfl := wJ g1;show uk d (⟨3, m, 0, a⟩ :: rest) = _;rw [jx, if_neg h1, if_neg h2, if_pos za]
variable {K : List gy}
theorem jU.cons (h : jU [k]) (h' : jU K) : jU (k :: K) := h.app h'
theorem jU.br (h : jU K) : jU (xh zL :: (K ++ [xh zz])) := fun d ws rest hd hw => by
 obtain ⟨a, w1, rfl, g1⟩ := zB hw;obtain ⟨u, v, rfl, hu, g2⟩ := vR g1;obtain ⟨b, w2, rfl, g3⟩ := zB g2;obtain rfl := wJ g3;show uk d (⟨3, zL, 0, a⟩ :: ((u ++ [⟨3, zz, 0, b⟩]) ++ rest)) = _;rw [jx, if_pos rfl, if_pos za, List.append_assoc, h (d + 1) u _ za hu];show uk (d + 1) (⟨3, zz, 0, b⟩ :: rest) = _
 rw [jx, if_neg (show ¬ zz = zL by decide), if_pos (show zz = zz from rfl), show d + 1 - 1 = d by omega, if_pos za]
theorem jU.brK {br : Bool} (h : jU K) : jU (brK br K) := by
 cases br with
 | true => exact h.br
 | false => exact h
theorem jU.call (s : Bt) (w : Int) : jU (Xk s w) := (jU.word (ur s) gD).cons ((jU.word (X4 w) gD).br)
theorem No (op n who : Int) : jU (dl op n who) := by
 unfold dl
 split
 ·exact jU.word _ Ej
 split
 ·exact jU.call _ _
 split
 ·exact jU.call _ _
 split
 ·exact jU.call _ _
 split
 ·exact jU.call _ _
 split
 ·exact (jU.word (ur X8) gD).cons ((jU.word (ur ar) gD).br)
 split
 ·exact (jU.word (ur We) gD).cons ((((jU.word (ur Gq) gD).cons ((jU.word (ur ar) gD).br))).br)
 ·exact (jU.word (ur dH) gD).cons ((jU.word (ur xX) gD).br)
theorem XE : ∀ (x : zY), jU (xw x)
 | .mk op n who k => by
   have ih : ∀ a ∈ k, jU (xw a) := fun a _ => XE a
   match k, ih with
   | [], _ => rw [bC]; exact No op n who
   | [a, b], ih =>
     have ha := ih a (.head _);have hb := ih b (.tail _ (.head _))
     have hm : ∀ w, jU (ur w :: xh zL :: (xw a ++ xh y9 :: (xw b ++ [xh zz]))) := fun w => by
      have h1 := (ha.app ((jU.mark (m := y9) zb zb).cons hb)).br;rw [List.append_assoc, List.cons_append] at h1;exact (jU.word (ur w) gD).cons h1
     rw [xw]
     split
     ·exact hm _
     split
     ·exact hm _
     split
     ·exact ha.brK.app ((jU.mark zb zb).cons hb.brK)
     split
     ·exact ha.app ((jU.mark zb zb).cons hb.brK)
     ·exact ha.app ((jU.mark zb zb).cons hb.brK)
   | [a], _ => rw [xw]; exact jU.nil; all_goals (intros; simp_all)
   | a :: b :: c :: r, _ => rw [xw]; exact jU.nil; all_goals (intros; simp_all)
termination_by x => SizeOf.sizeOf x
decreasing_by
 have := List.sizeOf_lt_of_mem ‹a ∈ k›
 simp
 omega
theorem Kv : ∀ {x : zI} {d : Nat} {s : Bt}, yx x d = some s -> jU (xT x)
 | .mk op who name ns ks, d, s, h => by
   have hk : ∀ k ∈ ks, ∀ d s, yx k d = some s -> jU (xT k) := fun k _ d s h => Kv h
   have hb : ∀ {br : Bool} {k : zI} {d : Nat} {s : Bt}, k ∈ ks -> jW br d (yx k) = some s -> jU (brK br (xT k)) := fun {br k d s} hm h => by
    rcases fE h with ⟨rfl, h1⟩ | ⟨rfl, -, t, h1, rfl⟩
    ·exact hk _ hm _ _ h1
    ·exact (hk _ hm _ _ h1).br
   have hc := kF h;clear h;generalize hx : zI.mk op who name ns ks = x at hc;cases hc with
   | @cmp o w a b d u v hw _ _ =>
     cases hx;rw [YF];refine (XE a).app ((jU.mark ?_ ?_).cons (XE b))
     ·rcases hw with ⟨rfl, -⟩ | ⟨rfl, -⟩ | ⟨rfl, -⟩ <;> decide
     ·rcases hw with ⟨rfl, -⟩ | ⟨rfl, -⟩ | ⟨rfl, -⟩ <;> decide
   | holds hn hs =>
     cases hx;rw [aU];exact (jU.word (ur q9) gD).cons (((jU.word (X4 who) gD).cons ((jU.mark (m := y9) zb zb).cons (jU.word (ur name) gD))).br)
   | not hd h1 =>
     cases hx;rw [YE];exact (jU.word (ur el) gD).cons (hb (.head _) h1)
   | or ha hb2 =>
     cases hx;rw [WZ];exact (hk _ (.head _) _ _ ha).app ((jU.word (ur JF) gD).cons (hb (.tail _ (.head _)) hb2))
   | and ha hb2 =>
     cases hx;rw [YG];exact (hb (.head _) ha).app ((jU.word (ur gJ) gD).cons (hb (.tail _ (.head _)) hb2))
termination_by x => SizeOf.sizeOf x
decreasing_by
 have := List.sizeOf_lt_of_mem ‹k ∈ ks›
 simp
 omega
end Tp
namespace Tp
open Go Go.Eng Wd Kd
def gw (ts : List yf) : Prop := ∀ s ∈ [X9, Wa, Wb, jd, uc, wo], isW s ts = false
variable {a : Int} {t : Bt} {ts : List yf}
theorem gw.mark {n : Int} (h : t ∉ [X9, Wa, Wb, jd, uc, wo]) : gw (⟨3, t, n, a⟩ :: ts) := fun s hs => by
 rw [Ek];exact decide_eq_false (fun e => h (e ▸ hs))
theorem gw.word {n : Int} (h : t ∉ [X9, Wa, Wb, jd, uc, wo]) : gw (⟨1, t, n, a⟩ :: ts) := fun s hs => by
 rw [GS];exact decide_eq_false (fun e => h (e ▸ hs))
variable {K : List gy} {b : Int} {rest u : List yf}
theorem M2 (hK : jU K) (hu : u.map ju = K) (hf : gw rest) : uk 0 (⟨3, zL, 0, a⟩ :: (u ++ (⟨3, zz, 0, b⟩ :: rest))) = true := by
 rw [jx, if_pos (show zL = zL from rfl), if_pos za, hK (0 + 1) u _ za hu, jx, if_neg (show ¬ zz = zL by decide), if_pos (show zz = zz from rfl), if_neg za];by_cases h3 : (hd rest).kind ≠ 3
 ·rw [if_pos h3]
 ·rw [if_neg h3];have h3 : (hd rest).kind = 3 := by omega
  rw [decide_eq_false]
  ·rfl
  ·intro hm;have := hf _ hm;unfold isW at this;rw [h3, decide_eq_true (show (hd rest).text = (hd rest).text from rfl)] at this;exact absurd this zb
theorem HT {K1 : List gy} {r : List yf} {c : Int} (hK : jU K1) (hu : u.map ju = K1) : uk 0 (⟨3, zL, 0, a⟩ :: (u ++ (⟨3, zz, 0, b⟩ :: ⟨3, wo, 0, c⟩ :: r))) = false := by
 rw [jx, if_pos (show zL = zL from rfl), if_pos za, hK (0 + 1) u _ za hu, jx, if_neg (show ¬ zz = zL by decide), if_pos (show zz = zz from rfl), if_neg za]
 rfl
inductive bf : List gy -> Prop
 | num (n : Int) (K : List gy) : bf (VC n :: K)
 | word (t : Bt) (K : List gy) (h : t ≠ el /\ t ≠ q9 /\ t ≠ zL) : bf (ur t :: K)
 | br (K1 K2 : List gy) (h : jU K1) : bf (xh zL :: (K1 ++ xh zz :: xh wo :: K2))
theorem bf.app (h : bf K) (X : List gy) : bf (K ++ X) := by
 cases h with
 | num n K => exact .num n _
 | word t K h => exact .word t _ h
 | br K1 K2 h =>
   have : xh zL :: (K1 ++ xh zz :: xh wo :: K2) ++ X = xh zL :: (K1 ++ xh zz :: xh wo :: (K2 ++ X)) := by simp
   rw [this];exact .br K1 _ h
theorem HY (op n who : Int) : bf (dl op n who) := by
 unfold dl
 split
 ·exact .num _ _
 split
 ·exact .word _ _ zb
 split
 ·exact .word _ _ zb
 split
 ·exact .word _ _ zb
 split
 ·exact .word _ _ zb
 split
 ·exact .word _ _ zb
 split
 ·exact .word _ _ zb
 ·exact .word _ _ zb
theorem JW : ∀ {x : zY} {d : Nat} {s : Bt}, yC x d = some s -> bf (xw x)
 | .mk op n who k, d, s, h => by
   rcases eK h with ⟨hk, h3⟩ | ⟨a, b, hk, hn0, hw0, h3⟩
   ·subst hk;rw [bC];exact HY _ _ _
   ·have ia : ∀ d s, yC a d = some s -> bf (xw a) := fun d s h => JW h;subst hk hn0 hw0;unfold b7 at h3
    split at h3
    ·rename_i ho
     subst ho;rw [Wu];exact .word _ _ zb
    split at h3
    ·rename_i ho
     subst ho;rw [Wv];exact .word _ _ zb
    split at h3
    ·rename_i ho
     subst ho;obtain ⟨u, v, h1, h2, rfl⟩ := y2 h3;rw [Wt];cases hs : xM a with
     | true =>
       have e : brK true (xw a) ++ xh wo :: brK (xM b || decide (Jh b = 10)) (xw b) = xh zL :: (xw a ++ xh zz :: xh wo :: brK (xM b || decide (Jh b = 10)) (xw b)) := by simp [brK]
       rw [e];exact .br _ _ (XE a)
     | false =>
       rw [hs] at h1;exact (ia _ _ h1).app _
    split at h3
    ·rename_i ho
     subst ho;obtain ⟨u, v, h1, h2, rfl⟩ := y2 h3;rw [Ww];exact (ia _ _ h1).app _
    split at h3
    ·rename_i ho
     subst ho;obtain ⟨u, v, h1, h2, rfl⟩ := y2 h3;rw [Ws];exact (ia _ _ h1).app _
    ·cases h3
termination_by x => SizeOf.sizeOf x
decreasing_by
 subst hk
 simp
 omega
variable {ws : List yf}
theorem bf.test (h : bf K) (hw : ws.map ju = K) (r : List yf) : isW el (ws ++ r) = false /\ isW q9 (ws ++ r) = false /\ (isW zL (ws ++ r) && uk 0 (ws ++ r)) = false := by
 cases h with
 | num n K =>
   obtain ⟨a, w1, rfl, g1⟩ := zB hw;exact ⟨rfl, rfl, rfl⟩
 | word t K h =>
   obtain ⟨a, w1, rfl, g1⟩ := zB hw;refine ⟨?_, ?_, ?_⟩
   ·show isW el (⟨1, t, 0, a⟩ :: (w1 ++ r)) = false;rw [GS]; exact decide_eq_false h.1
   ·show isW q9 (⟨1, t, 0, a⟩ :: (w1 ++ r)) = false;rw [GS]; exact decide_eq_false h.2.1
   ·show (isW zL (⟨1, t, 0, a⟩ :: (w1 ++ r)) && _) = false;rw [GS, decide_eq_false h.2.2]; rfl
 | br K1 K2 h =>
   obtain ⟨a, w1, rfl, g1⟩ := zB hw;obtain ⟨u, w2, rfl, hu, g2⟩ := vR g1;obtain ⟨b, w3, rfl, g3⟩ := zB g2;obtain ⟨c, w4, rfl, g4⟩ := zB g3;refine ⟨rfl, rfl, ?_⟩;have e := HT (a := a) (b := b) (c := c) (r := w4 ++ r) h hu;show (isW zL _ && uk 0 (⟨3, zL, 0, a⟩ :: ((u ++ (⟨3, zz, 0, b⟩ :: ⟨3, wo, 0, c⟩ :: w4)) ++ r))) = false;rw [List.append_assoc]
   show (isW zL _ && uk 0 (⟨3, zL, 0, a⟩ :: (u ++ (⟨3, zz, 0, b⟩ :: ⟨3, wo, 0, c⟩ :: (w4 ++ r))))) = false;rw [e, Bool.and_false]
structure vM (x : zI) (d : Nat) : Prop where
 C : ∀ (ws rest : List yf) (n : Nat), ws.map ju = xT x -> gw rest -> isW gJ rest = false -> (ws ++ rest).length <= n -> ∃ n', rest.length < n' /\ xL (n + 1) d (ws ++ rest) = wM (aj (xL n) (n + 1) d) kP qL n' x rest
 B : qd x ≠ 5 -> ∀ (ws rest : List yf) (N K m : Nat), ws.map ju = xT x -> gw rest -> (ws ++ rest).length < N -> (ws ++ rest).length <= m -> (ws ++ rest).length < K -> ∃ n', rest.length < n' /\ qk (wL (xa K) (xL m) K d) wE qL N (ws ++ rest) = wM (wL (xa K) (xL m) K d) wE qL n' x rest
 O : qd x ≠ 5 -> qd x ≠ 4 -> ∀ (ws rest : List yf) (K m j : Nat), ws.map ju = xT x -> gw rest -> (ws ++ rest).length < j -> (ws ++ rest).length <= m -> (ws ++ rest).length < K -> wL (xa K) (xL m) j d (ws ++ rest) = .ok x rest
theorem Ee (h1 : isW JF ts = false) : kP.find? (fun s => isW s.1 ts) = none := by
 unfold kP;rw [List.find?_cons, h1]
 rfl
theorem Nb (h1 : isW gJ ts = false) : wE.find? (fun s => isW s.1 ts) = none := by
 unfold wE;rw [List.find?_cons, h1]
 rfl
variable {d n : Nat} {x : zI}
theorem Ux (h : vM x d) (hw : ws.map ju = xT x) (hf : gw rest) (h1 : isW gJ rest = false) (h2 : isW JF rest = false) (hn : (ws ++ rest).length <= n) : xL (n + 1) d (ws ++ rest) = .ok x rest := by
 obtain ⟨n', hl, e⟩ := h.C ws rest n hw hf h1 hn;rw [e, gV za (Ee h2)]
theorem kS (s : Bt) (a : Int) (ts : List yf) : wi s (⟨3, s, 0, a⟩ :: ts) = .ok () ts := by
 rw [wi, Ek, decide_eq_true (show s = s from rfl), if_pos rfl]
 rfl
theorem Nh (s : Bt) (a : Int) (ts : List yf) : wi s (⟨1, s, 0, a⟩ :: ts) = .ok () ts := by
 rw [wi, GS, decide_eq_true (show s = s from rfl), if_pos rfl]
 rfl
theorem GF (h : d + 1 <= 8) (ts : List yf) : Wl d ts = .ok () ts := by rw [Wl, if_neg za]
variable {j m : Nat}
theorem Rt (h : vM x (d + 1)) (hb : jU (xT x)) (hd : d + 1 <= 8) {rest : List yf} {K : Nat} (hw : ws.map ju = brK true (xT x)) (hf : gw rest) (hj : (ws ++ rest).length < j) (hm : (ws ++ rest).length <= m) : wL (xa K) (xL m) j d (ws ++ rest) = .ok x rest := by
 obtain ⟨a, v, rfl, hv⟩ := zB hw;obtain ⟨u, c, rfl, hu, hc⟩ := vR hv;obtain ⟨b, c', rfl, hc'⟩ := zB hc;obtain rfl := wJ hc';simp only [List.cons_append, List.length_cons, List.length_append, List.length_nil] at hm hj;obtain ⟨k, rfl⟩ : ∃ k, m = k + 1 := ⟨m - 1, by omega⟩;obtain ⟨i, rfl⟩ : ∃ i, j = i + 1 := ⟨j - 1, by omega⟩
 have hs := Ux h (rest := ⟨3, zz, 0, b⟩ :: rest) (n := k) hu (gw.mark zb) rfl rfl (by simp; omega);have ho := M2 (a := a) (b := b) hb hu hf;generalize hZ : u ++ (⟨3, zz, 0, b⟩ :: rest) = Z at hs ho;have e0 : (⟨3, zL, 0, a⟩ :: (u ++ [⟨3, zz, 0, b⟩])) ++ rest = (⟨3, zL, 0, a⟩ :: Z : List yf) := by rw [<- hZ]; simp
 show wL (xa K) (xL (k + 1)) (i + 1) d ((⟨3, zL, 0, a⟩ :: (u ++ [⟨3, zz, 0, b⟩])) ++ rest) = _;rw [e0, wL, if_neg (by rw [show isW el (⟨3, zL, 0, a⟩ :: Z) = false from rfl]; decide), ho, show isW zL (⟨3, zL, 0, a⟩ :: Z) = true from rfl, if_pos (show (true && true) = true from rfl), GF hd, R.bind];show (xL (k + 1) (d + 1) Z).bind _ = _
 rw [hs, R.bind, kS, R.bind]
variable {s : Bt}
theorem WG {br : Bool} (h : ∀ d s, yx x d = some s -> vM x d) (hb : jW br d (yx x) = some s) (hbr : br = false -> qd x ≠ 5 /\ qd x ≠ 4) {K : Nat} (hw : ws.map ju = brK br (xT x)) (hf : gw rest) (hj : (ws ++ rest).length < j) (hm : (ws ++ rest).length <= m) (hK : (ws ++ rest).length < K) : wL (xa K) (xL m) j d (ws ++ rest) = .ok x rest := by
 rcases fE hb with ⟨rfl, h1⟩ | ⟨rfl, hd, t, h1, rfl⟩
 ·exact (h _ _ h1).O (hbr rfl).1 (hbr rfl).2 ws rest K m j hw hf hj hm hK
 ·exact Rt (h _ _ h1) (Kv h1) hd hw hf hj hm
theorem Ka (h : ∀ d s, yx x d = some s -> vM x d) (hb : jW (decide (qd x = 5)) d (yx x) = some s) {N K : Nat} (hw : ws.map ju = brK (decide (qd x = 5)) (xT x)) (hf : gw rest) (hN : (ws ++ rest).length < N) (hm : (ws ++ rest).length <= m) (hK : (ws ++ rest).length < K) :
  ∃ n', rest.length < n' /\ qk (wL (xa K) (xL m) K d) wE qL N (ws ++ rest) = wM (wL (xa K) (xL m) K d) wE qL n' x rest := by
 by_cases h5 : qd x = 5
 ·rw [decide_eq_true h5] at hb hw;refine ⟨N, by rw [List.length_append] at hN; omega, ?_⟩;rw [qk, WG h hb (fun e => by cases e) hw hf hK hm hK, R.bind]
 ·rw [decide_eq_false h5] at hb hw;exact (h _ _ hb).B h5 ws rest N K m hw hf hN hm hK
theorem H2 (h : ∀ d s, yx x d = some s -> vM x d) (hb : jW (decide (qd x = 5)) d (yx x) = some s) (hw : ws.map ju = brK (decide (qd x = 5)) (xT x)) (hf : gw rest) (h1 : isW gJ rest = false) (hn : (ws ++ rest).length <= n) : aj (xL n) (n + 1) d (ws ++ rest) = .ok x rest := by
 obtain ⟨n', hl, e⟩ := Ka (N := n + 1) (K := n + 1) h hb hw hf za hn za;rw [aj, e, gV za (Nb h1)]
theorem Pk (hO : ∀ (ws rest : List yf) (K m j : Nat), ws.map ju = xT x -> gw rest -> (ws ++ rest).length < j -> (ws ++ rest).length <= m -> (ws ++ rest).length < K -> wL (xa K) (xL m) j d (ws ++ rest) = .ok x rest) (ws rest : List yf) (N K m : Nat) (hw : ws.map ju = xT x) (hf : gw rest) (hN : (ws ++ rest).length < N) (hm : (ws ++ rest).length <= m) (hK : (ws ++ rest).length < K) : ∃ n', rest.length < n' /\ qk (wL (xa K) (xL m) K d) wE qL N (ws ++ rest) = wM (wL (xa K) (xL m) K d) wE qL n' x rest :=
 ⟨N, by rw [List.length_append] at hN; omega, by rw [qk, hO ws rest K m K hw hf hK hm hK, R.bind]⟩
theorem Pi (hB : ∀ (ws rest : List yf) (N K m : Nat), ws.map ju = xT x -> gw rest -> (ws ++ rest).length < N -> (ws ++ rest).length <= m -> (ws ++ rest).length < K -> ∃ n', rest.length < n' /\ qk (wL (xa K) (xL m) K d) wE qL N (ws ++ rest) = wM (wL (xa K) (xL m) K d) wE qL n' x rest) (ws rest : List yf) (n : Nat) (hw : ws.map ju = xT x) (hf : gw rest) (h1 : isW gJ rest = false) (hn : (ws ++ rest).length <= n) : ∃ n', rest.length < n' /\ xL (n + 1) d (ws ++ rest) = wM (aj (xL n) (n + 1) d) kP qL n' x rest := by
 obtain ⟨k, hk, e⟩ := hB ws rest (n + 1) (n + 1) n hw hf za hn za;refine ⟨n + 1, by rw [List.length_append] at hn; omega, ?_⟩;have e2 : aj (xL n) (n + 1) d (ws ++ rest) = .ok x rest := by rw [aj, e, gV za (Nb h1)]
 rw [xL, qk, e2, R.bind]
theorem WX (hO : ∀ (ws rest : List yf) (K m j : Nat), ws.map ju = xT x -> gw rest -> (ws ++ rest).length < j -> (ws ++ rest).length <= m -> (ws ++ rest).length < K -> wL (xa K) (xL m) j d (ws ++ rest) = .ok x rest) : vM x d :=
 ⟨Pi (Pk hO), fun _ => Pk hO, fun _ _ => hO⟩
variable {v : Bt}
theorem N7 {op : Int} {w : Bt} {a b : zY} {u : Bt} (hw0 : (op = 0 /\ w = X9) \/ (op = 1 /\ w = Wa) \/ (op = 2 /\ w = Wb)) (ha : yC a d = some u) (hb : yC b d = some v) : vM (.mk op 0 [] [a, b] []) d := WX fun ws rest K m j hw hf hj hm hK => by
 rw [YF] at hw;obtain ⟨x, w1, rfl, hx, g1⟩ := vR hw;obtain ⟨p, y, rfl, hy⟩ := zB g1;rw [List.append_assoc, List.cons_append] at hj hm hK ⊢;obtain ⟨i, rfl⟩ : ∃ i, j = i + 1 := ⟨j - 1, by omega⟩;obtain ⟨k, rfl⟩ : ∃ k, K = k + 1 := ⟨K - 1, by omega⟩;have hd := (JW ha).test hx (⟨3, W0 op, 0, p⟩ :: (y ++ rest))
 have hsg : yy.find? (fun s => isW s.1 ((⟨3, W0 op, 0, p⟩ : yf) :: (y ++ rest))) = some (W0 op, op) := by
  rcases hw0 with ⟨rfl, -⟩ | ⟨rfl, -⟩ | ⟨rfl, -⟩ <;> rfl
 have hns : isW wo ((⟨3, W0 op, 0, p⟩ : yf) :: (y ++ rest)) = false /\ isW jd ((⟨3, W0 op, 0, p⟩ : yf) :: (y ++ rest)) = false /\ isW uc ((⟨3, W0 op, 0, p⟩ : yf) :: (y ++ rest)) = false := by
  rcases hw0 with ⟨rfl, -⟩ | ⟨rfl, -⟩ | ⟨rfl, -⟩ <;> exact ⟨rfl, rfl, rfl⟩
 have h1 := Zt ha (rest := ⟨3, W0 op, 0, p⟩ :: (y ++ rest)) (n := k) hx hns.1 hns.2.1 hns.2.2 (Nat.le_of_lt_succ hK);simp only [List.length_cons, List.length_append] at hK;have h2 := Zt hb (rest := rest) (n := k) hy (hf _ yA) (hf _ yA) (hf _ yA) (by rw [List.length_append]; omega)
 show wL (xa (k + 1)) (xL m) (i + 1) d (x ++ (⟨3, W0 op, 0, p⟩ :: (y ++ rest))) = _;rw [wL, if_neg (by rw [hd.1]; decide), if_neg (by rw [hd.2.2]; decide), if_neg (by rw [hd.2.1]; decide), h1, R.bind, hsg];show (xa (k + 1) d (y ++ rest)).bind _ = _;rw [h2, R.bind]
theorem G3 {who : Int} {name : Bt} (hn : yL name = true) (hs : xA who = some s) : vM (.mk 6 who name [] []) d := WX fun ws rest K m j hw hf hj hm hK => by
 rw [aU] at hw
 have hown : JR name = false := by
  unfold yL at hn;rw [Bool.and_eq_true] at hn
  simpa using hn.2
 have hwho : who = 0 \/ who = 1 := by
  unfold xA at hs
  split at hs
  ·exact .inl ‹_›
  ·split at hs
   ·exact .inr ‹_›
   ·cases hs
 obtain ⟨p1, w1, rfl, g1⟩ := zB hw;obtain ⟨p2, w2, rfl, g2⟩ := zB g1;obtain ⟨p3, w3, rfl, g3⟩ := zB g2;obtain ⟨p4, w4, rfl, g4⟩ := zB g3;obtain ⟨p5, w5, rfl, g5⟩ := zB g4;obtain ⟨p6, w6, rfl, g6⟩ := zB g5;obtain rfl := wJ g6;obtain ⟨i, rfl⟩ : ∃ i, j = i + 1 := ⟨j - 1, by omega⟩
 have hside : ∀ ts, j4 (⟨1, if who = 0 then ar else fL, 0, p3⟩ :: ts) = .ok who ts := fun ts => by rcases hwho with rfl | rfl <;> rfl
 have hname : ∀ ts, kn (⟨1, name, 0, p5⟩ :: ts) = .ok name ts := fun ts => by rw [kn, if_pos ⟨rfl, hown⟩]; rfl
 show wL (xa K) (xL m) (i + 1) d (⟨1, q9, 0, p1⟩ :: ⟨3, zL, 0, p2⟩ :: ⟨1, if who = 0 then ar else fL, 0, p3⟩ :: ⟨3, y9, 0, p4⟩ :: ⟨1, name, 0, p5⟩ :: ⟨3, zz, 0, p6⟩ :: rest) = _
 have e : wL (xa K) (xL m) (i + 1) d (⟨1, q9, 0, p1⟩ :: ⟨3, zL, 0, p2⟩ :: ⟨1, if who = 0 then ar else fL, 0, p3⟩ :: ⟨3, y9, 0, p4⟩ :: ⟨1, name, 0, p5⟩ :: ⟨3, zz, 0, p6⟩ :: rest) =
   (wi zL (⟨3, zL, 0, p2⟩ :: ⟨1, if who = 0 then ar else fL, 0, p3⟩ :: ⟨3, y9, 0, p4⟩ :: ⟨1, name, 0, p5⟩ :: ⟨3, zz, 0, p6⟩ :: rest)).bind fun _ ts => (j4 ts).bind fun w ts => (wi y9 ts).bind fun _ ts => (kn ts).bind fun s ts => (wi zz ts).bind fun _ ts => .ok (.mk 6 w s [] []) ts := rfl
 rw [e, kS, R.bind, hside, R.bind, kS, R.bind, hname, R.bind, kS, R.bind]
theorem N6 {k : zI} (h : ∀ d s, yx k d = some s -> vM k d) (hd : d + 1 <= 8) (hk : jW (decide (qd k = 4) || decide (qd k = 5)) (d + 1) (yx k) = some s) : vM (.mk 3 0 [] [] [k]) d := WX fun ws rest K m j hw hf hj hm hK => by
 rw [YE] at hw;obtain ⟨p, y, rfl, hy⟩ := zB hw;simp only [List.cons_append, List.length_cons] at hj hm hK;obtain ⟨i, rfl⟩ : ∃ i, j = i + 1 := ⟨j - 1, by omega⟩
 have h1 := WG (K := K) (m := m) (j := i) h hk (fun e => by
  rw [Bool.or_eq_false_iff] at e
  exact ⟨of_decide_eq_false e.2, of_decide_eq_false e.1⟩) hy hf za za za
 have e : wL (xa K) (xL m) (i + 1) d (⟨1, el, 0, p⟩ :: (y ++ rest)) = (Wl d (⟨1, el, 0, p⟩ :: (y ++ rest))).bind fun _ ts => (wL (xa K) (xL m) i (d + 1) ts.tail).bind fun k ts => .ok (.mk 3 0 [] [] [k]) ts := rfl;show wL (xa K) (xL m) (i + 1) d (⟨1, el, 0, p⟩ :: (y ++ rest)) = _;rw [e, GF hd, R.bind];show (wL (xa K) (xL m) i (d + 1) (y ++ rest)).bind _ = _
 rw [h1, R.bind]
theorem N8 {a b : zI} {u : Bt} (ha : ∀ d s, yx a d = some s -> vM a d) (hb : ∀ d s, yx b d = some s -> vM b d) (h1 : jW (decide (qd a = 5)) d (yx a) = some u) (h2 : jW (decide (qd b = 5) || decide (qd b = 4)) d (yx b) = some v) : vM (qL 4 a b) d := by
 have hB : ∀ (ws rest : List yf) (N K m : Nat), ws.map ju = xT (qL 4 a b) -> gw rest -> (ws ++ rest).length < N -> (ws ++ rest).length <= m -> (ws ++ rest).length < K -> ∃ n', rest.length < n' /\ qk (wL (xa K) (xL m) K d) wE qL N (ws ++ rest) = wM (wL (xa K) (xL m) K d) wE qL n' (qL 4 a b) rest := by
  intro ws rest N K m hw hf hN hm hK;rw [show qL 4 a b = .mk 4 0 [] [] [a, b] from rfl, YG] at hw;obtain ⟨x, w1, rfl, hx, g1⟩ := vR hw;obtain ⟨p, y, rfl, hy⟩ := zB g1;rw [List.append_assoc, List.cons_append] at hN hm hK ⊢;obtain ⟨n1, hl, e⟩ := Ka (rest := ⟨1, gJ, 0, p⟩ :: (y ++ rest)) ha h1 hx (gw.word zb) hN hm hK
  obtain ⟨k, rfl⟩ : ∃ k, n1 = k + 1 := ⟨n1 - 1, by omega⟩;simp only [List.length_cons, List.length_append] at hl hm hK
  have e2 := WG (rest := rest) (K := K) (m := m) (j := K) hb h2 (fun e => by
   rw [Bool.or_eq_false_iff] at e
   exact ⟨of_decide_eq_false e.1, of_decide_eq_false e.2⟩) hy hf (by rw [List.length_append]; omega) (by rw [List.length_append]; omega) (by rw [List.length_append]; omega)
  refine ⟨k, by omega, ?_⟩;show qk (wL (xa K) (xL m) K d) wE qL N (x ++ (⟨1, gJ, 0, p⟩ :: (y ++ rest))) = _;rw [e, bv (sg := (gJ, 4)) rfl];show (wL (xa K) (xL m) K d (y ++ rest)).bind _ = _;rw [e2, R.bind]
 exact ⟨Pi hB, fun _ => hB, fun _ h => absurd rfl h⟩
theorem Re {a b : zI} (ha : vM a d) (hb : ∀ d s, yx b d = some s -> vM b d) (h2 : jW (decide (qd b = 5)) d (yx b) = some v) : vM (qL 5 a b) d := by
 refine ⟨fun ws rest n hw hf h1 hn => ?_, fun h => absurd rfl h, fun h => absurd rfl h⟩;rw [show qL 5 a b = .mk 5 0 [] [] [a, b] from rfl, WZ] at hw;obtain ⟨x, w1, rfl, hx, g1⟩ := vR hw;obtain ⟨p, y, rfl, hy⟩ := zB g1;rw [List.append_assoc, List.cons_append] at hn ⊢;obtain ⟨n1, hl, e⟩ := ha.C x (⟨1, JF, 0, p⟩ :: (y ++ rest)) n hx (gw.word zb) rfl hn
 obtain ⟨k, rfl⟩ : ∃ k, n1 = k + 1 := ⟨n1 - 1, by omega⟩;simp only [List.length_cons, List.length_append] at hl hn;have e2 := H2 (rest := rest) (n := n) hb h2 hy hf h1 (by rw [List.length_append]; omega);refine ⟨k, by omega, ?_⟩;show xL (n + 1) d (x ++ (⟨1, JF, 0, p⟩ :: (y ++ rest))) = _;rw [e, bv (sg := (JF, 5)) rfl];show (aj (xL n) (n + 1) d (y ++ rest)).bind _ = _
 rw [e2, R.bind]
theorem Kt : ∀ (x : zI) (d : Nat) (s : Bt), yx x d = some s -> vM x d
 | .mk op who name ns ks, d, s, h => by
   have hk : ∀ k ∈ ks, ∀ d s, yx k d = some s -> vM k d := fun k _ d s h => Kt k d s h;have hc := kF h;clear h;generalize hx : zI.mk op who name ns ks = x at hc;cases hc with
   | cmp hw ha hb => exact hx ▸ (by cases hx; exact N7 hw ha hb)
   | holds hn hs => cases hx; exact G3 hn hs
   | not hd h1 => cases hx; exact N6 (hk _ (.head _)) hd h1
   | or ha hb => cases hx; exact Re (hk _ (.head _) _ _ ha) (hk _ (.tail _ (.head _))) hb
   | and ha hb => cases hx; exact N8 (hk _ (.head _)) (hk _ (.tail _ (.head _))) ha hb
termination_by x => SizeOf.sizeOf x
decreasing_by
 have := List.sizeOf_lt_of_mem ‹k ∈ ks›
 simp
 omega
theorem Ll (h : yx x d = some s) (hw : ws.map ju = xT x) (hf : gw rest) (h1 : isW gJ rest = false) (h2 : isW JF rest = false) (hn : (ws ++ rest).length <= n) : xL (n + 1) d (ws ++ rest) = .ok x rest :=
 Ux (Kt x d s h) hw hf h1 h2 hn
end Tp
namespace Tp
open Go Go.Eng Wd Kd
def Ml (w : Int) : gy := ur (if w = 2 then xX else if w = 0 then ar else fL)
def Xv (op : Int) : Bt := if op = 0 then Zk else if op = 1 then Zj else if op = 2 then Y3 else if op = 3 then Y1 else if op = 5 then YY else if op = 4 then Y2 else YX
mutual
def eU : zW -> List gy
 | .mk op who n name c t e =>
   if op = 8 then ur HO :: (xT c ++ xh gp :: (gP t ++ xh jv :: ur je :: xh gp :: (gP e ++ [xh jv])))
   else if op = 7 then [ur jn, ur name, xh yg]
   else if op = 0 \/ op = 1 \/ op = 2 then ur (Xv op) :: Ml who :: (xw n ++ [xh yg])
   else if op = 3 \/ op = 5 then ur (Xv op) :: (xw n ++ [xh yg])
   else [ur (Xv op), Ml who, xh yg]
termination_by structural x => x
def gP : List zW -> List gy
 | [] => []
 | x :: r => eU x ++ gP r
termination_by structural x => x
end
theorem KN : gP [] = [] := by rw [gP]
theorem UG (x : zW) (r : List zW) : gP (x :: r) = eU x ++ gP r := by rw [gP]
theorem I5 (who : Int) (n : zY) (name : Bt) (c : zI) (t e : List zW) : eU (.mk 8 who n name c t e) = ur HO :: (xT c ++ xh gp :: (gP t ++ xh jv :: ur je :: xh gp :: (gP e ++ [xh jv]))) := by rw [eU]; rfl
theorem Xg (who : Int) (n : zY) (name : Bt) (c : zI) (t e : List zW) : eU (.mk 7 who n name c t e) = [ur jn, ur name, xh yg] := by rw [eU]; rfl
variable {op : Int}
theorem Ut (h : op = 0 \/ op = 1 \/ op = 2) (who : Int) (n : zY) (name : Bt) (c : zI) (t e : List zW) : eU (.mk op who n name c t e) = ur (Xv op) :: Ml who :: (xw n ++ [xh yg]) := by
 rw [eU, if_neg za, if_neg za, if_pos h]
theorem Ko (h : op = 3 \/ op = 5) (who : Int) (n : zY) (name : Bt) (c : zI) (t e : List zW) : eU (.mk op who n name c t e) = ur (Xv op) :: (xw n ++ [xh yg]) := by
 rw [eU, if_neg za, if_neg za, if_neg za, if_pos h]
theorem Ur (h : op = 4 \/ op = 6) (who : Int) (n : zY) (name : Bt) (c : zI) (t e : List zW) : eU (.mk op who n name c t e) = [ur (Xv op), Ml who, xh yg] := by
 rw [eU, if_neg za, if_neg za, if_neg za, if_neg za]
theorem XW {n : zY} (h : ux n = true) : n = aF := by
 obtain ⟨op, m, who, k⟩ := n;unfold ux at h;simp only [Bool.and_eq_true, decide_eq_true_eq, List.isEmpty_iff] at h;obtain ⟨⟨⟨rfl, rfl⟩, rfl⟩, rfl⟩ := h
 rfl
variable {c : zI}
theorem Ma (h : kX c = true) : c = UB := by
 obtain ⟨op, who, name, ns, k⟩ := c;unfold kX at h;simp only [Bool.and_eq_true, decide_eq_true_eq, List.isEmpty_iff] at h;obtain ⟨⟨⟨⟨rfl, rfl⟩, rfl⟩, rfl⟩, rfl⟩ := h
 rfl
theorem f8 {t e : List zW} (h : xS c t e) : c = UB /\ t = [] /\ e = [] :=
 ⟨Ma h.1, List.eq_nil_of_length_eq_zero (by have := h.2; omega), List.eq_nil_of_length_eq_zero (by have := h.2; omega)⟩
variable {u : Bt} {w : Int}
theorem g9 (h : xA w = some u) : (w = 0 /\ u = ar) \/ (w = 1 /\ u = fL) := by
 unfold xA at h
 split at h
 ·cases h; exact .inl ⟨‹_›, rfl⟩
 ·split at h
  ·cases h; exact .inr ⟨‹_›, rfl⟩
  ·cases h
theorem bn (h : gY w = some u) : (w = 2 /\ u = xX) \/ (w = 0 /\ u = ar) \/ (w = 1 /\ u = fL) := by
 unfold gY at h
 split at h
 ·cases h; exact .inl ⟨‹_›, rfl⟩
 ·exact .inr (g9 h)
theorem IR (h : (w = 2 /\ u = xX) \/ (w = 0 /\ u = ar) \/ (w = 1 /\ u = fL)) : Lay true u [Ml w] := by
 rcases h with ⟨rfl, rfl⟩ | ⟨rfl, rfl⟩ | ⟨rfl, rfl⟩ <;> exact wk
theorem xR : Lay false [32] [] := fl zb
theorem dT {w : Bt} (h : Zx w = true) : Lay false (w ++ vy) [ur w] := ((wk h).tm xR)
variable {d : Nat} {l : List zW}
theorem QQ (hx : ∀ x ∈ l, ∀ d s, vG x d = some s -> Lay false s (eU x)) : ∀ {s : Bt}, vi l d = some s -> Lay false s (gP l) := by
 induction l with
 | nil =>
   intro s h;rw [ci] at h;cases h;rw [KN];exact Lay.nil
 | cons x r ih =>
   intro s h;rw [kH] at h;cases hs : vG x d with
   | none => rw [hs] at h; cases h
   | some u =>
     rw [hs] at h;cases hr : vi r d with
     | none => rw [hr] at h; cases h
     | some v =>
       rw [hr] at h;cases h;rw [UG];exact ((xR.fm (hx x (.head _) d u hs)).fm (ih (fun y hy => hx y (.tail _ hy)) hr)).congr rfl rfl
theorem QD : ∀ (x : zW) (d : Nat) (s : Bt), vG x d = some s -> Lay false s (eU x)
 | .mk op who n name c t e, d, s, h => by
   have ht : ∀ y ∈ t, ∀ d s, vG y d = some s -> Lay false s (eU y) := fun y _ d s h => QD y d s h;have he : ∀ y ∈ e, ∀ d s, vG y d = some s -> Lay false s (eU y) := fun y _ d s h => QD y d s h;have hc := bJ h;clear h;generalize hx : zW.mk op who n name c t e = x at hc;cases hc with
   | @line o w0 n0 c0 t0 e0 d0 w u v hop hb hn =>
     cases hx;have hop2 : op = 0 \/ op = 1 \/ op = 2 := by rcases hop with h | h | h <;> omega
     have hw : w = Xv op /\ Zx w = true /\ ((who = 2 /\ u = xX) \/ (who = 0 /\ u = ar) \/ (who = 1 /\ u = fL)) := by
      rcases hop with ⟨rfl, rfl, h⟩ | ⟨rfl, rfl, h⟩ | ⟨rfl, rfl, h⟩
      ·exact ⟨rfl, by decide, bn h⟩
      ·exact ⟨rfl, by decide, bn h⟩
      ·exact ⟨rfl, by decide, .inr (g9 h)⟩
     obtain ⟨rfl, hl, hwho⟩ := hw;rw [Ut hop2];exact (((((dT hl).fm (IR hwho)).tm xR).fm (bB hn)).tm fp).congr rfl yA
   | @num o n0 c0 t0 e0 d0 w v hop hb hn =>
     cases hx;have hop2 : op = 3 \/ op = 5 := by rcases hop with h | h <;> omega
     have hw : w = Xv op /\ Zx w = true := by
      rcases hop with ⟨rfl, rfl⟩ | ⟨rfl, rfl⟩ <;> exact ⟨rfl, by decide⟩
     obtain ⟨rfl, hl⟩ := hw;rw [Ko hop2];exact (((dT hl).fm (bB hn)).tm fp).congr rfl yA
   | @side o w0 n0 c0 t0 e0 d0 w u hop hb hz hs =>
     cases hx;have hop2 : op = 4 \/ op = 6 := by rcases hop with h | h <;> omega
     have hw : w = Xv op /\ Zx w = true := by
      rcases hop with ⟨rfl, rfl⟩ | ⟨rfl, rfl⟩ <;> exact ⟨rfl, by decide⟩
     obtain ⟨rfl, hl⟩ := hw;rw [Ur hop2];exact (((dT hl).fm (IR (.inr (g9 hs)))).tm fp).congr rfl yA
   | summon hb hz hn =>
     cases hx;rw [Xg];exact (((dT (w := jn) zb).fm (fk (qG hn))).tm fp).congr rfl yA
   | @iff n0 c0 t0 e0 d0 s u v hz hd hc0 ht0 he0 =>
     cases hx;rw [I5];have h1 := ((((((((((((dT (w := HO) zb).fm (Ku hc0)).tm xR).fm Qm).fm (QQ ht ht0)).fm xR).fm Ql).fm xR).fm (wk (w := je))).tm xR).fm Qm).fm (QQ he he0)).fm xR;exact (h1.fm Ql).congr rfl yA
termination_by x => SizeOf.sizeOf x
decreasing_by
 all_goals
  have := List.sizeOf_lt_of_mem ‹y ∈ _›;simp only [zW.mk.sizeOf_spec];omega
def Jd (x : zW) (d : Nat) : Prop := ∀ (ws rest : List yf) (n : Nat), ws.map ju = eU x -> (ws ++ rest).length <= n -> ky (xo n) (n + 1) d (ws ++ rest) = .ok x rest
def Jg (l : List zW) (d : Nat) : Prop := ∀ (ws rest : List yf) (n : Nat), ws.map ju = xh gp :: (gP l ++ [xh jv]) -> (ws ++ rest).length <= n -> xo (n + 1) d (ws ++ rest) = .ok l rest
theorem N1 (x : zW) : ∃ w K, eU x = ur w :: K /\ w ≠ jv := by
 obtain ⟨op, who, n, name, c, t, e⟩ := x
 have ho : Xv op ≠ jv := by
  unfold Xv
  split
  ·decide
  split
  ·decide
  split
  ·decide
  split
  ·decide
  split
  ·decide
  split
  ·decide
  ·decide
 rw [eU]
 split
 ·exact ⟨_, _, rfl, by decide⟩
 split
 ·exact ⟨_, _, rfl, by decide⟩
 split
 ·exact ⟨_, _, rfl, ho⟩
 split
 ·exact ⟨_, _, rfl, ho⟩
 ·exact ⟨_, _, rfl, ho⟩
theorem Ud {one : List yf -> R zW} {k : Nat} : ∀ (l acc : List zW) (ws rest : List yf) (N : Nat), (∀ x ∈ l, ∀ ws rest, ws.map ju = eU x -> (ws ++ rest).length <= k -> one (ws ++ rest) = .ok x rest) -> ws.map ju = gP l ++ [xh jv] -> (ws ++ rest).length < N -> (ws ++ rest).length <= k -> fR one N acc (ws ++ rest) = .ok (acc ++ l) rest
 | [], acc, ws, rest, N, _, hw, hN, _ => by
   rw [KN] at hw;obtain ⟨a, w1, rfl, g1⟩ := zB hw;obtain rfl := wJ g1;obtain ⟨i, rfl⟩ : ∃ i, N = i + 1 := ⟨N - 1, by omega⟩;show fR one (i + 1) acc (⟨3, jv, 0, a⟩ :: rest) = _;rw [fR, if_pos (show isW jv (⟨3, jv, 0, a⟩ :: rest) = true from rfl), List.append_nil]
   rfl
 | x :: r, acc, ws, rest, N, ho, hw, hN, hk => by
   rw [UG, List.append_assoc] at hw;obtain ⟨u, v, rfl, hu, hv⟩ := vR hw;obtain ⟨i, rfl⟩ : ∃ i, N = i + 1 := ⟨N - 1, by omega⟩;rw [List.append_assoc] at hN hk ⊢;have h1 := ho x (.head _) u (v ++ rest) hu hk;obtain ⟨w, K, hK, hne⟩ := N1 x
   have hrb : isW jv (u ++ (v ++ rest)) = false /\ 1 <= u.length := by
    rw [hK] at hu;obtain ⟨a, w1, rfl, g1⟩ := zB hu;refine ⟨?_, by simp⟩;show isW jv (⟨1, w, 0, a⟩ :: (w1 ++ (v ++ rest))) = false;rw [GS];exact decide_eq_false hne
   rw [List.length_append] at hN hk;rw [fR, if_neg (by rw [hrb.1]; decide), h1, R.bind, Ud r (acc ++ [x]) v rest i (fun y hy => ho y (.tail _ hy)) hv za za, List.append_assoc]
   rfl
theorem QP (hx : ∀ x ∈ l, Jd x d) : Jg l d := by
 intro ws rest n hw hn;obtain ⟨a, v, rfl, hv⟩ := zB hw;simp only [List.cons_append, List.length_cons] at hn;show xo (n + 1) d (⟨3, gp, 0, a⟩ :: (v ++ rest)) = _;rw [xo, kS, R.bind, Ud (k := n) l [] v rest (n + 1) (fun x hm ws rest h1 h2 => hx x hm ws rest n h1 h2) hv za za]
 rfl
theorem cj : ∀ {s : Bt}, vi l d = some s -> ∀ x ∈ l, ∃ u, vG x d = some u := by
 induction l with
 | nil => intro s _ x hx; cases hx
 | cons y r ih =>
   intro s h x hx;rw [kH] at h;cases hs : vG y d with
   | none => rw [hs] at h; cases h
   | some u =>
     rw [hs] at h;cases hr : vi r d with
     | none => rw [hr] at h; cases h
     | some v =>
       rcases List.mem_cons.1 hx with rfl | hx
       ·exact ⟨u, hs⟩
       ·exact ih hr x hx
theorem fP (x : zW) (a : Int) (ts : List yf) : v6 x (⟨3, yg, 0, a⟩ :: ts) = .ok x ts := by rw [v6, kS, R.bind]
theorem Mj (h : w = 2 \/ w = 0 \/ w = 1) (a : Int) (ts : List yf) : Xu (⟨1, if w = 2 then xX else if w = 0 then ar else fL, 0, a⟩ :: ts) = .ok w ts := by
 rcases h with rfl | rfl | rfl <;> rfl
theorem U1 (h : w = 0 \/ w = 1) (a : Int) (ts : List yf) : j4 (⟨1, if w = 2 then xX else if w = 0 then ar else fL, 0, a⟩ :: ts) = .ok w ts := by
 rcases h with rfl | rfl <;> rfl
variable {s : Bt}
theorem Zv (h : yL s = true) (a : Int) (ts : List yf) : kn (⟨1, s, 0, a⟩ :: ts) = .ok s ts := by
 have hown : JR s = false := by
  unfold yL at h;rw [Bool.and_eq_true] at h
  simpa using h.2
 rw [kn, if_pos ⟨rfl, hown⟩]
 rfl
theorem Qz : ∀ (x : zW) (d : Nat) (s : Bt), vG x d = some s -> Jd x d
 | .mk op who n name c t e, d, s, h => by
   have ht : ∀ y ∈ t, ∀ d s, vG y d = some s -> Jd y d := fun y _ d s h => Qz y d s h;have he : ∀ y ∈ e, ∀ d s, vG y d = some s -> Jd y d := fun y _ d s h => Qz y d s h;have hc := bJ h;clear h;generalize hx : zW.mk op who n name c t e = x at hc;intro ws rest m hw hm;cases hc with
   | @line o w0 n0 c0 t0 e0 d0 w u v hop hb hn =>
     cases hx;obtain ⟨rfl, rfl, rfl⟩ := f8 hb;have hop2 : op = 0 \/ op = 1 \/ op = 2 := by rcases hop with h | h | h <;> omega
     rw [Ut hop2] at hw;obtain ⟨p1, w1, rfl, g1⟩ := zB hw;obtain ⟨p2, w2, rfl, g2⟩ := zB g1;obtain ⟨x, w3, rfl, hx, g3⟩ := vR g2;obtain ⟨p3, w4, rfl, g4⟩ := zB g3;obtain rfl := wJ g4;simp only [List.cons_append, List.length_cons, List.length_append, List.length_nil] at hm
     have h1 := Zt hn (rest := ⟨3, yg, 0, p3⟩ :: rest) (n := m) hx rfl rfl rfl (by simp; omega)
     have e0 : (⟨1, Xv op, 0, p1⟩ :: ⟨1, if who = 2 then xX else if who = 0 then ar else fL, 0, p2⟩ :: (x ++ [⟨3, yg, 0, p3⟩])) ++ rest = (⟨1, Xv op, 0, p1⟩ :: ⟨1, if who = 2 then xX else if who = 0 then ar else fL, 0, p2⟩ :: (x ++ (⟨3, yg, 0, p3⟩ :: rest)) : List yf) := by simp
     show ky (xo m) (m + 1) d ((⟨1, Xv op, 0, p1⟩ :: ⟨1, if who = 2 then xX else if who = 0 then ar else fL, 0, p2⟩ :: (x ++ [⟨3, yg, 0, p3⟩])) ++ rest) = _;rw [e0];generalize x ++ (⟨3, yg, 0, p3⟩ :: rest) = Z at h1;rcases hop with ⟨rfl, rfl, hh⟩ | ⟨rfl, rfl, hh⟩ | ⟨rfl, rfl, hh⟩
     ·have hwho : who = 2 \/ who = 0 \/ who = 1 := by rcases bn hh with h | h | h <;> omega
      have e : ∀ ts, ky (xo m) (m + 1) d (⟨1, Xv 0, 0, p1⟩ :: ts) = (Xu ts).bind fun w ts => (xa (m + 1) d ts).bind fun x ts => v6 (qm 0 w x []) ts := fun _ => rfl;rw [e, Mj hwho, R.bind, h1, R.bind, fP]
      rfl
     ·have hwho : who = 2 \/ who = 0 \/ who = 1 := by rcases bn hh with h | h | h <;> omega
      have e : ∀ ts, ky (xo m) (m + 1) d (⟨1, Xv 1, 0, p1⟩ :: ts) = (Xu ts).bind fun w ts => (xa (m + 1) d ts).bind fun x ts => v6 (qm 1 w x []) ts := fun _ => rfl;rw [e, Mj hwho, R.bind, h1, R.bind, fP]
      rfl
     ·have hwho : who = 0 \/ who = 1 := by rcases g9 hh with h | h <;> omega
      have e : ∀ ts, ky (xo m) (m + 1) d (⟨1, Xv 2, 0, p1⟩ :: ts) = (j4 ts).bind fun w ts => (xa (m + 1) d ts).bind fun x ts => v6 (qm 2 w x []) ts := fun _ => rfl;rw [e, U1 hwho, R.bind, h1, R.bind, fP]
      rfl
   | @num o n0 c0 t0 e0 d0 w v hop hb hn =>
     cases hx;obtain ⟨rfl, rfl, rfl⟩ := f8 hb;have hop2 : op = 3 \/ op = 5 := by rcases hop with h | h <;> omega
     rw [Ko hop2] at hw;obtain ⟨p1, w1, rfl, g1⟩ := zB hw;obtain ⟨x, w3, rfl, hx, g3⟩ := vR g1;obtain ⟨p3, w4, rfl, g4⟩ := zB g3;obtain rfl := wJ g4;simp only [List.cons_append, List.length_cons, List.length_append, List.length_nil] at hm;have h1 := Zt hn (rest := ⟨3, yg, 0, p3⟩ :: rest) (n := m) hx rfl rfl rfl (by simp; omega)
     have e0 : (⟨1, Xv op, 0, p1⟩ :: (x ++ [⟨3, yg, 0, p3⟩])) ++ rest = (⟨1, Xv op, 0, p1⟩ :: (x ++ (⟨3, yg, 0, p3⟩ :: rest)) : List yf) := by simp
     show ky (xo m) (m + 1) d ((⟨1, Xv op, 0, p1⟩ :: (x ++ [⟨3, yg, 0, p3⟩])) ++ rest) = _;rw [e0];generalize x ++ (⟨3, yg, 0, p3⟩ :: rest) = Z at h1;rcases hop2 with rfl | rfl
     ·have e : ∀ ts, ky (xo m) (m + 1) d (⟨1, Xv 3, 0, p1⟩ :: ts) = (xa (m + 1) d ts).bind fun x ts => v6 (qm 3 0 x []) ts := fun _ => rfl;rw [e, h1, R.bind, fP]
      rfl
     ·have e : ∀ ts, ky (xo m) (m + 1) d (⟨1, Xv 5, 0, p1⟩ :: ts) = (xa (m + 1) d ts).bind fun x ts => v6 (qm 5 0 x []) ts := fun _ => rfl;rw [e, h1, R.bind, fP]
      rfl
   | @side o w0 n0 c0 t0 e0 d0 w u hop hb hz hs =>
     cases hx;obtain ⟨rfl, rfl, rfl⟩ := f8 hb;obtain rfl := XW hz;have hop2 : op = 4 \/ op = 6 := by rcases hop with h | h <;> omega
     have hwho : who = 0 \/ who = 1 := by rcases g9 hs with h | h <;> omega
     rw [Ur hop2] at hw;obtain ⟨p1, w1, rfl, g1⟩ := zB hw;obtain ⟨p2, w2, rfl, g2⟩ := zB g1;obtain ⟨p3, w3, rfl, g3⟩ := zB g2;obtain rfl := wJ g3;show ky (xo m) (m + 1) d (⟨1, Xv op, 0, p1⟩ :: ⟨1, if who = 2 then xX else if who = 0 then ar else fL, 0, p2⟩ :: ⟨3, yg, 0, p3⟩ :: rest) = _;rcases hop2 with rfl | rfl
     ·have e : ∀ ts, ky (xo m) (m + 1) d (⟨1, Xv 4, 0, p1⟩ :: ts) = (j4 ts).bind fun w ts => v6 (qm 4 w aF []) ts := fun _ => rfl;rw [e, U1 hwho, R.bind, fP]
      rfl
     ·have e : ∀ ts, ky (xo m) (m + 1) d (⟨1, Xv 6, 0, p1⟩ :: ts) = (j4 ts).bind fun w ts => v6 (qm 6 w aF []) ts := fun _ => rfl;rw [e, U1 hwho, R.bind, fP]
      rfl
   | summon hb hz hn =>
     cases hx;obtain ⟨rfl, rfl, rfl⟩ := f8 hb;obtain rfl := XW hz;rw [Xg] at hw;obtain ⟨p1, w1, rfl, g1⟩ := zB hw;obtain ⟨p2, w2, rfl, g2⟩ := zB g1;obtain ⟨p3, w3, rfl, g3⟩ := zB g2;obtain rfl := wJ g3;show ky (xo m) (m + 1) d (⟨1, jn, 0, p1⟩ :: ⟨1, name, 0, p2⟩ :: ⟨3, yg, 0, p3⟩ :: rest) = _
     have e : ∀ ts, ky (xo m) (m + 1) d (⟨1, jn, 0, p1⟩ :: ts) = (kn ts).bind fun s ts => v6 (qm 7 0 aF s) ts := fun _ => rfl;rw [e, Zv hn, R.bind, fP]
     rfl
   | @iff n0 c0 t0 e0 d0 s u v hz hd hc0 ht0 he0 =>
     cases hx;obtain rfl := XW hz;rw [I5] at hw;obtain ⟨p1, w1, rfl, g1⟩ := zB hw;obtain ⟨x, w2, rfl, hx, g2⟩ := vR g1
     have hblk : ∃ y p2 z, w2 = y ++ ⟨1, je, 0, p2⟩ :: z /\ y.map ju = xh gp :: (gP t ++ [xh jv]) /\ z.map ju = xh gp :: (gP e ++ [xh jv]) := by
      have e1 : xh gp :: (gP t ++ xh jv :: ur je :: xh gp :: (gP e ++ [xh jv])) = (xh gp :: (gP t ++ [xh jv])) ++ ur je :: (xh gp :: (gP e ++ [xh jv])) := by simp
      rw [e1] at g2;obtain ⟨y, w3, rfl, hy, g3⟩ := vR g2;obtain ⟨p2, z, rfl, hz⟩ := zB g3;exact ⟨y, p2, z, rfl, hy, hz⟩
     obtain ⟨y, p2, z, rfl, hy, hz⟩ := hblk;simp only [List.cons_append, List.length_cons, List.length_append] at hm
     have hbt : Jg t (d + 1) := QP fun q hq => by
      obtain ⟨u, hu⟩ := cj ht0 q hq;exact ht q hq _ _ hu
     have hbe : Jg e (d + 1) := QP fun q hq => by
      obtain ⟨u, hu⟩ := cj he0 q hq;exact he q hq _ _ hu
     obtain ⟨k, rfl⟩ : ∃ k, m = k + 1 := ⟨m - 1, by omega⟩;have h3 := hbe z rest k hz (by rw [List.length_append]; omega);have h2 := hbt y (⟨1, je, 0, p2⟩ :: (z ++ rest)) k hy (by simp only [List.length_append, List.length_cons]; omega)
     have hyh : gw (y ++ (⟨1, je, 0, p2⟩ :: (z ++ rest))) /\ isW gJ (y ++ (⟨1, je, 0, p2⟩ :: (z ++ rest))) = false /\ isW JF (y ++ (⟨1, je, 0, p2⟩ :: (z ++ rest))) = false := by
      obtain ⟨a, y1, rfl, -⟩ := zB hy;exact ⟨gw.mark zb, rfl, rfl⟩
     have h1 := Ll hc0 (rest := y ++ (⟨1, je, 0, p2⟩ :: (z ++ rest))) (n := k + 1) hx hyh.1 hyh.2.1 hyh.2.2 (by simp only [List.length_append, List.length_cons]; omega);have e0 : (⟨1, HO, 0, p1⟩ :: (x ++ (y ++ ⟨1, je, 0, p2⟩ :: z))) ++ rest = (⟨1, HO, 0, p1⟩ :: (x ++ (y ++ (⟨1, je, 0, p2⟩ :: (z ++ rest)))) : List yf) := by simp
     show ky (xo (k + 1)) (k + 1 + 1) d ((⟨1, HO, 0, p1⟩ :: (x ++ (y ++ ⟨1, je, 0, p2⟩ :: z))) ++ rest) = _;rw [e0];generalize x ++ (y ++ (⟨1, je, 0, p2⟩ :: (z ++ rest))) = Z at h1
     have e : ky (xo (k + 1)) (k + 1 + 1) d (⟨1, HO, 0, p1⟩ :: Z) = (Wl d (⟨1, HO, 0, p1⟩ :: Z)).bind fun _ ts => (xL (k + 1 + 1) (d + 1) ts.tail).bind fun c ts => (xo (k + 1) (d + 1) ts).bind fun t ts => (wi je ts).bind fun _ ts => (xo (k + 1) (d + 1) ts).bind fun e ts => .ok (.mk 8 0 aF [] c t e) ts := rfl;rw [e, GF hd, R.bind]
     show (xL (k + 1 + 1) (d + 1) Z).bind _ = _;rw [h1, R.bind, h2, R.bind, Nh, R.bind, h3, R.bind]
termination_by x => SizeOf.sizeOf x
decreasing_by
 all_goals
  have := List.sizeOf_lt_of_mem ‹y ∈ _›;simp only [zW.mk.sizeOf_spec];omega
theorem Ox (h : vi l d = some s) : Jg l d := QP fun x hx => by
 obtain ⟨u, hu⟩ := cj h x hx;exact Qz x d u hu
end Tp
namespace Tp
open Go Go.Eng Wd Kd
def Kf (c : zP) : List gy := if c.unit = true then [ur V7, VC c.cost, VC c.power, xh jZ, VC c.health] else [ur dI, VC c.cost]
def U2 (w : Bt) (l : List zW) : List gy := if l.length = 0 then [] else ur w :: xh gp :: (gP l ++ [xh jv])
def KQ (c : zP) : List gy := if c.apow = 0 /\ c.aheal = 0 then [] else [ur j0, VC c.apow, xh jZ, VC c.aheal, xh yg]
def JB (c : zP) : List gy := if c.shield = 0 then [] else [ur vm, VC c.shield, xh yg]
def ZV (c : zP) : List gy := ur fa :: ur c.name :: (Kf c ++ xh gp :: (U2 xu c.played ++ (U2 uj c.dead ++ (U2 uy c.dawn ++ (KQ c ++ (JB c ++ [xh jv]))))))
theorem Ym : Lay false [10] [] := fl zb
variable {n : Int}
theorem V3 (h : yN n = true) : 0 <= n /\ n <= 999 := of_decide_eq_true h
theorem jN (h : yN n = true) : Lay true (qO n) [VC n] := IV (V3 h).1 (V3 h).2
theorem Yo : Lay false [32, 123, 10] [xh gp] := ((xR.fm Qm).fm Ym).congr rfl rfl
variable {c : zP}
theorem Wp (h : ko c = true) : yN c.cost = true /\ yN c.power = true /\ yN c.health = true /\ yN c.shield = true /\ yN c.apow = true /\ yN c.aheal = true := by
 unfold ko at h;simp only [Bool.and_eq_true] at h;obtain ⟨⟨⟨⟨⟨h1, h2⟩, h3⟩, h4⟩, h5⟩, h6⟩ := h;exact ⟨h1, h2, h3, h4, h5, h6⟩
theorem Nt (h : ko c = true) : Lay false (fu c) (Kf c ++ [xh gp]) := by
 obtain ⟨h1, h2, h3, -, -, -⟩ := Wp h;unfold fu Kf;by_cases hu : c.unit = true
 ·rw [if_pos hu, if_pos hu];exact ((((((((xR.fm (wk (w := V7))).tm xR).fm (jN h1)).tm xR).fm (jN h2)).tm Ug).fm (jN h3)).tm Yo).congr rfl rfl
 ·rw [if_neg hu, if_neg hu];exact ((((xR.fm (wk (w := dI))).tm xR).fm (jN h1)).tm Yo).congr rfl rfl
theorem NH (c : zP) : ∃ x t, fu c = x :: t /\ RU (fu c) := by
 unfold fu
 split
 ·exact ⟨32, _, rfl, WN zb⟩
 ·exact ⟨32, _, rfl, WN zb⟩
variable {l : List zW} {s w : Bt}
theorem Qk (hw : Zx w = true) (h : uU w l = some s) : Lay false s (U2 w l) := by
 unfold uU at h;unfold U2
 split at h
 ·rename_i h0
  cases h;rw [if_pos h0];exact Lay.nil
 ·rename_i h0
  rw [if_neg h0];cases hb : vi l 0 with
  | none => rw [hb] at h; cases h
  | some t =>
    rw [hb] at h;cases h;have h1 : Lay false [32, 123] [xh gp] := (xR.fm Qm).congr rfl rfl;have h2 : Lay false [32, 125, 10] [xh jv] := ((xR.fm Ql).fm Ym).congr rfl rfl;exact ((((xR.fm (wk hw)).tm h1).fm (QQ (fun x _ d s h => QD x d s h) hb)).fm h2).congr rfl yA
theorem Nv (h : ko c = true) : Lay false (cl c) (KQ c) := by
 obtain ⟨-, -, -, -, h5, h6⟩ := Wp h;unfold cl KQ
 split
 ·exact Lay.nil
 ·have h2 : Lay false [59, 10] [xh yg] := (fp.fm Ym).congr rfl rfl;exact ((((((xR.fm (wk (w := j0))).tm xR).fm (jN h5)).tm Ug).fm (jN h6)).tm h2).congr rfl rfl
theorem Nr (h : ko c = true) : Lay false (jY c) (JB c) := by
 obtain ⟨-, -, -, h4, -, -⟩ := Wp h;unfold jY JB
 split
 ·exact Lay.nil
 ·have h2 : Lay false [59, 10] [xh yg] := (fp.fm Ym).congr rfl rfl;exact ((((xR.fm (wk (w := vm))).tm xR).fm (jN h4)).tm h2).congr rfl rfl
theorem IU : Lay false [125, 10] [xh jv] := (Ql.fm Ym).congr rfl rfl
theorem On (h : um c = some s) : Lay false s (ZV c) := by
 obtain ⟨hn, -, hm, -, a, b, e, h1, h2, h3, rfl⟩ := fD h;have g := ((((dT (w := fa) zb).fm (fk (qG hn))).app (Nt hm) (fun _ => NH c)).fm (((Qk zb h1).fm (Qk zb h2)).fm (Qk zb h3)));exact (((g.fm (Nv hm)).fm (Nr hm)).fm IU).congr rfl (by simp [ZV])
structure VP (σ : Type) where
 key : Bt
 K : List gy
 upd : σ -> σ
def IX {σ : Type} (l : List (VP σ)) : List gy := l.flatMap fun i => ur i.key :: i.K
variable {σ : Type}
theorem dK {keys : List Bt} {read : Bt -> σ -> List yf -> R σ} {parts : σ -> Nat} {k : Nat} : ∀ (its : List (VP σ)) (seen : List Bt) (c : σ) (ws rest : List yf) (N : Nat),
  (∀ i ∈ its, i.key ∈ keys /\ i.key ≠ jv /\ ∀ c ws rest, ws.map ju = i.K -> (ws ++ rest).length <= k -> read i.key c (ws ++ rest) = .ok (i.upd c) rest) -> (∀ i ∈ its, i.key ∉ seen) -> (its.map (·.key)).Nodup ->
  ws.map ju = IX its ++ [xh jv] -> (ws ++ rest).length < N -> (ws ++ rest).length <= k -> parts (its.foldl (fun c i => i.upd c) c) <= 200 ->
  wU keys read parts N seen c (ws ++ rest) = .ok (its.foldl (fun c i => i.upd c) c) rest
 | [], seen, c, ws, rest, N, _, _, _, hw, hN, _, hp => by
   obtain ⟨a, w1, rfl, g1⟩ := zB hw;obtain rfl := wJ g1;obtain ⟨i, rfl⟩ : ∃ i, N = i + 1 := ⟨N - 1, by omega⟩;show wU keys read parts (i + 1) seen c (⟨3, jv, 0, a⟩ :: rest) = _;have hp : parts c <= 200 := hp;rw [wU, if_pos (show isW jv (⟨3, jv, 0, a⟩ :: rest) = true from rfl), if_neg za]
   rfl
 | it :: r, seen, c, ws, rest, N, hr, hs, hnd, hw, hN, hk, hp => by
   have e1 : IX (it :: r) ++ [xh jv] = ur it.key :: (it.K ++ (IX r ++ [xh jv])) := by simp [IX]
   rw [e1] at hw;obtain ⟨a, w1, rfl, g1⟩ := zB hw;obtain ⟨u, v, rfl, hu, hv⟩ := vR g1;obtain ⟨i, rfl⟩ : ∃ i, N = i + 1 := ⟨N - 1, by omega⟩;simp only [List.cons_append, List.length_cons, List.append_assoc, List.length_append] at hN hk;have h0 := hr it (.head _);have h1 := h0.2.2 c u (v ++ rest) hu (by simp only [List.length_append]; omega);rw [List.map_cons, List.nodup_cons] at hnd
   show wU keys read parts (i + 1) seen c ((⟨1, it.key, 0, a⟩ :: (u ++ v)) ++ rest) = _;rw [List.cons_append, List.append_assoc, wU, if_neg (by rw [GS, decide_eq_false h0.2.1]; decide), if_pos ⟨rfl, h0.1⟩, if_neg (show ¬ (hd (⟨1, it.key, 0, a⟩ :: (u ++ (v ++ rest)))).text ∈ seen from hs it (.head _))];show (read it.key c (u ++ (v ++ rest))).bind _ = _;rw [h1, R.bind]
   refine dK r (seen ++ [it.key]) (it.upd c) v rest i (fun j hj => hr j (.tail _ hj)) (fun j hj hm => ?_) hnd.2 hv (by rw [List.length_append]; omega) (by rw [List.length_append]; omega) hp;rcases List.mem_append.1 hm with hm | hm
   ·exact hs j (.tail _ hj) hm
   ·rw [List.mem_singleton] at hm;exact hnd.1 (hm ▸ List.mem_map_of_mem hj)
def kZ {σ : Type} (b : Bool) (i : VP σ) : List (VP σ) := if b then [i] else []
theorem Tg (n a : Int) (ts : List yf) : xY (⟨2, [], n, a⟩ :: ts) = .ok n ts := by rw [xY, if_pos (show (hd (⟨2, [], n, a⟩ :: ts)).kind = 2 from rfl)]; rfl
def du (c : zP) : List (VP zP) :=
 kZ (decide (c.played.length ≠ 0)) ⟨xu, xh gp :: (gP c.played ++ [xh jv]), fun x => { x with played := c.played }⟩ ++
 (kZ (decide (c.dead.length ≠ 0)) ⟨uj, xh gp :: (gP c.dead ++ [xh jv]), fun x => { x with dead := c.dead }⟩ ++
 (kZ (decide (c.dawn.length ≠ 0)) ⟨uy, xh gp :: (gP c.dawn ++ [xh jv]), fun x => { x with dawn := c.dawn }⟩ ++
 (kZ (decide (¬ (c.apow = 0 /\ c.aheal = 0))) ⟨j0, [VC c.apow, xh jZ, VC c.aheal, xh yg], fun x => { x with apow := c.apow, aheal := c.aheal }⟩ ++
 kZ (decide (c.shield ≠ 0)) ⟨vm, [VC c.shield, xh yg], fun x => { x with shield := c.shield }⟩)))
theorem kT (b : Bool) (i : VP σ) : IX (kZ b i) = if b then ur i.key :: i.K else [] := by
 cases b with
 | true => simp [kZ, IX]
 | false => rfl
theorem fW (a b : List (VP σ)) : IX (a ++ b) = IX a ++ IX b := by simp [IX]
theorem Rr (c : zP) : U2 xu c.played ++ (U2 uj c.dead ++ (U2 uy c.dawn ++ (KQ c ++ (JB c ++ [xh jv])))) = IX (du c) ++ [xh jv] := by
 unfold du;rw [fW, fW, fW, fW, kT, kT, kT, kT, kT];unfold U2 KQ JB;simp only [List.append_assoc]
 congr 1
 ·by_cases h : c.played.length = 0 <;> simp [h]
 congr 1
 ·by_cases h : c.dead.length = 0 <;> simp [h]
 congr 1
 ·by_cases h : c.dawn.length = 0 <;> simp [h]
 congr 1
 ·by_cases h : c.apow = 0 /\ c.aheal = 0
  ·rw [if_pos h, decide_eq_false (fun hn => hn h)]; rfl
  ·rw [if_neg h, decide_eq_true h]; rfl
 congr 1
 ·by_cases h : c.shield = 0 <;> simp [h]
theorem jh (b : Bool) (i : VP σ) (x : σ) : (kZ b i).foldl (fun c i => i.upd c) x = if b then i.upd x else x := by cases b <;> rfl
def KK (c : zP) (a : Int) : zP := ⟨c.name, c.unit, c.cost, c.power, c.health, 0, 0, 0, [], [], [], a⟩
theorem W8 (c : zP) (a : Int) : (du c).foldl (fun c i => i.upd c) (KK c a) = { c with at_ := a } := by
 obtain ⟨name, unit, cost, power, health, shield, apow, aheal, played, dead, dawn, at_⟩ := c;have e1 : ∀ (l : List zW), ¬ l.length ≠ 0 -> l = [] := fun l h => List.eq_nil_of_length_eq_zero za
 have g1 : ∀ K, (kZ (decide (played.length ≠ 0)) (⟨xu, K, fun x => { x with played := played }⟩ : VP zP)).foldl (fun c i => i.upd c) ⟨name, unit, cost, power, health, 0, 0, 0, [], [], [], a⟩ = ⟨name, unit, cost, power, health, 0, 0, 0, played, [], [], a⟩ := fun K => by
  rw [jh];by_cases h : played.length ≠ 0
  ·rw [decide_eq_true h, if_pos rfl]
  ·rw [decide_eq_false h, if_neg zb, e1 _ h]
 have g2 : ∀ K, (kZ (decide (dead.length ≠ 0)) (⟨uj, K, fun x => { x with dead := dead }⟩ : VP zP)).foldl (fun c i => i.upd c) ⟨name, unit, cost, power, health, 0, 0, 0, played, [], [], a⟩ = ⟨name, unit, cost, power, health, 0, 0, 0, played, dead, [], a⟩ := fun K => by
  rw [jh];by_cases h : dead.length ≠ 0
  ·rw [decide_eq_true h, if_pos rfl]
  ·rw [decide_eq_false h, if_neg zb, e1 _ h]
 have g3 : ∀ K, (kZ (decide (dawn.length ≠ 0)) (⟨uy, K, fun x => { x with dawn := dawn }⟩ : VP zP)).foldl (fun c i => i.upd c) ⟨name, unit, cost, power, health, 0, 0, 0, played, dead, [], a⟩ = ⟨name, unit, cost, power, health, 0, 0, 0, played, dead, dawn, a⟩ := fun K => by
  rw [jh];by_cases h : dawn.length ≠ 0
  ·rw [decide_eq_true h, if_pos rfl]
  ·rw [decide_eq_false h, if_neg zb, e1 _ h]
 have g4 : ∀ K, (kZ (decide (¬ (apow = 0 /\ aheal = 0))) (⟨j0, K, fun x => { x with apow := apow, aheal := aheal }⟩ : VP zP)).foldl (fun c i => i.upd c) ⟨name, unit, cost, power, health, 0, 0, 0, played, dead, dawn, a⟩ = ⟨name, unit, cost, power, health, 0, apow, aheal, played, dead, dawn, a⟩ := fun K => by
  rw [jh];by_cases h : apow = 0 /\ aheal = 0
  ·rw [decide_eq_false (fun hn => hn h), if_neg zb, h.1, h.2]
  ·rw [decide_eq_true h, if_pos rfl]
 have g5 : ∀ K, (kZ (decide (shield ≠ 0)) (⟨vm, K, fun x => { x with shield := shield }⟩ : VP zP)).foldl (fun c i => i.upd c) ⟨name, unit, cost, power, health, 0, apow, aheal, played, dead, dawn, a⟩ = ⟨name, unit, cost, power, health, shield, apow, aheal, played, dead, dawn, a⟩ := fun K => by
  rw [jh];by_cases h : shield = 0
  ·rw [decide_eq_false (fun hn => hn h), if_neg zb, h]
  ·rw [decide_eq_true h, if_pos rfl]
 unfold du KK;dsimp only;rw [List.foldl_append, g1, List.foldl_append, g2, List.foldl_append, g3, List.foldl_append, g4, g5]
theorem kQ {b : Bool} {i j : VP σ} (h : j ∈ kZ b i) : b = true /\ j = i := by
 cases b with
 | true => exact ⟨rfl, List.mem_singleton.1 h⟩
 | false => cases h
theorem kR (b : Bool) (i : VP σ) : ((kZ b i).map (·.key)).Sublist [i.key] := by cases b <;> simp [kZ]
theorem KJ (c : zP) : ((du c).map (·.key)).Nodup := by
 have h : ((du c).map (·.key)).Sublist ([xu] ++ ([uj] ++ ([uy] ++ ([j0] ++ [vm])))) := by
  unfold du;rw [List.map_append, List.map_append, List.map_append, List.map_append];exact (kR _ _).append ((kR _ _).append ((kR _ _).append ((kR _ _).append (kR _ _))))
 exact h.nodup zb
variable {rest ws : List yf}
theorem X6 {n : Nat} (h : vi l 0 = some s) (hw : ws.map ju = xh gp :: (gP l ++ [xh jv])) (hn : (ws ++ rest).length < n) : xo n 0 (ws ++ rest) = .ok l rest := by
 obtain ⟨k, rfl⟩ : ∃ k, n = k + 1 := ⟨n - 1, by omega⟩;exact Ox h ws rest k hw za
theorem XC (h : uU w l = some s) (hl : l.length ≠ 0) : ∃ t, vi l 0 = some t := by
 unfold uU at h;rw [if_neg hl] at h;cases hb : vi l 0 with
 | none => rw [hb] at h; cases h
 | some t => exact ⟨t, rfl⟩
theorem Ls (h : um c = some s) {n : Nat} (a : Int) (hw : ws.map ju = (ZV c).tail) (hn : (ws ++ rest).length < n) : fd yD n a (ws ++ rest) = .ok { c with at_ := a } rest := by
 obtain ⟨hnm, hkind, hm, hwt, x, y, z, h1, h2, h3, -⟩ := fD h;have hc : (ZV c).tail = ur c.name :: (Kf c ++ xh gp :: (IX (du c) ++ [xh jv])) := by unfold ZV; rw [Rr]; rfl
 rw [hc] at hw;obtain ⟨p1, w1, rfl, g1⟩ := zB hw;obtain ⟨u, w2, rfl, hu, g2⟩ := vR g1;obtain ⟨p2, v, rfl, hv⟩ := zB g2;simp only [List.cons_append, List.length_cons, List.length_append] at hn;have e0 : (⟨1, c.name, 0, p1⟩ :: (u ++ ⟨3, gp, 0, p2⟩ :: v)) ++ rest = (⟨1, c.name, 0, p1⟩ :: (u ++ (⟨3, gp, 0, p2⟩ :: (v ++ rest))) : List yf) := by simp
 show fd yD n a ((⟨1, c.name, 0, p1⟩ :: (u ++ ⟨3, gp, 0, p2⟩ :: v)) ++ rest) = _;rw [e0, fd, Zv hnm, R.bind]
 have hhead : (if isW V7 (u ++ (⟨3, gp, 0, p2⟩ :: (v ++ rest))) then (xY (u ++ (⟨3, gp, 0, p2⟩ :: (v ++ rest))).tail).bind fun k ts => (xY ts).bind fun p ts => (wi jZ ts).bind fun _ ts => (xY ts).bind fun h ts => .ok (⟨c.name, true, k, p, h, 0, 0, 0, [], [], [], a⟩ : zP) ts
   else (wi dI (u ++ (⟨3, gp, 0, p2⟩ :: (v ++ rest)))).bind fun _ ts => (xY ts).bind fun k ts => .ok ⟨c.name, false, k, 0, 0, 0, 0, 0, [], [], [], a⟩ ts) = .ok (KK c a) (⟨3, gp, 0, p2⟩ :: (v ++ rest)) := by
  generalize (⟨3, gp, 0, p2⟩ :: (v ++ rest) : List yf) = Z;unfold Kf at hu;unfold KK;by_cases hun : c.unit = true
  ·rw [if_pos hun] at hu;obtain ⟨q1, u1, rfl, k1⟩ := zB hu;obtain ⟨q2, u2, rfl, k2⟩ := zB k1;obtain ⟨q3, u3, rfl, k3⟩ := zB k2;obtain ⟨q4, u4, rfl, k4⟩ := zB k3;obtain ⟨q5, u5, rfl, k5⟩ := zB k4;obtain rfl := wJ k5;rw [hun]
   rfl
  ·rw [if_neg hun] at hu;obtain ⟨q1, u1, rfl, k1⟩ := zB hu;obtain ⟨q2, u2, rfl, k2⟩ := zB k1;obtain rfl := wJ k2;have hun : c.unit = false := by cases h : c.unit <;> simp_all
   have hz : c.power = 0 /\ c.health = 0 := by
    unfold eN at hkind;rw [hun] at hkind
    simpa using hkind
   rw [hun, hz.1, hz.2]
   rfl
 rw [hhead, R.bind, kS, R.bind, dK (k := n - 1) (du c) [] (KK c a) v rest n ?_ (fun _ _ h => by cases h) (KJ c) hv (by rw [List.length_append]; omega) (by rw [List.length_append]; omega) (by rw [W8]; exact hwt), W8];intro i hi;unfold du at hi;rcases List.mem_append.1 hi with hi | hi
 ·obtain ⟨hb, rfl⟩ := kQ hi;obtain ⟨t, ht⟩ := XC h1 (of_decide_eq_true hb);refine ⟨show xu ∈ cg by decide, show xu ≠ jv by decide, fun x ws rest hw hl => ?_⟩;show (xo n 0 (ws ++ rest)).bind _ = _;rw [X6 ht hw za, R.bind]
 rcases List.mem_append.1 hi with hi | hi
 ·obtain ⟨hb, rfl⟩ := kQ hi;obtain ⟨t, ht⟩ := XC h2 (of_decide_eq_true hb);refine ⟨show uj ∈ cg by decide, show uj ≠ jv by decide, fun x ws rest hw hl => ?_⟩;show (xo n 0 (ws ++ rest)).bind _ = _;rw [X6 ht hw za, R.bind]
 rcases List.mem_append.1 hi with hi | hi
 ·obtain ⟨hb, rfl⟩ := kQ hi;obtain ⟨t, ht⟩ := XC h3 (of_decide_eq_true hb);refine ⟨show uy ∈ cg by decide, show uy ≠ jv by decide, fun x ws rest hw hl => ?_⟩;show (xo n 0 (ws ++ rest)).bind _ = _;rw [X6 ht hw za, R.bind]
 rcases List.mem_append.1 hi with hi | hi
 ·obtain ⟨hb, rfl⟩ := kQ hi;refine ⟨show j0 ∈ cg by decide, show j0 ≠ jv by decide, fun x ws rest hw hl => ?_⟩;obtain ⟨q1, u1, rfl, k1⟩ := zB hw;obtain ⟨q2, u2, rfl, k2⟩ := zB k1;obtain ⟨q3, u3, rfl, k3⟩ := zB k2;obtain ⟨q4, u4, rfl, k4⟩ := zB k3;obtain rfl := wJ k4
  rfl
 ·obtain ⟨hb, rfl⟩ := kQ hi;refine ⟨show vm ∈ cg by decide, show vm ≠ jv by decide, fun x ws rest hw hl => ?_⟩;obtain ⟨q1, u1, rfl, k1⟩ := zB hw;obtain ⟨q2, u2, rfl, k2⟩ := zB k1;obtain rfl := wJ k2
  rfl
end Tp
namespace Tp
open Go Go.Eng Wd Kd
def Zn (w : Bt) (n : Int) : List gy := if n = 0 then [] else [ur w, VC n, xh yg]
def ZE : List Bt -> List gy
 | [] => []
 | [x] => [ur x]
 | x :: y :: r => ur x :: xh y9 :: ZE (y :: r)
def dQ (w : Bt) (l : List Bt) : List gy := if l.length = 0 then [] else ur w :: (ZE l ++ [xh yg])
def VH (f : y6) : List gy := ur vY :: ur f.name :: xh gp :: (Zn ud f.least ++ (Zn jG f.most ++ (Zn vn f.copies ++ (dQ wP f.banned ++ (dQ vK f.single ++ [xh jv])))))
theorem Xb : Lay false [59, 10] [xh yg] := (fp.fm Ym).congr rfl rfl
variable {w : Bt}
theorem WE {n : Int} (hw : Zx w = true) (h : yN n = true) : Lay false (qY w n) (Zn w n) := by
 unfold qY Zn
 split
 ·exact Lay.nil
 ·exact ((((xR.fm (wk hw)).tm xR).fm (jN h)).tm Xb).congr rfl rfl
theorem J7 : ∀ {l : List Bt}, l ≠ [] -> (∀ s ∈ l, yL s = true) -> Lay true (Lib.join l [44, 32]) (ZE l)
 | [], h, _ => absurd rfl h
 | [x], _, h => by
   rw [Lib.join_one];exact fk (qG (h x (.head _)))
 | x :: y :: r, _, h => by
   have e : Lib.join (x :: y :: r) [44, 32] = x ++ [44, 32] ++ Lib.join (y :: r) [44, 32] := by
    unfold Lib.join
    simp [List.intercalate]
   rw [e];have h1 : Lay false [44, 32] [xh y9] := (Yn.fm xR).congr rfl rfl;exact (((fk (qG (h x (.head _)))).tm h1).fm (J7 yA fun s hs => h s (.tail _ hs))).congr rfl rfl
theorem Uh {l : List Bt} (hw : Zx w = true) (h : ∀ s ∈ l, yL s = true) : Lay false (qx w l) (dQ w l) := by
 unfold qx dQ
 split
 ·exact Lay.nil
 ·rename_i h0
  exact ((((xR.fm (wk hw)).tm xR).fm (J7 (fun e => h0 (by rw [e]; rfl)) h)).tm Xb).congr rfl yA
variable {f : y6} {s : Bt}
theorem dV (h : fw f = some s) : yL f.name = true /\ yN f.least = true /\ yN f.most = true /\ yN f.copies = true /\ (∀ s ∈ f.banned, yL s = true) /\ (∀ s ∈ f.single, yL s = true) /\ s = vY ++ vy ++ f.name ++ [32, 123, 10] ++ qY ud f.least ++ qY jG f.most ++ qY vn f.copies ++ qx wP f.banned ++ qx vK f.single ++ [125, 10] := by
 unfold fw at h
 split at h
 ·rename_i h0
  cases h;exact ⟨h0.1, h0.2.1, h0.2.2.1, h0.2.2.2.1, List.all_eq_true.1 h0.2.2.2.2.1, List.all_eq_true.1 h0.2.2.2.2.2, rfl⟩
 ·cases h
theorem P5 (h : fw f = some s) : Lay false s (VH f) := by
 obtain ⟨hn, h1, h2, h3, hb, hs, rfl⟩ := dV h
 exact (((((((((dT (w := vY) zb).fm (fk (qG hn))).tm Yo).fm (WE (w := ud) zb h1)).fm (WE (w := jG) zb h2)).fm (WE (w := vn) zb h3)).fm (Uh (w := wP) zb hb)).fm (Uh (w := vK) zb hs)).fm IU).congr rfl (by simp [VH])
theorem Wx : ∀ {l : List Bt}, l ≠ [] -> (∀ s ∈ l, yL s = true) -> ∀ (acc : List Bt) (ws rest : List yf) (N : Nat), ws.map ju = ZE l -> isW y9 rest = false -> (ws ++ rest).length < N -> uH N acc (ws ++ rest) = .ok (acc ++ l) rest
 | [], h, _, _, _, _, _, _, _, _ => absurd rfl h
 | [x], _, h, acc, ws, rest, N, hw, hr, hN => by
   obtain ⟨a, w1, rfl, g1⟩ := zB hw;obtain rfl := wJ g1;obtain ⟨i, rfl⟩ : ∃ i, N = i + 1 := ⟨N - 1, by omega⟩;show uH (i + 1) acc (⟨1, x, 0, a⟩ :: rest) = _;rw [uH, Zv (h x (.head _)), R.bind, if_neg (by rw [hr]; decide)]
 | x :: y :: r, _, h, acc, ws, rest, N, hw, hr, hN => by
   obtain ⟨a, w1, rfl, g1⟩ := zB hw;obtain ⟨b, w2, rfl, g2⟩ := zB g1;obtain ⟨i, rfl⟩ : ∃ i, N = i + 1 := ⟨N - 1, by omega⟩;simp only [List.cons_append, List.length_cons] at hN;show uH (i + 1) acc (⟨1, x, 0, a⟩ :: ⟨3, y9, 0, b⟩ :: (w2 ++ rest)) = _;rw [uH, Zv (h x (.head _)), R.bind, if_pos (show isW y9 (⟨3, y9, 0, b⟩ :: (w2 ++ rest)) = true from rfl)]
   show uH i (acc ++ [x]) (w2 ++ rest) = _;rw [Wx (l := y :: r) yA (fun s hs => h s (.tail _ hs)) (acc ++ [x]) w2 rest i g2 hr za, List.append_assoc]
   rfl
def VI (f : y6) : List (VP y6) :=
 kZ (decide (f.least ≠ 0)) ⟨ud, [VC f.least, xh yg], fun x => { x with least := f.least }⟩ ++
 (kZ (decide (f.most ≠ 0)) ⟨jG, [VC f.most, xh yg], fun x => { x with most := f.most }⟩ ++
 (kZ (decide (f.copies ≠ 0)) ⟨vn, [VC f.copies, xh yg], fun x => { x with copies := f.copies }⟩ ++
 (kZ (decide (f.banned.length ≠ 0)) ⟨wP, ZE f.banned ++ [xh yg], fun x => { x with banned := f.banned }⟩ ++
 kZ (decide (f.single.length ≠ 0)) ⟨vK, ZE f.single ++ [xh yg], fun x => { x with single := f.single }⟩)))
theorem TZ (f : y6) : Zn ud f.least ++ (Zn jG f.most ++ (Zn vn f.copies ++ (dQ wP f.banned ++ (dQ vK f.single ++ [xh jv])))) = IX (VI f) ++ [xh jv] := by
 unfold VI;rw [fW, fW, fW, fW, kT, kT, kT, kT, kT];unfold Zn dQ;simp only [List.append_assoc]
 congr 1
 ·by_cases h : f.least = 0 <;> simp [h]
 congr 1
 ·by_cases h : f.most = 0 <;> simp [h]
 congr 1
 ·by_cases h : f.copies = 0 <;> simp [h]
 congr 1
 ·by_cases h : f.banned.length = 0
  ·rw [if_pos h, decide_eq_false (fun hn => hn h)]; rfl
  ·rw [if_neg h, decide_eq_true h]; rfl
 congr 1
 ·by_cases h : f.single.length = 0
  ·rw [if_pos h, decide_eq_false (fun hn => hn h)]; rfl
  ·rw [if_neg h, decide_eq_true h]; rfl
theorem H9 (f : y6) (a : Int) : (VI f).foldl (fun c i => i.upd c) ⟨f.name, 0, 0, 0, [], [], a⟩ = { f with at_ := a } := by
 obtain ⟨name, least, most, copies, banned, single, at_⟩ := f;have e1 : ∀ (l : List Bt), ¬ l.length ≠ 0 -> l = [] := fun l h => List.eq_nil_of_length_eq_zero za
 have g1 : ∀ K, (kZ (decide (least ≠ 0)) (⟨ud, K, fun x => { x with least := least }⟩ : VP y6)).foldl (fun c i => i.upd c) ⟨name, 0, 0, 0, [], [], a⟩ = ⟨name, least, 0, 0, [], [], a⟩ := fun K => by
  rw [jh];by_cases h : least = 0
  ·rw [decide_eq_false (fun hn => hn h), if_neg zb, h]
  ·rw [decide_eq_true h, if_pos rfl]
 have g2 : ∀ K, (kZ (decide (most ≠ 0)) (⟨jG, K, fun x => { x with most := most }⟩ : VP y6)).foldl (fun c i => i.upd c) ⟨name, least, 0, 0, [], [], a⟩ = ⟨name, least, most, 0, [], [], a⟩ := fun K => by
  rw [jh];by_cases h : most = 0
  ·rw [decide_eq_false (fun hn => hn h), if_neg zb, h]
  ·rw [decide_eq_true h, if_pos rfl]
 have g3 : ∀ K, (kZ (decide (copies ≠ 0)) (⟨vn, K, fun x => { x with copies := copies }⟩ : VP y6)).foldl (fun c i => i.upd c) ⟨name, least, most, 0, [], [], a⟩ = ⟨name, least, most, copies, [], [], a⟩ := fun K => by
  rw [jh];by_cases h : copies = 0
  ·rw [decide_eq_false (fun hn => hn h), if_neg zb, h]
  ·rw [decide_eq_true h, if_pos rfl]
 have g4 : ∀ K, (kZ (decide (banned.length ≠ 0)) (⟨wP, K, fun x => { x with banned := banned }⟩ : VP y6)).foldl (fun c i => i.upd c) ⟨name, least, most, copies, [], [], a⟩ = ⟨name, least, most, copies, banned, [], a⟩ := fun K => by
  rw [jh];by_cases h : banned.length ≠ 0
  ·rw [decide_eq_true h, if_pos rfl]
  ·rw [decide_eq_false h, if_neg zb, e1 _ h]
 have g5 : ∀ K, (kZ (decide (single.length ≠ 0)) (⟨vK, K, fun x => { x with single := single }⟩ : VP y6)).foldl (fun c i => i.upd c) ⟨name, least, most, copies, banned, [], a⟩ = ⟨name, least, most, copies, banned, single, a⟩ := fun K => by
  rw [jh];by_cases h : single.length ≠ 0
  ·rw [decide_eq_true h, if_pos rfl]
  ·rw [decide_eq_false h, if_neg zb, e1 _ h]
 unfold VI;dsimp only;rw [List.foldl_append, g1, List.foldl_append, g2, List.foldl_append, g3, List.foldl_append, g4, g5]
theorem GU (f : y6) : ((VI f).map (·.key)).Nodup := by
 have h : ((VI f).map (·.key)).Sublist ([ud] ++ ([jG] ++ ([vn] ++ ([wP] ++ [vK])))) := by
  unfold VI;rw [List.map_append, List.map_append, List.map_append, List.map_append];exact (kR _ _).append ((kR _ _).append ((kR _ _).append ((kR _ _).append (kR _ _))))
 exact h.nodup zb
theorem NS (h : fw f = some s) {ws rest : List yf} {n : Nat} (a : Int) (hw : ws.map ju = (VH f).tail) (hn : (ws ++ rest).length < n) : Yf n a (ws ++ rest) = .ok { f with at_ := a } rest := by
 obtain ⟨hnm, -, -, -, hb, hs, -⟩ := dV h;have hc : (VH f).tail = ur f.name :: xh gp :: (IX (VI f) ++ [xh jv]) := by unfold VH; rw [TZ]; rfl
 rw [hc] at hw;obtain ⟨p1, w1, rfl, g1⟩ := zB hw;obtain ⟨p2, v, rfl, hv⟩ := zB g1;simp only [List.cons_append, List.length_cons] at hn;show Yf n a (⟨1, f.name, 0, p1⟩ :: ⟨3, gp, 0, p2⟩ :: (v ++ rest)) = _
 have hnum : ∀ (x : y6) (k : Int) (upd : Int -> y6) (ws rest : List yf), ws.map ju = [VC k, xh yg] -> ((xY (ws ++ rest)).bind fun a ts => (wi yg ts).bind fun _ ts => .ok (upd a) ts : R y6) = .ok (upd k) rest := by
  intro x k upd ws rest hw;obtain ⟨q1, u1, rfl, k1⟩ := zB hw;obtain ⟨q2, u2, rfl, k2⟩ := zB k1;obtain rfl := wJ k2;show (xY (⟨2, [], k, q1⟩ :: ⟨3, yg, 0, q2⟩ :: rest)).bind _ = _;rw [Tg, R.bind, kS, R.bind]
 have hnms : ∀ (l : List Bt) (upd : List Bt -> y6) (ws rest : List yf), l.length ≠ 0 -> (∀ s ∈ l, yL s = true) -> ws.map ju = ZE l ++ [xh yg] -> (ws ++ rest).length < n -> ((uH n [] (ws ++ rest)).bind fun l ts => (wi yg ts).bind fun _ ts => .ok (upd l) ts : R y6) = .ok (upd l) rest := by
  intro l upd ws rest hl0 hl hw hlen;obtain ⟨u, w2, rfl, hu, g2⟩ := vR hw;obtain ⟨q, w3, rfl, g3⟩ := zB g2;obtain rfl := wJ g3;rw [List.append_assoc] at hlen ⊢;have h1 := Wx (l := l) (fun e => hl0 (by rw [e]; rfl)) hl [] u (⟨3, yg, 0, q⟩ :: rest) n hu rfl hlen;show (uH n [] (u ++ (⟨3, yg, 0, q⟩ :: rest))).bind _ = _;rw [h1, R.bind, kS, R.bind]
  rfl
 rw [Yf, Zv hnm, R.bind, kS, R.bind, dK (k := n - 1) (VI f) [] ⟨f.name, 0, 0, 0, [], [], a⟩ v rest n ?_ (fun _ _ h => by cases h) (GU f) hv za za za, H9];intro i hi;unfold VI at hi;rcases List.mem_append.1 hi with hi | hi
 ·obtain ⟨hb, rfl⟩ := kQ hi;exact ⟨show ud ∈ jo by decide, show ud ≠ jv by decide, fun x ws rest hw hl => hnum x _ (fun a => { x with least := a }) ws rest hw⟩
 rcases List.mem_append.1 hi with hi | hi
 ·obtain ⟨hb, rfl⟩ := kQ hi;exact ⟨show jG ∈ jo by decide, show jG ≠ jv by decide, fun x ws rest hw hl => hnum x _ (fun a => { x with most := a }) ws rest hw⟩
 rcases List.mem_append.1 hi with hi | hi
 ·obtain ⟨hb, rfl⟩ := kQ hi;exact ⟨show vn ∈ jo by decide, show vn ≠ jv by decide, fun x ws rest hw hl => hnum x _ (fun a => { x with copies := a }) ws rest hw⟩
 rcases List.mem_append.1 hi with hi | hi
 ·obtain ⟨hb2, rfl⟩ := kQ hi;exact ⟨show wP ∈ jo by decide, show wP ≠ jv by decide, fun x ws rest hw hl => hnms f.banned (fun l => { x with banned := l }) ws rest (of_decide_eq_true hb2) hb hw za⟩
 ·obtain ⟨hb2, rfl⟩ := kQ hi;exact ⟨show vK ∈ jo by decide, show vK ≠ jv by decide, fun x ws rest hw hl => hnms f.single (fun l => { x with single := l }) ws rest (of_decide_eq_true hb2) hs hw za⟩
def X3 (c : zP) : zP := { c with at_ := 0 }
def V2 (f : y6) : y6 := { f with at_ := 0 }
theorem He : ∀ {l : List (Option Bt × List gy)} {s : Bt}, (∀ p ∈ l, ∀ t, p.1 = some t -> Lay false t p.2) -> jV (l.map (·.1)) = some s -> Lay false s (l.flatMap (·.2))
 | [], s, _, h => by
   cases h;exact Lay.nil
 | p :: r, s, hl, h => by
   rw [List.map_cons, jV] at h;cases hp : p.1 with
   | none => rw [hp] at h; cases h
   | some u =>
     rw [hp] at h;cases hr : jV (r.map (·.1)) with
     | none => rw [hr] at h; cases h
     | some v =>
       rw [hr] at h;cases h;rw [List.flatMap_cons];exact (hl p (.head _) u hp).fm (He (fun q hq => hl q (.tail _ hq)) hr)
theorem Hf : ∀ {l : List (Option Bt)} {s : Bt}, jV l = some s -> ∀ x ∈ l, ∃ t, x = some t
 | [], _, _, _, hx => by cases hx
 | y :: r, s, h, x, hx => by
   rw [jV] at h;cases hp : y with
   | none => rw [hp] at h; cases h
   | some u =>
     rw [hp] at h;cases hr : jV r with
     | none => rw [hr] at h; cases h
     | some v =>
       rcases List.mem_cons.1 hx with rfl | hx
       ·exact ⟨u, hp⟩
       ·exact Hf hr x hx
theorem Ul {n0 : Nat} {e : Int} : ∀ (fs acc : List y6) (cs : List zP) (ws : List yf) (N : Nat), (∀ f ∈ fs, ∃ t, fw f = some t) -> ws.map ju = fs.flatMap VH -> acc.length + fs.length <= 240 -> (ws ++ [(⟨0, [], 0, e⟩ : yf)]).length < N -> (ws ++ [(⟨0, [], 0, e⟩ : yf)]).length <= n0 ->
  ∃ fs', jJ yD n0 N cs acc (ws ++ [⟨0, [], 0, e⟩]) = .ok ⟨cs, acc ++ fs'⟩ [⟨0, [], 0, e⟩] /\ fs'.map V2 = fs.map V2
 | [], acc, cs, ws, N, _, hw, _, hN, _ => by
   obtain rfl := wJ hw;obtain ⟨i, rfl⟩ : ∃ i, N = i + 1 := ⟨N - 1, by omega⟩;refine ⟨[], ?_, rfl⟩;show jJ yD n0 (i + 1) cs acc [⟨0, [], 0, e⟩] = _;rw [jJ, if_pos (show (hd [(⟨0, [], 0, e⟩ : yf)]).kind = 0 from rfl), List.append_nil]
 | f :: r, acc, cs, ws, N, hf, hw, hl, hN, h0 => by
   rw [List.flatMap_cons] at hw;obtain ⟨u, v, rfl, hu, hv⟩ := vR hw;obtain ⟨t, ht⟩ := hf f (.head _);have hu0 : u.map ju = ur vY :: (VH f).tail := hu;obtain ⟨a, u', rfl, hu'⟩ := zB hu0;obtain ⟨i, rfl⟩ : ∃ i, N = i + 1 := ⟨N - 1, by omega⟩;rw [List.append_assoc, List.cons_append, List.length_cons] at hN h0
   have h1 := NS ht (rest := v ++ [⟨0, [], 0, e⟩]) (n := n0) a hu' za;rw [List.length_append] at hN h0;obtain ⟨fs', e2, e3⟩ := Ul (n0 := n0) (e := e) r (acc ++ [{ f with at_ := a }]) cs v i (fun g hg => hf g (.tail _ hg)) hv (by simp only [List.length_append, List.length_cons, List.length_nil] at hl ⊢; omega) za za
   refine ⟨{ f with at_ := a } :: fs', ?_, by rw [List.map_cons, List.map_cons, e3]; rfl⟩;rw [List.append_assoc];show jJ yD n0 (i + 1) cs acc (⟨1, vY, 0, a⟩ :: (u' ++ (v ++ [⟨0, [], 0, e⟩]))) = _;simp only [List.length_cons] at hl
   rw [jJ, if_neg (show ¬ (hd (⟨1, vY, 0, a⟩ :: (u' ++ (v ++ [⟨0, [], 0, e⟩])))).kind = 0 from fun h => absurd h (show ¬ (1 : Int) = 0 by decide)), if_neg (fun h => absurd h.1 (show ¬ isW fa (⟨1, vY, 0, a⟩ :: (u' ++ (v ++ [⟨0, [], 0, e⟩]))) = true from fun h => by cases h)),
    if_pos (show isW vY (⟨1, vY, 0, a⟩ :: (u' ++ (v ++ [⟨0, [], 0, e⟩]))) = true from rfl), if_neg za]
   show (Yf n0 a (u' ++ (v ++ [⟨0, [], 0, e⟩]))).bind _ = _;rw [h1, R.bind, e2, List.append_assoc]
   rfl
theorem W6 {n0 : Nat} {e : Int} : ∀ (cs acc : List zP) (fs : List y6) (ws : List yf) (N : Nat), (∀ c ∈ cs, ∃ t, um c = some t) -> (∀ f ∈ fs, ∃ t, fw f = some t) -> ws.map ju = cs.flatMap ZV ++ fs.flatMap VH -> acc.length + cs.length <= 240 -> fs.length <= 240 -> (ws ++ [(⟨0, [], 0, e⟩ : yf)]).length < N -> (ws ++ [(⟨0, [], 0, e⟩ : yf)]).length <= n0 ->
  ∃ cs' fs', jJ yD n0 N acc [] (ws ++ [⟨0, [], 0, e⟩]) = .ok ⟨acc ++ cs', fs'⟩ [⟨0, [], 0, e⟩] /\ cs'.map X3 = cs.map X3 /\ fs'.map V2 = fs.map V2
 | [], acc, fs, ws, N, _, hf, hw, _, hl, hN, h0 => by
   obtain ⟨fs', h1, h2⟩ := Ul (n0 := n0) (e := e) fs [] acc ws N hf hw (by simpa using hl) hN h0;exact ⟨[], fs', by rw [h1, List.append_nil]; rfl, rfl, h2⟩
 | c :: r, acc, fs, ws, N, hc, hf, hw, hl, hl2, hN, h0 => by
   rw [List.flatMap_cons, List.append_assoc] at hw;obtain ⟨u, v, rfl, hu, hv⟩ := vR hw;obtain ⟨t, ht⟩ := hc c (.head _);have hu0 : u.map ju = ur fa :: (ZV c).tail := hu;obtain ⟨a, u', rfl, hu'⟩ := zB hu0;obtain ⟨i, rfl⟩ : ∃ i, N = i + 1 := ⟨N - 1, by omega⟩;rw [List.append_assoc, List.cons_append, List.length_cons] at hN h0
   have h1 := Ls ht (rest := v ++ [⟨0, [], 0, e⟩]) (n := n0) a hu' za;rw [List.length_append] at hN h0;obtain ⟨cs', fs', e2, e3, e4⟩ := W6 (n0 := n0) (e := e) r (acc ++ [{ c with at_ := a }]) fs v i (fun g hg => hc g (.tail _ hg)) hf hv (by simp only [List.length_append, List.length_cons, List.length_nil] at hl ⊢; omega) hl2 za za
   refine ⟨{ c with at_ := a } :: cs', fs', ?_, by rw [List.map_cons, List.map_cons, e3]; rfl, e4⟩;rw [List.append_assoc];show jJ yD n0 (i + 1) acc [] (⟨1, fa, 0, a⟩ :: (u' ++ (v ++ [⟨0, [], 0, e⟩]))) = _;simp only [List.length_cons] at hl
   rw [jJ, if_neg (show ¬ (hd (⟨1, fa, 0, a⟩ :: (u' ++ (v ++ [⟨0, [], 0, e⟩])))).kind = 0 from fun h => absurd h (show ¬ (1 : Int) = 0 by decide)), if_pos ⟨rfl, rfl⟩, if_neg za];show (fd yD n0 a (u' ++ (v ++ [⟨0, [], 0, e⟩]))).bind _ = _;rw [h1, R.bind, e2, List.append_assoc]
   rfl
theorem Lx {b : ew} (h : gF b = some s) (hl : s.length <= 65536) : ∃ ws y ts, gN s = .ok ws /\ jJ yD ws.length (ws.length + 1) [] [] ws = .ok y ts /\ y.cards.map X3 = b.cards.map X3 /\ y.fmts.map V2 = b.fmts.map V2 := by
 unfold gF at h
 split at h
 ·rename_i h240
  have hall := Hf h;have hc : ∀ c ∈ b.cards, ∃ t, um c = some t := fun c hc => hall _ (List.mem_append.2 (.inl (List.mem_map_of_mem hc)));have hf : ∀ f ∈ b.fmts, ∃ t, fw f = some t := fun f hf => hall _ (List.mem_append.2 (.inr (List.mem_map_of_mem hf)))
  have hlay : Lay false s (b.cards.flatMap ZV ++ b.fmts.flatMap VH) := by
   have h1 : jV ((b.cards.map (fun c => (um c, ZV c)) ++ b.fmts.map (fun f => (fw f, VH f))).map (·.1)) = some s := by
    rw [List.map_append, List.map_map, List.map_map];exact h
   refine (He (fun p hp t ht => ?_) h1).congr rfl (by rw [List.flatMap_append, List.flatMap_map, List.flatMap_map]);rcases List.mem_append.1 hp with hp | hp
   ·obtain ⟨c, -, rfl⟩ := List.mem_map.1 hp;exact On ht
   ·obtain ⟨f, -, rfl⟩ := List.mem_map.1 hp;exact P5 ht
  obtain ⟨ws, hw, hgo⟩ := hlay s 0 [] (by rw [List.drop_zero, List.append_nil]) (fun e => by cases e)
  have hcut : gN s = .ok (ws ++ [⟨0, [], 0, s.length⟩]) := by
   unfold gN;rw [if_neg za, hgo [], Nat.zero_add, Qp (Nat.lt_irrefl _)]
   rfl
  obtain ⟨cs', fs', e1, e2, e3⟩ := W6 (e := s.length) (n0 := (ws ++ [(⟨0, [], 0, (s.length : Int)⟩ : yf)]).length) b.cards [] b.fmts ws ((ws ++ [(⟨0, [], 0, (s.length : Int)⟩ : yf)]).length + 1) hc hf hw (by simpa using h240.1) h240.2 (Nat.lt_succ_self _) (Nat.le_refl _);exact ⟨_, ⟨[] ++ cs', fs'⟩, _, hcut, e1, e2, e3⟩
 ·cases h
end Tp
end Go.Proofs.YtgohljjedlpccaaGreatDoor
