/- Parts of the proof: contracts of functions of the program, and plain lemmas. No condition. -/
import Derived.Test.YtgohljjedlpccaaGreatDoorFacts
import Derived.Test.YtgohljjedlpccaaGreatDoorEng2
import Derived.Shelf.Strings.OnBuilder
import Derived.Shelf.Strconv.Itoa3
import Derived.Test.YtgohljjedlpccaaGreatDoorProg
import Derived.Lib.ItoaLen
set_option maxHeartbeats 64000000
set_option maxRecDepth 100000
namespace Go.Proofs.YtgohljjedlpccaaGreatDoor
open Go.Eng
section
open Wd Tp Kd
structure RV where
 op : Int
 who : Int
 n : Vj
 name : Bt
 c : dA
 T : Oa
 t : Nat
 tc : Nat
 E : Oa
 e : Nat
 ec : Nat
abbrev RV.v (q : RV) : Lv := [.int .i8 q.op, .int .i8 q.who, .int .i8 q.n.op, .int .i64 q.n.n, .int .i8 q.n.who, .slice q.n.K q.n.k q.n.kc, .string (bs q.name), .int .i8 q.c.op, .int .i8 q.c.who, .string (bs q.c.name), .slice q.c.N q.c.n q.c.nc, .slice q.c.K q.c.k q.c.kc, .slice q.T q.t q.tc, .slice q.E q.e q.ec]
abbrev Cc : zW -> Value -> List yb -> Prop := fun x v Es => ∃ (q : RV) (e : yb), v = .agg q.v.toArray /\ Es = [e] /\ ∀ ns, e.inv ns -> un ns q.v x
abbrev Ex : List zW -> Value -> List yb -> Prop := fun l v Es => ∃ (K : Oa) (kc : Nat) (e : yb), v = .slice K l.length kc /\ Es = [e] /\ ∀ ns, e.inv ns -> xV ns K l.length l
theorem Rg (m : Mp) : yP m [.int .i8 0, .int .i8 0, .string (bs []), .slice none 0 0, .slice none 0 0] UB :=
 .mk (vs := []) (us := []) ⟨by decide, by decide⟩ ⟨by decide, by decide⟩ zb rfl zb (Rd.nil _ _) rfl (fun i h => by cases h) rfl zb (Rd.nil _ _) rfl fun i h => by cases h
theorem gc {m : Mp} {op who : Int} {q : Vj} {x : zY} {name : Bt} (ho : Gd op) (hw : Gd who) (hx : xr m q.v x) (hn : name.length <= maxLen) :
  un m [.int .i8 op, .int .i8 who, .int .i8 q.op, .int .i64 q.n, .int .i8 q.who, .slice q.K q.k q.kc, .string (bs name), .int .i8 0, .int .i8 0, .string (bs []), .slice none 0 0, .slice none 0 0, .slice none 0 0, .slice none 0 0] (qm op who x name) :=
 .mk (ns := q.v) (cs := [.int .i8 0, .int .i8 0, .string (bs []), .slice none 0 0, .slice none 0 0]) (vs := []) (us := []) ho hw hx hn (Rg m) rfl zb (Rd.nil _ _) rfl (fun i h => by cases h) rfl zb (Rd.nil _ _) rfl fun i h => by cases h
theorem Ey {m : Mp} {q : dA} {x : zI} {t e : List zW} {T E : Oa} {tc ec : Nat} (hx : yP m q.v x) (ht : xV m T t.length t) (he : xV m E e.length e) :
  un m [.int .i8 8, .int .i8 0, .int .i8 0, .int .i64 0, .int .i8 0, .slice none 0 0, .string (bs []), .int .i8 q.op, .int .i8 q.who, .string (bs q.name), .slice q.N q.n q.nc, .slice q.K q.k q.kc, .slice T t.length tc, .slice E e.length ec] (.mk 8 0 aF [] x t e) := by
 obtain ⟨-, h2, vs, h3, h4, h5⟩ := ht;obtain ⟨-, g2, us, g3, g4, g5⟩ := he;exact .mk (ns := [.int .i8 0, .int .i64 0, .int .i8 0, .slice none 0 0]) (cs := q.v) (vs := vs) (us := us) ⟨by decide, by decide⟩ ⟨by decide, by decide⟩ (qv (op := 0) ⟨by decide, by decide⟩) zb hx rfl h2 h3 h4 h5 rfl g2 g3 g4 g5
def DF (m : Mp) (b : Nat) (A : Oa) (c : Nat) (ws : List yf) (blk : Nat -> List yf -> R (List zW)) (k : Nat) : Prop :=
 ∀ m', Le m m' -> ∀ (at_ d p : Nat) (ts : List yf), jT ws at_ ts -> d <= 8 -> p + ts.length <= 4611686018427000000 -> ts.length < k -> UL 82 [zS b] m' b A c ws at_ d p (blk d ts) yM Ex
variable {m : Mp} {b c at_ d p : Nat} {A : Oa} {ws ts : List yf}
variable {blk : Nat -> List yf -> R (List zW)} {k : Nat}
theorem DF.mono {m m' : Mp} (h : DF m b A c ws blk k) (hl : Le m m') : DF m' b A c ws blk k := fun m2 h2 => h m2 (hl.trans h2)
theorem N0 {n : Nat} (hT : xU m) (hw : eu m A ws) (hcap : ws.length <= c) (hp : jT ws at_ ts) (hd8 : d <= 8) (hb : p + ts.length <= 4611686018427000000) (hk0 : ts.length < k + 1) (hkn : k < n) (hbe : ∀ d ts, ts.length < k -> Tp.Ends (blk d ts) yM ts.length) (hblk : DF m b A c ws blk k) : UL 114 [zS b] m b A c ws at_ d p (ky blk n d ts) vA Cc := by
 generalize hF : ky blk n d ts = F;unfold ky at hF;have hsm := hp.small;have hlt := hp.lt;have hlen := hp.len;refine ym [.cell 2 90] Tryz.func114 rfl rfl rfl ?_;refine tr 2 ?_;refine Al 7 qn fun b1 => ?_;refine Lb 0 yl .h1 ?_;refine Pa 2 ?_;refine Sr 7 fB .h1 .h3 ?_;refine C1 ge rfl .h1 (fun m' hm he => wS (s := Zk) (hw.mono hm) hp (qA _ rfl) zb) ?_
 rintro _ _ (⟨hk, hp1, rfl, rfl⟩ | ⟨hk, rfl, rfl⟩)
 ·have hl1 := yG hk;rw [if_pos hk] at hF;refine vr 7 ?_;refine Cp SA rfl .k0 (fun m' hm he => Mm (hw.mono hm) hp1) ?_ ?_
  ·rintro _ _ ⟨e', a', h1, rfl⟩;rw [h1] at hF;exact pn ⟨e', a', hF.symm, rfl⟩
  rintro _ _ ⟨w, ts2, at2, _, h1, hp2, ⟨rfl, rfl⟩, rfl⟩;rw [h1] at hF;dsimp only [R.bind] at hF;have hl2 : 1 + ts2.length <= ts.tail.length := (Ze (ts := ts.tail)).2 _ _ h1;have hw8 := Mk h1;clear h1;refine vr 1 ?_;refine Sr 1 qy .h1 .here ?_;refine Sr 4 qy .h1 .h1 ?_
  refine Cp aW rfl .k0 (fun m' hm he => dF n (hw.mono hm) m' (Le.refl _) at2 d (p + 1) ts2 hp2 hd8 za za) ?_ ?_
  ·rintro _ _ ⟨e', a', h1, rfl⟩;rw [h1] at hF;exact pn ⟨e', a', hF.symm, rfl⟩
  rintro _ _ ⟨x, ts3, at3, _, h1, hp3, ⟨q, e, rfl, rfl, hx⟩, rfl⟩;rw [h1] at hF;dsimp only [R.bind] at hF;have hl3 := (uo n d ts2 za).2 _ _ h1;clear h1;unfold v6 at hF;refine vr 1 ?_;refine zg (yu zT rfl rfl rfl .h2 (.there (.there (.cons (.cons (.cons (.cons .nil)))))) rfl ?_) rfl;refine vr 6 ?_;refine Bs 0 xH fun b2 => ?_
  refine Cp uK rfl .k1 (fun m' hm he => xF (s := yg) (hw.mono hm) (Rd.blk (he _ (.head _))) (qA _ rfl) zb hp3) ?_ ?_
  ·rintro _ _ ⟨e', a', h1, rfl⟩;rw [h1] at hF;exact pn ⟨e', a', hF.symm, rfl⟩
  rintro _ _ ⟨_, tsz, atz, _, h1, hpz, ⟨rfl, rfl⟩, rfl⟩;rw [h1] at hF;dsimp only [R.bind] at hF;have hlz : 1 + tsz.length <= ts3.length := (zK (s := yg) (ts := ts3)).2 _ _ h1;clear h1;refine vr 4 ?_;refine Lc 0 wF .h3 ?_;refine Sg 3 wF .h3 ?_
  exact yp [_] ⟨⟨b1, _, _, _, rfl, .h3, .inr ⟨rfl, rfl⟩⟩, trivial⟩ _ (.cons .here .p1) ⟨_, tsz, atz, _, hF.symm, hpz, ⟨⟨0, w, q, [], ⟨0, 0, [], none, 0, 0, none, 0, 0⟩, none, 0, 0, none, 0, 0⟩, e, rfl, rfl, fun ns h => gc (op := 0) (who := w) (name := []) ⟨by decide, by decide⟩ hw8 (hx ns h) zb⟩, by show [rd b A c ws atz d (p + 1 + zV x), e] = [rd b A c ws atz d (p + vA (qm 0 w x [])), e]; rw [cY _ _ _ _ zb, if_pos zb, Nat.add_assoc]⟩
 rw [if_neg (by rw [hk]; decide)] at hF;refine vr 7 ?_;refine C1 ge rfl .here (fun m' hm he => wS (s := Zj) (hw.mono hm) hp (qA _ rfl) zb) ?_;rintro _ _ (⟨hk, hp1, rfl, rfl⟩ | ⟨hk, rfl, rfl⟩)
 ·have hl1 := yG hk;rw [if_pos hk] at hF;refine vr 7 ?_;refine Cp SA rfl .k0 (fun m' hm he => Mm (hw.mono hm) hp1) ?_ ?_
  ·rintro _ _ ⟨e', a', h1, rfl⟩;rw [h1] at hF;exact pn ⟨e', a', hF.symm, rfl⟩
  rintro _ _ ⟨w, ts2, at2, _, h1, hp2, ⟨rfl, rfl⟩, rfl⟩;rw [h1] at hF;dsimp only [R.bind] at hF;have hl2 : 1 + ts2.length <= ts.tail.length := (Ze (ts := ts.tail)).2 _ _ h1;have hw8 := Mk h1;clear h1;refine vr 1 ?_;refine Sr 1 qy .h1 .here ?_;refine Sr 4 qy .h1 .h1 ?_
  refine Cp aW rfl .k0 (fun m' hm he => dF n (hw.mono hm) m' (Le.refl _) at2 d (p + 1) ts2 hp2 hd8 za za) ?_ ?_
  ·rintro _ _ ⟨e', a', h1, rfl⟩;rw [h1] at hF;exact pn ⟨e', a', hF.symm, rfl⟩
  rintro _ _ ⟨x, ts3, at3, _, h1, hp3, ⟨q, e, rfl, rfl, hx⟩, rfl⟩;rw [h1] at hF;dsimp only [R.bind] at hF;have hl3 := (uo n d ts2 za).2 _ _ h1;clear h1;unfold v6 at hF;refine vr 1 ?_;refine zg (yu zT rfl rfl rfl .h2 (.there (.there (.cons (.cons (.cons (.cons .nil)))))) rfl ?_) rfl;refine vr 6 ?_;refine Bs 0 xH fun b2 => ?_
  refine Cp uK rfl .k1 (fun m' hm he => xF (s := yg) (hw.mono hm) (Rd.blk (he _ (.head _))) (qA _ rfl) zb hp3) ?_ ?_
  ·rintro _ _ ⟨e', a', h1, rfl⟩;rw [h1] at hF;exact pn ⟨e', a', hF.symm, rfl⟩
  rintro _ _ ⟨_, tsz, atz, _, h1, hpz, ⟨rfl, rfl⟩, rfl⟩;rw [h1] at hF;dsimp only [R.bind] at hF;have hlz : 1 + tsz.length <= ts3.length := (zK (s := yg) (ts := ts3)).2 _ _ h1;clear h1;refine vr 4 ?_;refine Lc 0 wF .h3 ?_;refine Sg 3 wF .h3 ?_
  exact yp [_] ⟨⟨b1, _, _, _, rfl, .h3, .inr ⟨rfl, rfl⟩⟩, trivial⟩ _ (.cons .here .p1) ⟨_, tsz, atz, _, hF.symm, hpz, ⟨⟨1, w, q, [], ⟨0, 0, [], none, 0, 0, none, 0, 0⟩, none, 0, 0, none, 0, 0⟩, e, rfl, rfl, fun ns h => gc (op := 1) (who := w) (name := []) ⟨by decide, by decide⟩ hw8 (hx ns h) zb⟩, by show [rd b A c ws atz d (p + 1 + zV x), e] = [rd b A c ws atz d (p + vA (qm 1 w x [])), e]; rw [cY _ _ _ _ zb, if_pos zb, Nat.add_assoc]⟩
 rw [if_neg (by rw [hk]; decide)] at hF;refine vr 7 ?_;refine C1 ge rfl .here (fun m' hm he => wS (s := Y3) (hw.mono hm) hp (qA _ rfl) zb) ?_;rintro _ _ (⟨hk, hp1, rfl, rfl⟩ | ⟨hk, rfl, rfl⟩)
 ·have hl1 := yG hk;rw [if_pos hk] at hF;refine vr 7 ?_;refine Cp W4 rfl .k0 (fun m' hm he => cG (hw.mono hm) hp1) ?_ ?_
  ·rintro _ _ ⟨e', a', h1, rfl⟩;rw [h1] at hF;exact pn ⟨e', a', hF.symm, rfl⟩
  rintro _ _ ⟨w, ts2, at2, _, h1, hp2, ⟨rfl, rfl⟩, rfl⟩;rw [h1] at hF;dsimp only [R.bind] at hF;have hl2 : 1 + ts2.length <= ts.tail.length := (vU (ts := ts.tail)).2 _ _ h1;have hw8 := bq h1;clear h1;refine vr 1 ?_;refine Sr 1 qy .h1 .here ?_;refine Sr 4 qy .h1 .h1 ?_
  refine Cp aW rfl .k0 (fun m' hm he => dF n (hw.mono hm) m' (Le.refl _) at2 d (p + 1) ts2 hp2 hd8 za za) ?_ ?_
  ·rintro _ _ ⟨e', a', h1, rfl⟩;rw [h1] at hF;exact pn ⟨e', a', hF.symm, rfl⟩
  rintro _ _ ⟨x, ts3, at3, _, h1, hp3, ⟨q, e, rfl, rfl, hx⟩, rfl⟩;rw [h1] at hF;dsimp only [R.bind] at hF;have hl3 := (uo n d ts2 za).2 _ _ h1;clear h1;unfold v6 at hF;refine vr 1 ?_;refine zg (yu zT rfl rfl rfl .h2 (.there (.there (.cons (.cons (.cons (.cons .nil)))))) rfl ?_) rfl;refine vr 6 ?_;refine Bs 0 xH fun b2 => ?_
  refine Cp uK rfl .k1 (fun m' hm he => xF (s := yg) (hw.mono hm) (Rd.blk (he _ (.head _))) (qA _ rfl) zb hp3) ?_ ?_
  ·rintro _ _ ⟨e', a', h1, rfl⟩;rw [h1] at hF;exact pn ⟨e', a', hF.symm, rfl⟩
  rintro _ _ ⟨_, tsz, atz, _, h1, hpz, ⟨rfl, rfl⟩, rfl⟩;rw [h1] at hF;dsimp only [R.bind] at hF;have hlz : 1 + tsz.length <= ts3.length := (zK (s := yg) (ts := ts3)).2 _ _ h1;clear h1;refine vr 4 ?_;refine Lc 0 wF .h3 ?_;refine Sg 3 wF .h3 ?_
  exact yp [_] ⟨⟨b1, _, _, _, rfl, .h3, .inr ⟨rfl, rfl⟩⟩, trivial⟩ _ (.cons .here .p1) ⟨_, tsz, atz, _, hF.symm, hpz, ⟨⟨2, w, q, [], ⟨0, 0, [], none, 0, 0, none, 0, 0⟩, none, 0, 0, none, 0, 0⟩, e, rfl, rfl, fun ns h => gc (op := 2) (who := w) (name := []) ⟨by decide, by decide⟩ hw8 (hx ns h) zb⟩, by show [rd b A c ws atz d (p + 1 + zV x), e] = [rd b A c ws atz d (p + vA (qm 2 w x [])), e]; rw [cY _ _ _ _ zb, if_pos zb, Nat.add_assoc]⟩
 rw [if_neg (by rw [hk]; decide)] at hF;refine vr 7 ?_;refine C1 ge rfl .here (fun m' hm he => wS (s := Y1) (hw.mono hm) hp (qA _ rfl) zb) ?_;rintro _ _ (⟨hk, hp1, rfl, rfl⟩ | ⟨hk, rfl, rfl⟩)
 ·have hl1 := yG hk;rw [if_pos hk] at hF;refine vr 6 ?_;refine Cp aW rfl .k0 (fun m' hm he => dF n (hw.mono hm) m' (Le.refl _) (at_ + 1) d (p + 1) ts.tail hp1 hd8 za za) ?_ ?_
  ·rintro _ _ ⟨e', a', h1, rfl⟩;rw [h1] at hF;exact pn ⟨e', a', hF.symm, rfl⟩
  rintro _ _ ⟨x, ts3, at3, _, h1, hp3, ⟨q, e, rfl, rfl, hx⟩, rfl⟩;rw [h1] at hF;dsimp only [R.bind] at hF;have hl3 := (uo n d ts.tail za).2 _ _ h1;clear h1;unfold v6 at hF;refine vr 1 ?_;refine Sr 1 qy .h2 .here ?_;refine zg (yu zT rfl rfl rfl .h2 (.there (.there (.cons (.cons (.cons (.cons .nil)))))) rfl ?_) rfl;refine vr 6 ?_;refine Bs 0 xH fun b2 => ?_
  refine Cp uK rfl .k1 (fun m' hm he => xF (s := yg) (hw.mono hm) (Rd.blk (he _ (.head _))) (qA _ rfl) zb hp3) ?_ ?_
  ·rintro _ _ ⟨e', a', h1, rfl⟩;rw [h1] at hF;exact pn ⟨e', a', hF.symm, rfl⟩
  rintro _ _ ⟨_, tsz, atz, _, h1, hpz, ⟨rfl, rfl⟩, rfl⟩;rw [h1] at hF;dsimp only [R.bind] at hF;have hlz : 1 + tsz.length <= ts3.length := (zK (s := yg) (ts := ts3)).2 _ _ h1;clear h1;refine vr 4 ?_;refine Lc 0 wF .h3 ?_;refine Sg 3 wF .h3 ?_
  exact yp [_] ⟨⟨b1, _, _, _, rfl, .h3, .inr ⟨rfl, rfl⟩⟩, trivial⟩ _ (.cons .here .p1) ⟨_, tsz, atz, _, hF.symm, hpz, ⟨⟨3, 0, q, [], ⟨0, 0, [], none, 0, 0, none, 0, 0⟩, none, 0, 0, none, 0, 0⟩, e, rfl, rfl, fun ns h => gc (op := 3) (who := 0) (name := []) ⟨by decide, by decide⟩ ⟨by decide, by decide⟩ (hx ns h) zb⟩, by show [rd b A c ws atz d (p + 1 + zV x), e] = [rd b A c ws atz d (p + vA (qm 3 0 x [])), e]; rw [cY _ _ _ _ zb, if_pos zb, Nat.add_assoc]⟩
 rw [if_neg (by rw [hk]; decide)] at hF;refine vr 7 ?_;refine C1 ge rfl .here (fun m' hm he => wS (s := YY) (hw.mono hm) hp (qA _ rfl) zb) ?_;rintro _ _ (⟨hk, hp1, rfl, rfl⟩ | ⟨hk, rfl, rfl⟩)
 ·have hl1 := yG hk;rw [if_pos hk] at hF;refine vr 6 ?_;refine Cp aW rfl .k0 (fun m' hm he => dF n (hw.mono hm) m' (Le.refl _) (at_ + 1) d (p + 1) ts.tail hp1 hd8 za za) ?_ ?_
  ·rintro _ _ ⟨e', a', h1, rfl⟩;rw [h1] at hF;exact pn ⟨e', a', hF.symm, rfl⟩
  rintro _ _ ⟨x, ts3, at3, _, h1, hp3, ⟨q, e, rfl, rfl, hx⟩, rfl⟩;rw [h1] at hF;dsimp only [R.bind] at hF;have hl3 := (uo n d ts.tail za).2 _ _ h1;clear h1;unfold v6 at hF;refine vr 1 ?_;refine Sr 1 qy .h2 .here ?_;refine zg (yu zT rfl rfl rfl .h2 (.there (.there (.cons (.cons (.cons (.cons .nil)))))) rfl ?_) rfl;refine vr 6 ?_;refine Bs 0 xH fun b2 => ?_
  refine Cp uK rfl .k1 (fun m' hm he => xF (s := yg) (hw.mono hm) (Rd.blk (he _ (.head _))) (qA _ rfl) zb hp3) ?_ ?_
  ·rintro _ _ ⟨e', a', h1, rfl⟩;rw [h1] at hF;exact pn ⟨e', a', hF.symm, rfl⟩
  rintro _ _ ⟨_, tsz, atz, _, h1, hpz, ⟨rfl, rfl⟩, rfl⟩;rw [h1] at hF;dsimp only [R.bind] at hF;have hlz : 1 + tsz.length <= ts3.length := (zK (s := yg) (ts := ts3)).2 _ _ h1;clear h1;refine vr 4 ?_;refine Lc 0 wF .h3 ?_;refine Sg 3 wF .h3 ?_
  exact yp [_] ⟨⟨b1, _, _, _, rfl, .h3, .inr ⟨rfl, rfl⟩⟩, trivial⟩ _ (.cons .here .p1) ⟨_, tsz, atz, _, hF.symm, hpz, ⟨⟨5, 0, q, [], ⟨0, 0, [], none, 0, 0, none, 0, 0⟩, none, 0, 0, none, 0, 0⟩, e, rfl, rfl, fun ns h => gc (op := 5) (who := 0) (name := []) ⟨by decide, by decide⟩ ⟨by decide, by decide⟩ (hx ns h) zb⟩, by show [rd b A c ws atz d (p + 1 + zV x), e] = [rd b A c ws atz d (p + vA (qm 5 0 x [])), e]; rw [cY _ _ _ _ zb, if_pos zb, Nat.add_assoc]⟩
 rw [if_neg (by rw [hk]; decide)] at hF;refine vr 7 ?_;refine C1 ge rfl .here (fun m' hm he => wS (s := Y2) (hw.mono hm) hp (qA _ rfl) zb) ?_;rintro _ _ (⟨hk, hp1, rfl, rfl⟩ | ⟨hk, rfl, rfl⟩)
 ·have hl1 := yG hk;rw [if_pos hk] at hF;refine vr 6 ?_;refine Cp W4 rfl .k0 (fun m' hm he => cG (hw.mono hm) hp1) ?_ ?_
  ·rintro _ _ ⟨e', a', h1, rfl⟩;rw [h1] at hF;exact pn ⟨e', a', hF.symm, rfl⟩
  rintro _ _ ⟨w, ts2, at2, _, h1, hp2, ⟨rfl, rfl⟩, rfl⟩;rw [h1] at hF;dsimp only [R.bind] at hF;have hl2 : 1 + ts2.length <= ts.tail.length := (vU (ts := ts.tail)).2 _ _ h1;have hw8 := bq h1;clear h1;unfold v6 at hF;refine vr 1 ?_;refine Sr 1 qy .h1 .here ?_;refine Sr 6 qy .h1 .h1 ?_;refine Bs 0 xH fun b2 => ?_
  refine Cp uK rfl .k1 (fun m' hm he => xF (s := yg) (hw.mono hm) (Rd.blk (he _ (.head _))) (qA _ rfl) zb hp2) ?_ ?_
  ·rintro _ _ ⟨e', a', h1, rfl⟩;rw [h1] at hF;exact pn ⟨e', a', hF.symm, rfl⟩
  rintro _ _ ⟨_, tsz, atz, _, h1, hpz, ⟨rfl, rfl⟩, rfl⟩;rw [h1] at hF;dsimp only [R.bind] at hF;have hlz : 1 + tsz.length <= ts2.length := (zK (s := yg) (ts := ts2)).2 _ _ h1;clear h1;refine vr 4 ?_;refine Lc 0 wF .h2 ?_;refine Sg 3 wF .h2 ?_
  exact yp [_] ⟨⟨b1, _, _, _, rfl, .h2, .inr ⟨rfl, rfl⟩⟩, trivial⟩ _ (.cons .here (zN.nilE (.nil _))) ⟨_, tsz, atz, _, hF.symm, hpz, ⟨⟨4, w, ⟨0, 0, 0, none, 0, 0⟩, [], ⟨0, 0, [], none, 0, 0, none, 0, 0⟩, none, 0, 0, none, 0, 0⟩, yF [], rfl, rfl, fun ns h => gc (op := 4) (who := w) (name := []) (q := ⟨0, 0, 0, none, 0, 0⟩) (x := aF) ⟨by decide, by decide⟩ hw8 (qv (op := 0) ⟨by decide, by decide⟩) zb⟩, by show [rd b A c ws atz d (p + 1), yF []] = [rd b A c ws atz d (p + vA (qm 4 w aF [])), yF []]; rw [cY _ _ _ _ zb, if_neg zb]⟩
 rw [if_neg (by rw [hk]; decide)] at hF;refine vr 7 ?_;refine C1 ge rfl .here (fun m' hm he => wS (s := YX) (hw.mono hm) hp (qA _ rfl) zb) ?_;rintro _ _ (⟨hk, hp1, rfl, rfl⟩ | ⟨hk, rfl, rfl⟩)
 ·have hl1 := yG hk;rw [if_pos hk] at hF;refine vr 6 ?_;refine Cp W4 rfl .k0 (fun m' hm he => cG (hw.mono hm) hp1) ?_ ?_
  ·rintro _ _ ⟨e', a', h1, rfl⟩;rw [h1] at hF;exact pn ⟨e', a', hF.symm, rfl⟩
  rintro _ _ ⟨w, ts2, at2, _, h1, hp2, ⟨rfl, rfl⟩, rfl⟩;rw [h1] at hF;dsimp only [R.bind] at hF;have hl2 : 1 + ts2.length <= ts.tail.length := (vU (ts := ts.tail)).2 _ _ h1;have hw8 := bq h1;clear h1;unfold v6 at hF;refine vr 1 ?_;refine Sr 1 qy .h1 .here ?_;refine Sr 6 qy .h1 .h1 ?_;refine Bs 0 xH fun b2 => ?_
  refine Cp uK rfl .k1 (fun m' hm he => xF (s := yg) (hw.mono hm) (Rd.blk (he _ (.head _))) (qA _ rfl) zb hp2) ?_ ?_
  ·rintro _ _ ⟨e', a', h1, rfl⟩;rw [h1] at hF;exact pn ⟨e', a', hF.symm, rfl⟩
  rintro _ _ ⟨_, tsz, atz, _, h1, hpz, ⟨rfl, rfl⟩, rfl⟩;rw [h1] at hF;dsimp only [R.bind] at hF;have hlz : 1 + tsz.length <= ts2.length := (zK (s := yg) (ts := ts2)).2 _ _ h1;clear h1;refine vr 4 ?_;refine Lc 0 wF .h2 ?_;refine Sg 3 wF .h2 ?_
  exact yp [_] ⟨⟨b1, _, _, _, rfl, .h2, .inr ⟨rfl, rfl⟩⟩, trivial⟩ _ (.cons .here (zN.nilE (.nil _))) ⟨_, tsz, atz, _, hF.symm, hpz, ⟨⟨6, w, ⟨0, 0, 0, none, 0, 0⟩, [], ⟨0, 0, [], none, 0, 0, none, 0, 0⟩, none, 0, 0, none, 0, 0⟩, yF [], rfl, rfl, fun ns h => gc (op := 6) (who := w) (name := []) (q := ⟨0, 0, 0, none, 0, 0⟩) (x := aF) ⟨by decide, by decide⟩ hw8 (qv (op := 0) ⟨by decide, by decide⟩) zb⟩, by show [rd b A c ws atz d (p + 1), yF []] = [rd b A c ws atz d (p + vA (qm 6 w aF [])), yF []]; rw [cY _ _ _ _ zb, if_neg zb]⟩
 rw [if_neg (by rw [hk]; decide)] at hF;refine vr 7 ?_;refine C1 ge rfl .here (fun m' hm he => wS (s := jn) (hw.mono hm) hp (qA _ rfl) zb) ?_;rintro _ _ (⟨hk, hp1, rfl, rfl⟩ | ⟨hk, rfl, rfl⟩)
 ·have hl1 := yG hk;rw [if_pos hk] at hF;refine vr 6 ?_;refine Cp Ln rfl .k0 (fun m' hm he => Yg (hT.mono hm) (hw.mono hm) hp1) ?_ ?_
  ·rintro _ _ ⟨e', a', h1, rfl⟩;rw [h1] at hF;exact pn ⟨e', a', hF.symm, rfl⟩
  rintro _ _ ⟨s, ts2, at2, _, h1, hp2, ⟨rfl, rfl⟩, rfl⟩;rw [h1] at hF;dsimp only [R.bind] at hF;have hl2 : 1 + ts2.length <= ts.tail.length := (uq (ts := ts.tail)).2 _ _ h1;have hs5 := eL hp1 h1;clear h1;unfold v6 at hF;refine vr 1 ?_;refine Sr 1 qy .h1 .here ?_;refine Sr 6 Pm .h1 .h6 ?_;refine Bs 0 xH fun b2 => ?_
  refine Cp uK rfl .k1 (fun m' hm he => xF (s := yg) (hw.mono hm) (Rd.blk (he _ (.head _))) (qA _ rfl) zb hp2) ?_ ?_
  ·rintro _ _ ⟨e', a', h1, rfl⟩;rw [h1] at hF;exact pn ⟨e', a', hF.symm, rfl⟩
  rintro _ _ ⟨_, tsz, atz, _, h1, hpz, ⟨rfl, rfl⟩, rfl⟩;rw [h1] at hF;dsimp only [R.bind] at hF;have hlz : 1 + tsz.length <= ts2.length := (zK (s := yg) (ts := ts2)).2 _ _ h1;clear h1;refine vr 4 ?_;refine Lc 0 wF .h2 ?_;refine Sg 3 wF .h2 ?_
  exact yp [_] ⟨⟨b1, _, _, _, rfl, .h2, .inr ⟨rfl, rfl⟩⟩, trivial⟩ _ (.cons .here (zN.nilE (.nil _))) ⟨_, tsz, atz, _, hF.symm, hpz, ⟨⟨7, 0, ⟨0, 0, 0, none, 0, 0⟩, s, ⟨0, 0, [], none, 0, 0, none, 0, 0⟩, none, 0, 0, none, 0, 0⟩, yF [], rfl, rfl, fun ns h => gc (op := 7) (who := 0) (q := ⟨0, 0, 0, none, 0, 0⟩) (x := aF) (name := s) ⟨by decide, by decide⟩ ⟨by decide, by decide⟩ (qv (op := 0) ⟨by decide, by decide⟩) (by unfold maxLen; omega)⟩, by show [rd b A c ws atz d (p + 1), yF []] = [rd b A c ws atz d (p + vA (qm 7 0 aF s)), yF []]; rw [cY _ _ _ _ zb, if_neg zb]⟩
 rw [if_neg (by rw [hk]; decide)] at hF;refine vr 7 ?_;refine C1 W3 rfl .here (fun m' hm he => WH (s := HO) (hw.mono hm) hp (qA _ rfl) zb) ?_;rintro _ _ ⟨rfl, rfl⟩;cases hki : isW HO ts with
 | true =>
   rw [if_pos hki] at hF;have hl1 := yG hki;have hp1 := hp.isW hki;refine vr 7 ?_;refine Cp Hb rfl .k0 (fun m1 h1 he => IY (hw.mono h1) hp hd8) ?_ ?_
   ·rintro _ _ ⟨h8, rfl⟩;rw [Wl, if_pos h8] at hF;exact pn ⟨121, _, hF.symm, rfl⟩
   rintro _ _ ⟨h8, rfl, rfl⟩;rw [Wl, if_neg za] at hF;dsimp only [R.bind] at hF;refine vr 7 ?_;refine Lb 0 yl .here ?_;refine Pa 2 ?_;refine Sr 5 fB .here .h1 ?_;refine Cp Sz rfl .k0 (fun m' hm he => I9 hcap n (hT.mono hm) (hw.mono hm) m' (Le.refl _) (at_ + 1) (d + 1) (p + 1) ts.tail hp1 h8 za za) ?_ ?_
   ·rintro _ _ ⟨e', a', h1, rfl⟩;rw [h1] at hF;exact pn ⟨e', a', hF.symm, rfl⟩
   rintro _ _ ⟨x, ts2, at2, _, h1, hp2, ⟨qc, ec, rfl, rfl, hx⟩, rfl⟩;rw [h1] at hF;dsimp only [R.bind] at hF;have hl2 := (eY n (d + 1) ts.tail za).2 _ _ h1;clear h1;have hcp := vC x;refine vr 1 ?_;refine Sr 1 qy .h2 .here ?_
   refine zg (yu xP rfl rfl rfl .h2 (.there (.there (.there (.there (.there (.there (.there (.cons (.cons (.cons (.cons (.cons .nil)))))))))))) rfl ?_) rfl;refine vr 5 ?_;refine Cp Oe rfl .k0 (fun m' hm he => hblk m' hm at2 (d + 1) (p + 1 + zX x) ts2 hp2 h8 za za) ?_ ?_
   ·rintro _ _ ⟨e', a', h1, rfl⟩;rw [h1] at hF;exact pn ⟨e', a', hF.symm, rfl⟩
   rintro _ _ ⟨t, ts3, at3, _, h1, hp3, ⟨KT, ct, et, rfl, rfl, ht⟩, rfl⟩;rw [h1] at hF;dsimp only [R.bind] at hF;have hl3 := (hbe (d + 1) ts2 za).2 _ _ h1;clear h1;refine vr 1 ?_;refine Sr 5 Ob .h3 .h12 ?_;refine Bs 0 xH fun b2 => ?_;refine Cp uK rfl .k1 (fun m' hm he => xF (s := je) (hw.mono hm) (Rd.blk (he _ (.head _))) (qA _ rfl) zb hp3) ?_ ?_
   ·rintro _ _ ⟨e', a', h1, rfl⟩;rw [h1] at hF;exact pn ⟨e', a', hF.symm, rfl⟩
   rintro _ _ ⟨_, ts4, at4, _, h1, hp4, ⟨rfl, rfl⟩, rfl⟩;rw [h1] at hF;dsimp only [R.bind] at hF;have hl4 : 1 + ts4.length <= ts3.length := (zK (s := je) (ts := ts3)).2 _ _ h1;clear h1;refine vr 5 ?_;refine Cp Oe rfl .k0 (fun m' hm he => hblk m' hm at4 (d + 1) (p + 1 + zX x + yM t) ts4 hp4 h8 za za) ?_ ?_
   ·rintro _ _ ⟨e', a', h1, rfl⟩;rw [h1] at hF;exact pn ⟨e', a', hF.symm, rfl⟩
   rintro _ _ ⟨e, ts5, at5, _, h1, hp5, ⟨KE, ce, ee, rfl, rfl, hee⟩, rfl⟩;rw [h1] at hF;dsimp only [R.bind] at hF;clear h1;refine vr 1 ?_;refine Sr 7 Ob .h5 .h13 ?_;refine Lb 0 yl .here ?_;refine pe 2 (bd rfl rfl (fK za za)) ?_;refine Sr 4 fB .here .h2 ?_;refine Lc 0 wF .h5 ?_;refine Sg 5 wF .h5 ?_;rw [show ((d + 1 : Nat) : Int) - 1 = (d : Nat) by omega]
   exact yp [_] ⟨⟨b1, _, _, _, rfl, .h5, .inr ⟨rfl, rfl⟩⟩, trivial⟩ _ (.cons .here (zN.pack3 (.cons .h3 (.cons .h2 .p0)))) ⟨_, ts5, at5, _, hF.symm, hp5, ⟨⟨8, 0, ⟨0, 0, 0, none, 0, 0⟩, [], qc, KT, t.length, ct, KE, e.length, ce⟩, yF [ec, et, ee], rfl, rfl, fun ns h => Ey (hx ns (h.1 _ (.head _))) (ht ns (h.1 _ (.tail _ (.head _)))) (hee ns (h.1 _ (.tail _ (.tail _ (.head _)))))⟩, by show [rd b A c ws at5 d (p + 1 + zX x + yM t + yM e), yF [ec, et, ee]] = [rd b A c ws at5 d (p + vA (.mk 8 0 aF [] x t e)), yF [ec, et, ee]]; rw [gL, if_pos rfl, if_neg zb]; simp only [Nat.add_assoc, Nat.zero_add, Nat.add_zero]; rfl⟩
 | false =>
 rw [if_neg (by rw [hki]; decide)] at hF;refine vr 6 ?_;refine Cp eZ rfl .k0 (fun m' hm he => jR 120 (hw.mono hm) hp) ?_ ?_
 ·rintro _ _ rfl;exact pn ⟨120, _, hF.symm, rfl⟩
 ·rintro _ _ h;exact h.elim
end
section
open Wd Tp Kd
variable {m : Mp} {b c at_ d p : Nat} {A : Oa} {ws ts : List yf}
def FL (m : Mp) (xs : Lv) (l : List zW) : Prop := xs.length = l.length * 14 /\ ∀ (i : Nat) (hi : i < l.length), un m ((xs.drop (i * 14)).take 14) l[i]
variable {l : List zW} {xs : Lv}
theorem FL.snoc {q : RV} {x : zW} (h : FL m xs l) (hx : un m q.v x) : FL m (xs ++ q.v) (l ++ [x]) := by
 obtain ⟨h1, h2⟩ := h;refine ⟨by rw [List.length_append, List.length_append, h1]; show l.length * 14 + 14 = (l.length + 1) * 14; omega, fun i hi => ?_⟩;have hi2 : i < l.length + 1 := by simpa using hi
 by_cases hlt : i < l.length
 ·rw [List.getElem_append_left hlt, List.drop_append_of_le_length za, List.take_append_of_le_length (by rw [List.length_drop]; omega)];exact h2 i hlt
 ·have : i = l.length := by omega
  subst this;rw [<- h1, List.drop_left];simp only [List.getElem_concat_length];exact hx
theorem FL.list {K : Oa} {kc : Nat} (h : FL m xs l) (ho : (own 90 14 K l.length kc xs).inv m) (hl : l.length <= maxLen) : xV m K l.length l := ⟨rfl, hl, xs, Eng.Own.rd ho, h.1, h.2⟩
structure DE where
 n : Nat
 at_ : Nat
 p : Nat
 ts : List yf
 l : List zW
 K : Oa
 kc : Nat
 xs : Lv
 e : yb
theorem XO (hcap : ws.length <= c) : ∀ (n : Nat) {m : Mp}, xU m -> eu m A ws -> DF m b A c ws (xo n) n
 | 0, _, _, _ => fun m' hm at_ d p ts hp hd8 hb hk => by cases hk
 | n + 1, m, hT, hw => fun m' hm at_ d p ts hp hd8 hb hk => by
   generalize hF : xo (n + 1) d ts = F;unfold xo at hF;have hsm := hp.small;have hlen := hp.len;refine ym [.tmp 2] Tryz.func82 rfl rfl rfl ?_;refine tr 8 ?_;refine Bs 0 xH fun b1 => ?_;refine Cp uK rfl .k1 (fun m1 h1 he => xF (s := gp) (hw.mono (hm.trans h1)) (Rd.blk (he _ (.head _))) (qA _ rfl) zb hp) ?_ ?_
   ·rintro _ _ ⟨e', a', h1, rfl⟩;rw [h1] at hF;exact pn ⟨e', a', hF.symm, rfl⟩
   rintro _ _ ⟨_, ts1, at1, _, h1, hp1, ⟨rfl, rfl⟩, rfl⟩;rw [h1] at hF;dsimp only [R.bind] at hF;have hl1 : 1 + ts1.length <= ts.length := (zK (s := gp) (ts := ts)).2 _ _ h1;clear h1;have hone := fun ts (h : ts.length < n + 1) => Kn (d := d) (k := n) (n := n + 1) za (uL n) ts h;refine vr 4 ?_;refine jS 90 14 ?_
   refine yv (α := DE) (fun y => [(0, zS b), (2, .slice y.K y.l.length y.kc)]) (fun y => [rd b A c ws y.at_ d y.p, own 90 14 y.K y.l.length y.kc y.xs, y.e])
    (fun y => fR (ky (xo n) (n + 1) d) y.n y.l y.ts = F /\ jT ws y.at_ y.ts /\ y.p = p + yM y.l /\ y.p + y.ts.length <= 4611686018427000000 /\ y.ts.length < y.n /\ y.ts.length < n + 1 /\ y.l.length + y.ts.length <= 65537 /\ ∀ ns, y.e.inv ns -> FL ns y.xs y.l) (fun y => y.n)
    ⟨n + 1, at1, p, ts1, [], none, 0, [], yF []⟩ vv (.cons .h1 (.cons .here (zN.nilE (.nil _)))) ⟨hF, hp1, rfl, by show p + ts1.length <= _; omega, by show ts1.length < n + 1; omega, by show ts1.length < n + 1; omega, by show 0 + ts1.length <= _; omega, fun ns _ => ⟨rfl, fun i h => by cases h⟩⟩ ?_
   clear hF hl1 hp1;rintro ⟨j, a, p1, ts, l, K, kc, xs, e⟩ ⟨hF, hp, hpw, hb, hj, hk, hll, hx⟩;dsimp only at hF hp hpw hb hj hk hll hx;dsimp only;obtain ⟨j, rfl⟩ : ∃ j', j = j' + 1 := ⟨j - 1, by omega⟩;unfold fR at hF;refine tr 4 ?_;refine C1 W3 rfl .here (fun m1 h1 he => WH (s := jv) (hw.mono (hm.trans h1)) hp (qA _ rfl) zb) ?_;rintro _ _ ⟨rfl, rfl⟩;cases hkb : isW jv ts with
   | true =>
     rw [if_pos hkb] at hF;have hnx := hp.isW hkb;refine vr 6 ?_;refine zm ?_;refine zk ?_;refine qt 4 ?_;refine Bs 0 xH fun b2 => ?_;refine Cp uK rfl .k1 (fun m1 h1 he => xF (s := jv) (hw.mono (hm.trans h1)) (Rd.blk (he _ (.head _))) (qA _ rfl) zb hp) ?_ ?_
     ·rintro _ _ ⟨e', a', h1, rfl⟩;rw [wi, if_pos hkb] at h1;cases h1
     rintro _ _ ⟨_, ts2, at2, _, h1, hp2, ⟨rfl, rfl⟩, rfl⟩;rw [wi, if_pos hkb] at h1;cases h1;refine vr 9 ?_;exact yp [_] zj _ (.cons .here (zN.pack2 (.cons .h1 .p1))) ⟨l, ts.tail, at2, _, hF.symm, hp2, ⟨K, kc, yF [own 90 14 K l.length kc xs, e], rfl, rfl, fun ns h => (hx ns (h.1 _ (.tail _ (.head _)))).list (h.1 _ (.head _)) (by unfold maxLen; omega)⟩, by rw [hpw]; rfl⟩
   | false =>
     rw [if_neg (by rw [hkb]; decide)] at hF;refine vr 10 ?_;refine Cp Dd rfl .k0 (fun m1 h1 he => N0 (k := n) (n := n + 1) (hT.mono (hm.trans h1)) (hw.mono (hm.trans h1)) hcap hp hd8 hb hk za (uL n) (XO hcap n (hT.mono (hm.trans h1)) (hw.mono (hm.trans h1)))) ?_ ?_
     ·rintro _ _ ⟨e', a', h1, rfl⟩;rw [h1] at hF;refine yk ?_;refine zC ?_;exact pn ⟨e', a', hF.symm, rfl⟩
     rintro _ _ ⟨x, ts2, at2, _, h1, hp2, ⟨q, ex, rfl, rfl, hq⟩, rfl⟩;have hl2 := (hone ts hk).2 _ _ h1;have hxp := uY x;rw [h1] at hF;change fR (ky (xo n) (n + 1) d) j (l ++ [x]) ts2 = F at hF;clear h1;have e1 : l.length + 1 = (l ++ [x]).length := by simp
     have e2 : yM (l ++ [x]) = yM l + vA x := by simp [yM]
     refine Al 0 qn fun b2 => ?_;refine Sg 4 wF .here ?_;refine Lc 0 wF .here ?_;refine Bs 0 F4 fun b3 => ?_;refine zg (xQ F4 rfl rfl rfl rfl .here (fun _ _ => .h4) rfl rfl (by first | omega | (simp only [maxLen]; omega)) za rfl (fun A1 c1 => ?_)) rfl;refine vr 3 ?_;rw [e1]
     exact QR (⟨j, at2, p1 + vA x, ts2, l ++ [x], A1, c1, xs ++ q.v, yF [e, ex]⟩ : DE) (.cons .h2 (.cons .h3 (zN.pack2 (.cons .h3 .p2)))) ⟨hF, hp2, by dsimp only; rw [e2, hpw, Nat.add_assoc], by show p1 + vA x + ts2.length <= _; omega, by show ts2.length < j; omega, by show ts2.length < n + 1; omega, by show (l ++ [x]).length + ts2.length <= _; rw [<- e1]; omega, fun ns h => (hx ns (h.1 _ (.head _))).snoc (hq ns (h.1 _ (.tail _ (.head _))))⟩ (Nat.lt_succ_self _)
end
section
open Wd Tp Kd
variable {m : Mp} {b c at_ d p : Nat} {A : Oa} {ws ts : List yf}
def XB (m : Mp) (K : Oa) (kc : Nat) (l : List Bt) : Prop := Rd m K (l.map xm) /\ l.length <= kc
theorem XB.mono {m' : Mp} {K : Oa} {kc : Nat} {l : List Bt} (h : XB m K kc l) (hl : Le m m') : XB m' K kc l := ⟨h.1.mono hl, h.2⟩
theorem XB.z (m : Mp) : XB m none 0 [] := ⟨Rd.nil _ _, Nat.zero_le _⟩
abbrev D3 : List Bt -> Value -> List yb -> Prop := fun l v Es => ∃ (K : Oa) (kc : Nat) (e : yb), v = .slice K l.length kc /\ Es = [e] /\ l.length <= 65537 /\ (∀ s ∈ l, s.length <= 65536) /\ ∀ ns, e.inv ns -> XB ns K kc l
structure Ba where
 n : Nat
 at_ : Nat
 ts : List yf
 l : List Bt
 K : Oa
 kc : Nat
theorem IK {n : Nat} (hT : xU m) (hw : eu m A ws) (hp : jT ws at_ ts) (hn : ts.length < n) : UL 91 [zS b] m b A c ws at_ d p (uH n [] ts) (fun _ => 0) D3 := by
 generalize hF : uH n [] ts = F;refine ym [.tmp 2] Tryz.func91 rfl rfl rfl ?_;have hsm := hp.small;have hlen := hp.len;refine tr 6 ?_;refine jS 9 1 ?_
 refine yv (α := Ba) (fun y => [(0, zS b), (2, .slice y.K y.l.length y.kc)]) (fun y => [rd b A c ws y.at_ d p, own 9 1 y.K y.l.length y.kc (y.l.map xm)])
  (fun y => uH y.n y.l y.ts = F /\ jT ws y.at_ y.ts /\ y.ts.length < y.n /\ y.l.length + y.ts.length <= 65537 /\ ∀ s ∈ y.l, s.length <= 65536) (fun y => y.n)
  ⟨n, at_, ts, [], none, 0⟩ vv (.cons .h1 .p0) ⟨hF, hp, hn, by show 0 + ts.length <= _; omega, fun s h => by cases h⟩ ?_
 clear hF hp hn hlen;rintro ⟨j, a, ts, l, K, kc⟩ ⟨hF, hp, hj, hll, hx⟩;dsimp only at hF hp hj hll hx;dsimp only;obtain ⟨j, rfl⟩ : ∃ j', j = j' + 1 := ⟨j - 1, by omega⟩;unfold uH at hF;refine tr 4 ?_;refine Cp Ln rfl .k0 (fun m' hm he => Yg (hT.mono hm) (hw.mono hm) hp) ?_ ?_
 ·rintro _ _ ⟨e', a', h1, rfl⟩;rw [h1] at hF;refine yk ?_;refine zC ?_;exact pn ⟨e', a', hF.symm, rfl⟩
 rintro _ _ ⟨s, ts2, at2, _, h1, hp2, ⟨rfl, rfl⟩, rfl⟩;rw [h1] at hF;dsimp only [R.bind] at hF;have hl2 : 1 + ts2.length <= ts.length := (uq (ts := ts)).2 _ _ h1;have hs5 := eL hp h1;clear h1
 have hx2 : ∀ t ∈ l ++ [s], t.length <= 65536 := fun t ht => by
  rcases List.mem_append.1 ht with h | h
  ·exact hx t h
  ·rw [List.mem_singleton.1 h]; exact hs5
 have e1 : l.length + 1 = (l ++ [s]).length := by simp
 have e2 : l.map xm ++ [.string (bs s)] = (l ++ [s]).map xm := by simp [xm]
 refine vr 7 ?_;refine Bs 0 xH fun b1 => ?_;refine zg (xQ xH rfl rfl rfl rfl .here (fun _ _ => .h2) rfl rfl (by first | omega | (simp only [maxLen]; omega)) za rfl (fun A1 c1 => ?_)) rfl;refine vr 6 ?_;refine C1 ge rfl .h1 (fun m' hm he => wS (s := y9) (hw.mono hm) hp2 (qA _ rfl) zb) ?_;rintro _ _ (⟨hk, hp3, rfl, rfl⟩ | ⟨hk, rfl, rfl⟩)
 ·have hl1 := yG hk;rw [if_pos hk] at hF;refine vr 6 ?_
  exact xD (⟨j, at2 + 1, ts2.tail, l ++ [s], A1, c1⟩ : Ba) ⟨rfl, by rw [<- e1]; rfl, trivial⟩ (.cons .here (zN.cons (e := own 9 1 A1 (l ++ [s]).length c1 ((l ++ [s]).map xm)) (by rw [<- e2, <- e1]; exact .h1) (.nil _))) ⟨hF, hp3, by show ts2.tail.length < j; omega, by show (l ++ [s]).length + ts2.tail.length <= _; rw [<- e1]; omega, hx2⟩ (Nat.lt_succ_self _)
 rw [if_neg (by rw [hk]; decide)] at hF;refine vr 12 ?_;refine zu ?_;refine zp ?_;rw [e1]
 exact yp [_] zj _ (.cons .here (zN.cons (e := own 9 1 A1 (l ++ [s]).length c1 ((l ++ [s]).map xm)) (by rw [<- e2, <- e1]; exact .h1) (.nil _))) ⟨l ++ [s], ts2, at2, _, hF.symm, hp2, ⟨A1, c1, _, rfl, rfl, by rw [<- e1]; omega, hx2, fun ns h => ⟨Eng.Own.rd h, Eng.Own.le h⟩⟩, rfl⟩
end
section
open Wd Tp Kd
variable {m : Mp} {b c at_ d p : Nat} {A : Oa} {ws ts : List yf}
variable {k : Bt}
theorem dW {v : Bt -> Value} : ∀ {l : List Bt} {i : Nat}, k ∉ l -> vb k i (l.map fun s => (s, v s)) = none
 | [], _, _ => rfl
 | s :: r, i, h => by
   unfold vb;simp only [List.map_cons];rw [if_neg (fun e => h (by rw [e]; exact .head _))];exact dW fun hm => h (.tail _ hm)
theorem H5 (l : List Bt) : (gv (l.map fun s => (s, Value.bool true)) k).getD (.bool false) = .bool (decide (k ∈ l)) := by
 by_cases h : k ∈ l
 ·rw [decide_eq_true h]
  have : ∀ (l : List Bt) (i : Nat), k ∈ l -> ∃ j, vb k i (l.map fun s => (s, Value.bool true)) = some (j, .bool true) := by
   intro l
   induction l with
   | nil => intro i h; cases h
   | cons s r ih =>
     intro i h;unfold vb;simp only [List.map_cons];by_cases hk : k = s
     ·rw [if_pos hk]; exact ⟨_, rfl⟩
     ·rw [if_neg hk];exact ih _ (by rcases List.mem_cons.1 h with h | h; exact absurd h hk; exact h)
  obtain ⟨j, hj⟩ := this l 0 h;rw [gv, hj]
  rfl
 ·rw [decide_eq_false h, gv, dW (v := fun _ => Value.bool true) h]
  rfl
theorem HP {l : List Bt} (h : k ∉ l) : gK (l.map fun s => (s, Value.bool true)) k (.bool true) = (l ++ [k]).map fun s => (s, Value.bool true) := by
 rw [gK, dW (v := fun _ => Value.bool true) h, List.map_append]
 rfl
abbrev ay (keys : List (Bt × FuncId × Lv)) : List (Bt × Value) := keys.map fun k => (k.1, .func (.func k.2.1) [].toArray k.2.2.toArray)
theorem P2 : ∀ (keys : List (Bt × FuncId × Lv)), (k ∈ keys.map (·.1) /\ ∃ x ∈ keys, x.1 = k /\ gv (ay keys) k = some (.func (.func x.2.1) [].toArray x.2.2.toArray)) \/ (k ∉ keys.map (·.1) /\ gv (ay keys) k = none) := by
 have gen : ∀ (keys : List (Bt × FuncId × Lv)) (i : Nat), (k ∈ keys.map (·.1) /\ ∃ x ∈ keys, x.1 = k /\ ∃ j, vb k i (ay keys) = some (j, .func (.func x.2.1) [].toArray x.2.2.toArray)) \/ (k ∉ keys.map (·.1) /\ vb k i (ay keys) = none) := by
  intro keys
  induction keys with
  | nil => intro i; exact .inr ⟨by simp, rfl⟩
  | cons x r ih =>
    intro i;by_cases h : k = x.1
    ·refine .inl ⟨by rw [h]; exact .head _, x, .head _, h.symm, i, ?_⟩;show vb k i ((x.1, _) :: ay r) = _;unfold vb;rw [if_pos h]
    ·have e : vb k i (ay (x :: r)) = vb k (i + 1) (ay r) := by
      show vb k i ((x.1, _) :: ay r) = _;rw [vb, if_neg h]
     rcases ih (i + 1) with ⟨h1, y, h2, h3, j, h4⟩ | ⟨h1, h2⟩
     ·exact .inl ⟨.tail _ h1, y, .tail _ h2, h3, j, by rw [e]; exact h4⟩
     ·refine .inr ⟨fun hm => ?_, by rw [e]; exact h2⟩;rcases List.mem_cons.1 hm with hm | hm
      ·exact h hm
      ·exact h1 hm
 intro keys;rcases gen keys 0 with ⟨h1, y, h2, h3, j, h4⟩ | ⟨h1, h2⟩
 ·exact .inl ⟨h1, y, h2, h3, by rw [gv, h4]; rfl⟩
 ·exact .inr ⟨h1, by rw [gv, h2]; rfl⟩
def LO {σ : Type} (m : Mp) (b : Nat) (A : Oa) (c : Nat) (ws : List yf) (f : FuncId) (q : Lv) (rd1 : σ -> List yf -> R σ) (I I2 : σ -> Nat -> yb -> Prop) (n : Nat) : Prop :=
 ∀ m', Le m m' -> ∀ (x : σ) (e : yb) (at_ p : Nat) (ts : List yf), I x p e -> jT ws at_ ts -> p + ts.length <= 4611686018427000000 -> ts.length < n ->
  Vw Tryz.prog f q m' [rd b A c ws at_ 0 p, e] (fun v L' => ∃ x' ts' at' p' e', rd1 x ts = .ok x' ts' /\ jT ws at' ts' /\ p' + ts'.length <= p + ts.length /\ ts'.length <= ts.length /\ I2 x' p' e' /\ v = U0 /\ L' = [rd b A c ws at' 0 p', e'])
   (fun v _ => ∃ e a, rd1 x ts = .bad e a /\ v = WO e a)
structure C8 (σ : Type) where
 n : Nat
 at_ : Nat
 p : Nat
 ts : List yf
 seen : List Bt
 x : σ
 e : yb
theorem U5 {σ : Type} {keys : List (Bt × FuncId × Lv)} {read : Bt -> σ -> List yf -> R σ} {parts : σ -> Nat} {I : List Bt -> σ -> Nat -> yb -> Prop} {mb n : Nat} {x : σ} {e : yb} (hM : gG m mb (ay keys)) (hcl : ∀ k ∈ keys, yX Tryz.prog k.2.1 = true) (hR : ∀ k ∈ keys, ∀ seen, k.1 ∉ seen -> LO m b A c ws k.2.1 k.2.2 (read k.1) (I seen) (I (seen ++ [k.1])) n) (hI : ∀ seen x p e, I seen x p e -> (200 < p ↔ 200 < parts x)) (hx : I [] x p e) (hw : eu m A ws) (hp : jT ws at_ ts) (hb : p + ts.length <= 4611686018427000000) (hn : ts.length < n) :
  Vw Tryz.prog 80 [zS b, .map (some mb)] m [rd b A c ws at_ 0 p, e]
   (fun v L' => ∃ x' ts' at' p' e' seen, ((wi gp ts).bind fun _ ts => wU (keys.map (·.1)) read parts n [] x ts) = .ok x' ts' /\ jT ws at' ts' /\ p' <= 200 /\ I seen x' p' e' /\ v = U0 /\ L' = [rd b A c ws at' 0 p', e'])
   (fun v _ => ∃ e a, ((wi gp ts).bind fun _ ts => wU (keys.map (·.1)) read parts n [] x ts) = .bad e a /\ v = WO e a) := by
 generalize hF : ((wi gp ts).bind fun _ ts => wU (keys.map (·.1)) read parts n [] x ts) = F;have hsm := hp.small;have hlen := hp.len;refine ym [] Tryz.func80 rfl rfl rfl ?_;refine tr 3 ?_;refine Bs 0 xH fun b1 => ?_;refine Cp uK rfl .k1 (fun m' hm he => xF (s := gp) (hw.mono hm) (Rd.blk (he _ (.head _))) (qA _ rfl) zb hp) ?_ ?_
 ·rintro _ _ ⟨e', a', h1, rfl⟩;rw [h1] at hF;exact pn ⟨e', a', hF.symm, rfl⟩
 rintro _ _ ⟨_, ts1, at1, _, h1, hp1, ⟨rfl, rfl⟩, rfl⟩;rw [h1] at hF;dsimp only [R.bind] at hF;have hl1 : 1 + ts1.length <= ts.length := (zK (s := gp) (ts := ts)).2 _ _ h1;clear h1;refine vr 4 ?_;refine zg (qT rfl (fun b2 => ?_)) rfl;refine vr 5 ?_
 refine yv (α := C8 σ) (fun y => [(0, zS b), (1, .map (some mb)), (4, .map (some b2))]) (fun y => [rd b A c ws y.at_ 0 y.p, uF b2 (y.seen.map fun s => (s, Value.bool true)), y.e])
  (fun y => wU (keys.map (·.1)) read parts y.n y.seen y.x y.ts = F /\ jT ws y.at_ y.ts /\ y.p + y.ts.length <= 4611686018427000000 /\ y.ts.length < n /\ y.ts.length < y.n /\ I y.seen y.x y.p y.e) (fun y => y.n)
  ⟨n, at1, p, ts1, [], x, e⟩ YV (.cons .h1 (.cons .here .p1)) ⟨hF, hp1, by show p + ts1.length <= _; omega, by show ts1.length < n; omega, by show ts1.length < n; omega, hx⟩ ?_
 clear hF hl1 hp1 hx;rintro ⟨j, a, p1, ts, seen, x, e⟩ ⟨hF, hp, hb, hn, hj, hx⟩;dsimp only at hF hp hb hn hj hx;dsimp only;obtain ⟨j, rfl⟩ : ∃ j', j = j' + 1 := ⟨j - 1, by omega⟩;unfold wU at hF;refine tr 4 ?_;refine C1 W3 rfl .here (fun m1 h1 he => WH (s := jv) (hw.mono h1) hp (qA _ rfl) zb) ?_;rintro _ _ ⟨rfl, rfl⟩;have hp200 := hI _ _ _ _ hx;cases hkb : isW jv ts with
 | true =>
   rw [if_pos hkb] at hF;have hnx := hp.isW hkb;by_cases h2 : 200 < p1
   ·rw [if_pos (hp200.1 h2)] at hF;refine vr 6 ?_;refine zm ?_;refine zk ?_;refine qt 7 ?_;refine Lb 0 yl .here ?_;refine y4 5 ?_;refine Cp eZ rfl .k0 (fun m' hm he => jR 3 (hw.mono hm) hp) ?_ ?_
    ·rintro _ _ rfl;exact pn ⟨3, _, hF.symm, rfl⟩
    ·rintro _ _ h;exact h.elim
   rw [if_neg (fun h => h2 (hp200.2 h))] at hF;refine vr 6 ?_;refine zm ?_;refine zk ?_;refine qt 7 ?_;refine Lb 0 yl .here ?_;refine zH 7 ?_;refine Bs 0 xH fun b3 => ?_;refine Cp uK rfl .k1 (fun m' hm he => xF (s := jv) (hw.mono hm) (Rd.blk (he _ (.head _))) (qA _ rfl) zb hp) ?_ ?_
   ·rintro _ _ ⟨e', a', h1, rfl⟩;rw [wi, if_pos hkb] at h1;cases h1
   rintro _ _ ⟨_, ts2, at2, _, h1, hp2, ⟨rfl, rfl⟩, rfl⟩;rw [wi, if_pos hkb] at h1;cases h1;refine vr 1 ?_;exact wu [] trivial _ (.cons .here .p2) ⟨x, ts.tail, at2, p1, e, seen, hF.symm, hp2, by omega, hx, rfl, rfl⟩
 | false =>
   rw [if_neg (by rw [hkb]; decide)] at hF;have hat := hp.word hw;have hA := hp.isSome hw;have hlt := hp.lt;refine vr 8 ?_;refine yw (sT [0, 1, 2, 4, 5, 6, 103, 107, 8, 9, 110, 11] .done) mixed zi (fun _ _ _ _ hq => hq) ?_;refine vt 6 ?_;refine Vl 0 rfl gu .here ?_;refine Vl 0 rfl yl .here ?_;refine Vt 1 rfl (zo kC rfl rfl hA za) ?_
   refine Vu 1 rfl (zl yI rfl (hat.at_ rfl)) ?_;refine Vm 5 ?_;refine lr 10 (d7 hM gC rfl rfl Eg) ?_;rcases P2 (k := (hd ts).text) keys with ⟨hin, k, hk, hke, hg⟩ | ⟨hin, hg⟩
   ·rw [hg];dsimp only [Option.getD_some, Option.isSome_some];by_cases h1 : (hd ts).kind = 1
    ·rw [if_pos ⟨h1, hin⟩] at hF;have hp2 := hp.next za
     have htl : ts.tail.length + 1 = ts.length := by
      have := hp2.len;have := hp.len;omega
     refine yw (sT [0, 1, 2, 3, 4, 5, 7, 8, 9, 106, 110, 11, 12, 113, 14, 15, 16] .done) mixed zi (fun _ _ _ _ hq => hq) ?_;refine vt 9 ?_;refine Vl 0 rfl gu .here ?_;refine Vl 0 rfl yl .here ?_;refine Vt 1 rfl (zo kC rfl rfl hA za) ?_;refine Vu 0 rfl (zl ze rfl (hat.at_ rfl)) ?_;refine Vt 2 rfl (df (K5 rfl rfl) za) ?_;refine Vm 6 ?_
     refine lr 3 (cr qZ rfl rfl .h1 al) ?_;rw [H5];by_cases hs : (hd ts).text ∈ seen
     ·rw [if_pos hs] at hF;rw [decide_eq_true hs];refine tr 3 ?_;refine Cp eZ rfl .k0 (fun m' hm he => jR 101 (hw.mono hm) hp) ?_ ?_
      ·rintro _ _ rfl;refine yk ?_;refine zC ?_;exact pn ⟨101, _, hF.symm, rfl⟩
      ·rintro _ _ h;exact h.elim
     rw [if_neg hs] at hF;rw [decide_eq_false hs];refine tr 8 ?_;refine zg (wY qZ rfl rfl rfl .h1 ?_) rfl;refine vr 7 ?_;refine Lb 0 yl .here ?_;refine Pa 2 ?_;refine Sr 4 fB .here .h1 ?_;rw [HP hs]
     refine zg (vV (p := []) (q := k.2.2) (vs := []) (hcl k hk) rfl rfl (.cons .here .k1) (fun m' hm he => hR k hk seen (by rw [hke]; exact hs) m' hm x e (a + 1) p1 ts.tail hx hp2 za za) rfl ?_ ?_) rfl
     ·rintro _ _ ⟨e', a', h1, rfl⟩;rw [<- hke, h1] at hF;refine Q9 ?_;refine zC ?_;exact pn ⟨e', a', hF.symm, rfl⟩
     rintro _ _ ⟨x2, ts2, at2, p2, e2, h1, hp3, hle, hle2, hx2, rfl, rfl⟩;rw [<- hke, h1] at hF;rw [hke] at hF hx2;dsimp only [R.bind] at hF;refine vr 2 ?_;exact QR (⟨j, at2, p2, ts2, seen ++ [(hd ts).text], x2, e2⟩ : C8 σ) (.cons .here (.cons .h1 .p0)) ⟨hF, hp3, by show p2 + ts2.length <= _; omega, by show ts2.length < n; omega, by show ts2.length < j; omega, hx2⟩ (Nat.lt_succ_self _)
    ·rw [if_neg (fun h => h1 h.1)] at hF;refine yw (sT [0, 1, 2, 3, 4, 5, 7, 8, 9, 106, 110, 11, 12, 113, 14, 15, 16] .done) mixed zi (fun _ _ _ _ hq => hq) ?_;refine vt 9 ?_;refine Vl 0 rfl gu .here ?_;refine Vl 0 rfl yl .here ?_;refine Vt 1 rfl (zo kC rfl rfl hA za) ?_;refine Vu 0 rfl (zl ze rfl (hat.at_ rfl)) ?_
     refine Vt 2 rfl (dt (K5 rfl rfl) xi) ?_;refine Vm 4 ?_;refine Cp eZ rfl .k0 (fun m' hm he => jR 120 (hw.mono hm) hp) ?_ ?_
     ·rintro _ _ rfl;refine yk ?_;refine zC ?_;exact pn ⟨120, _, hF.symm, rfl⟩
     ·rintro _ _ h;exact h.elim
   ·rw [hg];dsimp only [Option.getD_none, Option.isSome_none];rw [if_neg (fun h => hin h.2)] at hF;refine yw (sT [0, 1, 2, 3, 4, 5, 7, 8, 9, 106, 110, 11, 12, 113, 14, 15, 16] .done) mixed zi (fun _ _ _ _ hq => hq) ?_;refine vt 17 ?_;refine Vm 4 ?_;refine Cp eZ rfl .k0 (fun m' hm he => jR 120 (hw.mono hm) hp) ?_ ?_
    ·rintro _ _ rfl;refine yk ?_;refine zC ?_;exact pn ⟨120, _, hF.symm, rfl⟩
    ·rintro _ _ h;exact h.elim
end
section
open Wd Tp Kd
variable {m : Mp} {b c at_ d p : Nat} {A : Oa} {ws ts : List yf}
theorem zN.unpack2 {a e f : yb} : zN [a, yF [e, f]] [a, e, f] := fun m h hs => by
 have h1 := hs.take (Tk.there Tk.here);have h2 : HS m ([e, f] ++ [a]) h := HS.pack_iff.2 h1;exact (zN.cons .h2 .pp) m h h2
structure ef where
 A : Oa
 ca : Nat
 B : Oa
 cb : Nat
 D : Oa
 cd : Nat
abbrev ef.v (q : ef) (x : zP) : Lv := [.string (bs x.name), .bool x.unit, .int .i64 x.cost, .int .i64 x.power, .int .i64 x.health, .int .i64 x.shield, .int .i64 x.apow, .int .i64 x.aheal, .slice q.A x.played.length q.ca, .slice q.B x.dead.length q.cb, .slice q.D x.dawn.length q.cd, .int .i64 x.at_]
def bi (m : Mp) (vs : Lv) (x : zP) : Prop := ∃ q : ef, vs = q.v x /\ x.name.length <= 65536 /\ xV m q.A x.played.length x.played /\ xV m q.B x.dead.length x.dead /\ xV m q.D x.dawn.length x.dawn
theorem bi.mono {m' : Mp} {vs : Lv} {x : zP} (h : bi m vs x) (hl : Le m m') : bi m' vs x := by
 obtain ⟨q, h1, h2, h3, h4, h5⟩ := h;exact ⟨q, h1, h2, h3.mono hl, h4.mono hl, h5.mono hl⟩
theorem xV.z (m : Mp) : xV m none 0 [] := ⟨rfl, Nat.zero_le _, [], Rd.nil _ _, rfl, fun i h => by cases h⟩
def Jj (b4 : Nat) (seen : List Bt) (x : zP) (p : Nat) (e : yb) : Prop := ∃ (q : ef) (o : yb), e = yF [cel b4 (q.v x) 48, o] /\ (∀ ns, o.inv ns -> xV ns q.A x.played.length x.played /\ xV ns q.B x.dead.length x.dead /\ xV ns q.D x.dawn.length x.dawn) /\
 p = yD x /\ x.name.length <= 65536 /\ (xu ∉ seen -> x.played = []) /\ (uj ∉ seen -> x.dead = []) /\ (uy ∉ seen -> x.dawn = [])
variable {k : Bt} {seen : List Bt}
theorem L8 {s : Bt} (h : s ∉ seen ++ [k]) : s ∉ seen := fun hm => h (List.mem_append_left _ hm)
theorem Tj (h : k ∉ seen ++ [k]) : False := h (List.mem_append_right _ (.head _))
theorem Yt : yM [] = 0 := rfl
variable {b2 b4 n : Nat}
theorem S9 (hbox : Wc m ⟨b2, 0, none⟩ (zS b)) (hT : xU m) (hw : eu m A ws) (hcap : ws.length <= c) (hs : xu ∉ seen) : LO m b A c ws 81 [zS b2, zS b4] (xp n xu) (Jj b4 seen) (Jj b4 (seen ++ [xu])) n := by
 rintro m' hm x e at_ p ts ⟨q, o, rfl, hes, rfl, hnm, h1, h2, h3⟩ hp hb hn;generalize hF : xp n xu x ts = F;unfold xp at hF;rw [if_pos rfl] at hF;have hbx := hbox.mono hm;clear hbox;refine ym [] Tryz.func81 rfl rfl rfl ?_;refine qS _ zN.unpack2 ?_;refine tr 1 ?_;refine lr 0 (xZ qH rfl hbx) ?_
 refine Cp Oe rfl .k0 (fun m1 hm1 he => XO hcap n (hT.mono (hm.trans hm1)) (hw.mono (hm.trans hm1)) m1 (Le.refl _) at_ 0 (yD x) ts hp za hb hn) ?_ ?_
 ·rintro _ _ ⟨e', a', h1, rfl⟩;rw [h1] at hF;skip;exact pn ⟨e', a', hF.symm, rfl⟩
 rintro _ _ ⟨l, ts1, at1, _, hl, hp1, ⟨K, kc, e, rfl, rfl, he⟩, rfl⟩;rw [hl] at hF;dsimp only [R.bind] at hF;have hlen := (uL n 0 ts hn).2 _ _ hl;have hz := h1 hs;refine vr 1 ?_;refine Sr 1 Ob .h2 .h8 ?_
 refine wu [] trivial _ (.cons .here (zN.pack2 (a := cel b4 (ef.v ⟨K, kc, q.B, q.cb, q.D, q.cd⟩ { x with played := l }) 48) (b := yF [o, e]) (.cons .h1 (zN.pack2 (.cons .h1 .p0))))) ⟨{ x with played := l }, ts1, at1, yD x + yM l, _, hF.symm, hp1, by omega, by omega, ⟨⟨K, kc, q.B, q.cb, q.D, q.cd⟩, yF [o, e], rfl, fun ns h => ⟨he ns (h.1 _ (.tail _ (.head _))), (hes ns (h.1 _ (.head _))).2.1, (hes ns (h.1 _ (.head _))).2.2⟩, ?_, hnm, fun h => (Tj h).elim, fun h => h2 (L8 h), fun h => h3 (L8 h)⟩, rfl, rfl⟩
 unfold yD;rw [hz, Yt];dsimp only;omega
theorem S8 (hbox : Wc m ⟨b2, 0, none⟩ (zS b)) (hT : xU m) (hw : eu m A ws) (hcap : ws.length <= c) (hs : uj ∉ seen) : LO m b A c ws 83 [zS b2, zS b4] (xp n uj) (Jj b4 seen) (Jj b4 (seen ++ [uj])) n := by
 rintro m' hm x e at_ p ts ⟨q, o, rfl, hes, rfl, hnm, h1, h2, h3⟩ hp hb hn;generalize hF : xp n uj x ts = F;unfold xp at hF;rw [if_neg zb, if_pos rfl] at hF;have hbx := hbox.mono hm;clear hbox;refine ym [] Tryz.func83 rfl rfl rfl ?_;refine qS _ zN.unpack2 ?_;refine tr 1 ?_;refine lr 0 (xZ qH rfl hbx) ?_
 refine Cp Oe rfl .k0 (fun m1 hm1 he => XO hcap n (hT.mono (hm.trans hm1)) (hw.mono (hm.trans hm1)) m1 (Le.refl _) at_ 0 (yD x) ts hp za hb hn) ?_ ?_
 ·rintro _ _ ⟨e', a', h1, rfl⟩;rw [h1] at hF;skip;exact pn ⟨e', a', hF.symm, rfl⟩
 rintro _ _ ⟨l, ts1, at1, _, hl, hp1, ⟨K, kc, e, rfl, rfl, he⟩, rfl⟩;rw [hl] at hF;dsimp only [R.bind] at hF;have hlen := (uL n 0 ts hn).2 _ _ hl;have hz := h2 hs;refine vr 1 ?_;refine Sr 1 Ob .h2 .h9 ?_
 refine wu [] trivial _ (.cons .here (zN.pack2 (a := cel b4 (ef.v ⟨q.A, q.ca, K, kc, q.D, q.cd⟩ { x with dead := l }) 48) (b := yF [o, e]) (.cons .h1 (zN.pack2 (.cons .h1 .p0))))) ⟨{ x with dead := l }, ts1, at1, yD x + yM l, _, hF.symm, hp1, by omega, by omega, ⟨⟨q.A, q.ca, K, kc, q.D, q.cd⟩, yF [o, e], rfl, fun ns h => ⟨(hes ns (h.1 _ (.head _))).1, he ns (h.1 _ (.tail _ (.head _))), (hes ns (h.1 _ (.head _))).2.2⟩, ?_, hnm, fun h => h1 (L8 h), fun h => (Tj h).elim, fun h => h3 (L8 h)⟩, rfl, rfl⟩
 unfold yD;rw [hz, Yt];dsimp only;omega
theorem S7 (hbox : Wc m ⟨b2, 0, none⟩ (zS b)) (hT : xU m) (hw : eu m A ws) (hcap : ws.length <= c) (hs : uy ∉ seen) : LO m b A c ws 84 [zS b2, zS b4] (xp n uy) (Jj b4 seen) (Jj b4 (seen ++ [uy])) n := by
 rintro m' hm x e at_ p ts ⟨q, o, rfl, hes, rfl, hnm, h1, h2, h3⟩ hp hb hn;generalize hF : xp n uy x ts = F;unfold xp at hF;rw [if_neg zb, if_neg zb, if_pos rfl] at hF;have hbx := hbox.mono hm;clear hbox;refine ym [] Tryz.func84 rfl rfl rfl ?_;refine qS _ zN.unpack2 ?_;refine tr 1 ?_;refine lr 0 (xZ qH rfl hbx) ?_
 refine Cp Oe rfl .k0 (fun m1 hm1 he => XO hcap n (hT.mono (hm.trans hm1)) (hw.mono (hm.trans hm1)) m1 (Le.refl _) at_ 0 (yD x) ts hp za hb hn) ?_ ?_
 ·rintro _ _ ⟨e', a', h1, rfl⟩;rw [h1] at hF;skip;exact pn ⟨e', a', hF.symm, rfl⟩
 rintro _ _ ⟨l, ts1, at1, _, hl, hp1, ⟨K, kc, e, rfl, rfl, he⟩, rfl⟩;rw [hl] at hF;dsimp only [R.bind] at hF;have hlen := (uL n 0 ts hn).2 _ _ hl;have hz := h3 hs;refine vr 1 ?_;refine Sr 1 Ob .h2 .h10 ?_
 refine wu [] trivial _ (.cons .here (zN.pack2 (a := cel b4 (ef.v ⟨q.A, q.ca, q.B, q.cb, K, kc⟩ { x with dawn := l }) 48) (b := yF [o, e]) (.cons .h1 (zN.pack2 (.cons .h1 .p0))))) ⟨{ x with dawn := l }, ts1, at1, yD x + yM l, _, hF.symm, hp1, by omega, by omega, ⟨⟨q.A, q.ca, q.B, q.cb, K, kc⟩, yF [o, e], rfl, fun ns h => ⟨(hes ns (h.1 _ (.head _))).1, (hes ns (h.1 _ (.head _))).2.1, he ns (h.1 _ (.tail _ (.head _)))⟩, ?_, hnm, fun h => h1 (L8 h), fun h => h2 (L8 h), fun h => (Tj h).elim⟩, rfl, rfl⟩
 unfold yD;rw [hz, Yt];dsimp only;omega
theorem S6 (hbox : Wc m ⟨b2, 0, none⟩ (zS b)) (hw : eu m A ws) : LO m b A c ws 85 [zS b2, zS b4] (xp n j0) (Jj b4 seen) (Jj b4 (seen ++ [j0])) n := by
 rintro m' hm x e at_ p ts ⟨q, o, rfl, hes, rfl, hnm, h1, h2, h3⟩ hp hb hn;generalize hF : xp n j0 x ts = F;unfold xp at hF;rw [if_neg zb, if_neg zb, if_neg zb, if_pos rfl] at hF;have hbx := hbox.mono hm;clear hbox;refine ym [] Tryz.func85 rfl rfl rfl ?_;refine qS _ zN.unpack2 ?_;refine tr 2 ?_;refine lr 0 (xZ qH rfl hbx) ?_
 refine Cp W1 rfl .k0 (fun m1 hm1 he => qu (hw.mono (hm.trans hm1)) hp) ?_ ?_
 ·rintro _ _ ⟨e', a', h1, rfl⟩;rw [h1] at hF;exact pn ⟨e', a', hF.symm, rfl⟩
 rintro _ _ ⟨v1, ts1, at1, _, h1, hp1, ⟨rfl, rfl⟩, rfl⟩;rw [h1] at hF;dsimp only [R.bind] at hF;have hl1 : 1 + ts1.length <= ts.length := (yY (ts := ts)).2 _ _ h1;clear h1;refine vr 1 ?_;refine Sr 4 fB .h1 .h6 ?_;refine lr 0 (xZ qH rfl hbx) ?_;refine Bs 0 xH fun b1 => ?_
 refine Cp uK rfl .k1 (fun m1 hm1 he => xF (s := jZ) (hw.mono (hm.trans hm1)) (Rd.blk (he _ (.head _))) (qA _ rfl) zb hp1) ?_ ?_
 ·rintro _ _ ⟨e', a', h1, rfl⟩;rw [h1] at hF;exact pn ⟨e', a', hF.symm, rfl⟩
 rintro _ _ ⟨_, ts2, at2, _, h1, hp2, ⟨rfl, rfl⟩, rfl⟩;rw [h1] at hF;dsimp only [R.bind] at hF;have hl2 : 1 + ts2.length <= ts1.length := (zK (s := jZ) (ts := ts1)).2 _ _ h1;clear h1;refine vr 4 ?_;refine lr 0 (xZ qH rfl hbx) ?_;refine Cp W1 rfl .k0 (fun m1 hm1 he => qu (hw.mono (hm.trans hm1)) hp2) ?_ ?_
 ·rintro _ _ ⟨e', a', h1, rfl⟩;rw [h1] at hF;exact pn ⟨e', a', hF.symm, rfl⟩
 rintro _ _ ⟨v2, ts3, at3, _, h1, hp3, ⟨rfl, rfl⟩, rfl⟩;rw [h1] at hF;dsimp only [R.bind] at hF;have hl3 : 1 + ts3.length <= ts2.length := (yY (ts := ts2)).2 _ _ h1;clear h1;refine vr 1 ?_;refine Sr 3 fB .h2 .h7 ?_;refine lr 0 (xZ qH rfl hbx) ?_;refine Bs 0 xH fun b3 => ?_
 refine Cp uK rfl .k1 (fun m1 hm1 he => xF (s := yg) (hw.mono (hm.trans hm1)) (Rd.blk (he _ (.head _))) (qA _ rfl) zb hp3) ?_ ?_
 ·rintro _ _ ⟨e', a', h1, rfl⟩;rw [h1] at hF;skip;exact pn ⟨e', a', hF.symm, rfl⟩
 rintro _ _ ⟨_, ts4, at4, _, h1, hp4, ⟨rfl, rfl⟩, rfl⟩;rw [h1] at hF;dsimp only [R.bind] at hF;have hl4 : 1 + ts4.length <= ts3.length := (zK (s := yg) (ts := ts3)).2 _ _ h1;clear h1;refine vr 1 ?_
 exact wu [] trivial _ (.cons .here (zN.pack2 (a := cel b4 (ef.v q { x with apow := v1, aheal := v2 }) 48) (b := o) (.cons .h2 .p2))) ⟨{ x with apow := v1, aheal := v2 }, ts4, at4, yD x, _, hF.symm, hp4, by omega, by omega, ⟨q, o, rfl, hes, rfl, hnm, fun h => h1 (L8 h), fun h => h2 (L8 h), fun h => h3 (L8 h)⟩, rfl, rfl⟩
theorem S5 (hbox : Wc m ⟨b2, 0, none⟩ (zS b)) (hw : eu m A ws) : LO m b A c ws 86 [zS b2, zS b4] (xp n vm) (Jj b4 seen) (Jj b4 (seen ++ [vm])) n := by
 rintro m' hm x e at_ p ts ⟨q, o, rfl, hes, rfl, hnm, h1, h2, h3⟩ hp hb hn;generalize hF : xp n vm x ts = F;unfold xp at hF;rw [if_neg zb, if_neg zb, if_neg zb, if_neg zb] at hF;have hbx := hbox.mono hm;clear hbox;refine ym [] Tryz.func86 rfl rfl rfl ?_;refine qS _ zN.unpack2 ?_;refine tr 2 ?_;refine lr 0 (xZ qH rfl hbx) ?_
 refine Cp W1 rfl .k0 (fun m1 hm1 he => qu (hw.mono (hm.trans hm1)) hp) ?_ ?_
 ·rintro _ _ ⟨e', a', h1, rfl⟩;rw [h1] at hF;exact pn ⟨e', a', hF.symm, rfl⟩
 rintro _ _ ⟨v1, ts1, at1, _, h1, hp1, ⟨rfl, rfl⟩, rfl⟩;rw [h1] at hF;dsimp only [R.bind] at hF;have hl1 : 1 + ts1.length <= ts.length := (yY (ts := ts)).2 _ _ h1;clear h1;refine vr 1 ?_;refine Sr 3 fB .h1 .h5 ?_;refine lr 0 (xZ qH rfl hbx) ?_;refine Bs 0 xH fun b1 => ?_
 refine Cp uK rfl .k1 (fun m1 hm1 he => xF (s := yg) (hw.mono (hm.trans hm1)) (Rd.blk (he _ (.head _))) (qA _ rfl) zb hp1) ?_ ?_
 ·rintro _ _ ⟨e', a', h1, rfl⟩;rw [h1] at hF;skip;exact pn ⟨e', a', hF.symm, rfl⟩
 rintro _ _ ⟨_, ts2, at2, _, h1, hp2, ⟨rfl, rfl⟩, rfl⟩;rw [h1] at hF;dsimp only [R.bind] at hF;have hl2 : 1 + ts2.length <= ts1.length := (zK (s := yg) (ts := ts1)).2 _ _ h1;clear h1;refine vr 1 ?_
 exact wu [] trivial _ (.cons .here (zN.pack2 (a := cel b4 (ef.v q { x with shield := v1 }) 48) (b := o) (.cons .h1 .p1))) ⟨{ x with shield := v1 }, ts2, at2, yD x, _, hF.symm, hp2, by omega, by omega, ⟨q, o, rfl, hes, rfl, hnm, fun h => h1 (L8 h), fun h => h2 (L8 h), fun h => h3 (L8 h)⟩, rfl, rfl⟩
end
section
open Wd Tp Kd
theorem z6 {P : Program} {rs : List ResultVar} {env : yW} {m m2 : Mp} {L : List yb} {post ppost : Value -> List yb -> Prop} (hl : Le m m2) (vs : Lv) (hv : cv P env L rs vs) (L' : List yb) (hp : zN L L') (hq : post (ao vs) L') : QS (VA P rs (wB m post) (wB m ppost)) .ret env m2 L :=
 fun h hs => ⟨vs, hv.ok hs, L', hq, (hp m2 h hs).weaken hl⟩
abbrev qP (q : Lv) : List (Bt × FuncId × Lv) := [(xu, 81, q), (uj, 83, q), (uy, 84, q), (j0, 85, q), (vm, 86, q)]
abbrev Kz (f : FuncId) (q : Lv) : Value := .func (.func f) [].toArray q.toArray
theorem SE (q : Lv) : gK (gK (gK (gK (gK [] xu (Kz 81 q)) uj (Kz 83 q)) uy (Kz 84 q)) j0 (Kz 85 q)) vm (Kz 86 q) = ay (qP q) := rfl
theorem Ot {q : Lv} : ∀ k ∈ qP q, yX Tryz.prog k.2.1 = true := fun k hk => by
 simp only [qP, List.mem_cons, List.not_mem_nil, or_false] at hk;rcases hk with rfl | rfl | rfl | rfl | rfl
 ·exact Cm
 ·exact Cl
 ·exact Ck
 ·exact Cj
 ·exact Ci
variable {m : Mp} {b c at_ d p : Nat} {A : Oa} {ws ts : List yf}
variable {b4 n : Nat}
theorem Oo {b2 : Nat} (hbox : Wc m ⟨b2, 0, none⟩ (zS b)) (hT : xU m) (hw : eu m A ws) (hcap : ws.length <= c) : ∀ k ∈ qP [zS b2, zS b4], ∀ seen, k.1 ∉ seen -> LO m b A c ws k.2.1 k.2.2 (xp n k.1) (Jj b4 seen) (Jj b4 (seen ++ [k.1])) n := fun k hk seen hs => by
 simp only [qP, List.mem_cons, List.not_mem_nil, or_false] at hk;rcases hk with rfl | rfl | rfl | rfl | rfl
 ·exact S9 hbox hT hw hcap hs
 ·exact S8 hbox hT hw hcap hs
 ·exact S7 hbox hT hw hcap hs
 ·exact S6 hbox hw
 ·exact S5 hbox hw
theorem Jj.pw : ∀ (seen : List Bt) (x : zP) (p : Nat) (e : yb), Jj b4 seen x p e -> (200 < p ↔ 200 < yD x) := by
 rintro seen x p e ⟨q, o, -, -, rfl, -⟩;exact Iff.rfl
theorem Ou {n : Nat} {at0 : Int} (hT : xU m) (hw : eu m A ws) (hcap : ws.length <= c) (hp : jT ws at_ ts) (hn : ts.length < n) : Vw Tryz.prog 52 [zS b, .int .i64 at0] m [rd b A c ws at_ 0 p]
  (fun v L' => ∃ x ts' at' p' q e, fd yD n at0 ts = .ok x ts' /\ jT ws at' ts' /\ p' <= 200 /\ v = .agg (ef.v q x).toArray /\ L' = [rd b A c ws at' 0 p', e] /\ x.name.length <= 65536 /\ yD x <= 200 /\ ∀ ns, e.inv ns -> xV ns q.A x.played.length x.played /\ xV ns q.B x.dead.length x.dead /\ xV ns q.D x.dawn.length x.dawn)
  (fun v _ => ∃ e a, fd yD n at0 ts = .bad e a /\ v = WO e a) := by
 generalize hF : fd yD n at0 ts = F;unfold fd at hF;have hsm := hp.small;have hlen := hp.len;refine ym [.cell 4 48] Tryz.func52 rfl rfl rfl ?_;refine tr 2 ?_;refine Bx 0 rfl fun b1 => ?_;refine Al 5 Vx fun b2 => ?_;refine Lb 0 qH .h1 ?_;refine Cp Ln rfl .k2 (fun m' hm he => Yg (hT.mono hm) (hw.mono hm) hp) ?_ ?_
 ·rintro _ _ ⟨e', a', h1, rfl⟩;rw [h1] at hF;exact pn ⟨e', a', hF.symm, rfl⟩
 rintro _ _ ⟨s, ts1, at1, _, h1, hp1, ⟨rfl, rfl⟩, rfl⟩;rw [h1] at hF;dsimp only [R.bind] at hF;have hl1 : 1 + ts1.length <= ts.length := (uq (ts := ts)).2 _ _ h1;have hs5 := eL hp h1;clear h1;refine vr 1 ?_;refine Sr 1 fB .h1 .h11 ?_;refine Sr 5 Pm .h1 .here ?_;refine Lb 0 qH .h2 ?_
 refine C1 ge rfl .here (fun m' hm he => wS (s := V7) (hw.mono hm) hp1 (qA _ rfl) zb) ?_;rintro _ _ (⟨hk, hp2, rfl, rfl⟩ | ⟨hk, rfl, rfl⟩)
 ·have hlk := yG hk;rw [if_pos hk] at hF;refine vr 6 ?_;refine Sr 4 T9 .h1 .h1 ?_;refine Lb 0 qH .h2 ?_;refine Cp W1 rfl .k0 (fun m' hm he => qu (hw.mono hm) hp2) ?_ ?_
  ·rintro _ _ ⟨e', a', h1, rfl⟩;rw [h1] at hF;exact pn ⟨e', a', hF.symm, rfl⟩
  rintro _ _ ⟨vc, ts2, at2, _, h1, hp3, ⟨rfl, rfl⟩, rfl⟩;rw [h1] at hF;dsimp only [R.bind] at hF;have hl3 : 1 + ts2.length <= ts1.tail.length := (yY (ts := ts1.tail)).2 _ _ h1;clear h1;refine vr 1 ?_;refine Sr 4 fB .h1 .h2 ?_;refine Lb 0 qH .h2 ?_;refine Cp W1 rfl .k0 (fun m' hm he => qu (hw.mono hm) hp3) ?_ ?_
  ·rintro _ _ ⟨e', a', h1, rfl⟩;rw [h1] at hF;exact pn ⟨e', a', hF.symm, rfl⟩
  rintro _ _ ⟨vp, ts3, at3, _, h1, hp4, ⟨rfl, rfl⟩, rfl⟩;rw [h1] at hF;dsimp only [R.bind] at hF;have hl4 : 1 + ts3.length <= ts2.length := (yY (ts := ts2)).2 _ _ h1;clear h1;refine vr 1 ?_;refine Sr 4 fB .h1 .h3 ?_;refine Lb 0 qH .h2 ?_;refine Bs 0 xH fun b3 => ?_
  refine Cp uK rfl .k1 (fun m' hm he => xF (s := jZ) (hw.mono hm) (Rd.blk (he _ (.head _))) (qA _ rfl) zb hp4) ?_ ?_
  ·rintro _ _ ⟨e', a', h1, rfl⟩;rw [h1] at hF;exact pn ⟨e', a', hF.symm, rfl⟩
  rintro _ _ ⟨_, ts4, at4, _, h1, hp5, ⟨rfl, rfl⟩, rfl⟩;rw [h1] at hF;dsimp only [R.bind] at hF;have hl5 : 1 + ts4.length <= ts3.length := (zK (s := jZ) (ts := ts3)).2 _ _ h1;clear h1;refine vr 3 ?_;refine Lb 0 qH .h3 ?_;refine Cp W1 rfl .k0 (fun m' hm he => qu (hw.mono hm) hp5) ?_ ?_
  ·rintro _ _ ⟨e', a', h1, rfl⟩;rw [h1] at hF;exact pn ⟨e', a', hF.symm, rfl⟩
  rintro _ _ ⟨vh, ts5, at5, _, h1, hp6, ⟨rfl, rfl⟩, rfl⟩;rw [h1] at hF;dsimp only [R.bind] at hF;have hl6 : 1 + ts5.length <= ts4.length := (yY (ts := ts4)).2 _ _ h1;clear h1;refine vr 1 ?_;refine Sr 4 fB .h2 .h4 ?_;refine Lb 2 qH .h3 ?_;refine Sr 4 fB .here .h3 ?_;refine Lb 0 qH .h3 ?_;refine zg (qT rfl (fun b4 => ?_)) rfl;refine vr 1 ?_
  refine zg (vJ (k := xu) gC rfl rfl rfl .here ?_) rfl;refine vr 1 ?_;refine zg (vJ (k := uj) gC rfl rfl rfl .here ?_) rfl;refine vr 1 ?_;refine zg (vJ (k := uy) gC rfl rfl rfl .here ?_) rfl;refine vr 1 ?_;refine zg (vJ (k := j0) gC rfl rfl rfl .here ?_) rfl;refine vr 1 ?_
  refine zg (vJ (k := vm) gC rfl rfl rfl .here ?_) rfl;refine vr 1 ?_;refine bW .here (fun ns1 hi1 _ hd1 => ?_);refine bW .h3 (fun ns2 hi2 _ hd2 => ?_);have hM : gG (yj (yj m ns1) ns2) b4 (ay (qP [zS b1, zS b2])) := (show gG ns1 b4 (ay (qP [zS b1, zS b2])) by rw [<- SE]; exact hi1).mono ((yq hd1).trans (zU _ _))
  have hbx : Wc (yj (yj m ns1) ns2) ⟨b1, 0, none⟩ (zS b) := (Wc.cel (e := 97) hi2 rfl).mono (yq hd2);have hl2 : Le m (yj (yj m ns1) ns2) := (zU _ _).trans (zU _ _);clear hi1 hi2 hd1 hd2
  refine Z0 [rd b A c ws at5 0 0, yF [cel b2 (ef.v ⟨none, 0, none, 0, none, 0⟩ ⟨s, true, vc, vp, vh, 0, 0, 0, [], [], [], at0⟩) 48, yF []]] (.cons .here (zN.pack2 (.cons .h1 (zN.nilE (.nil _))))) ?_
  refine Cp Fb rfl (.cons .here .k0) (fun m' hm he => U5 (n := n) (parts := yD) (read := xp n) (I := Jj b2) (hM.mono hm) Ot (Oo (hbx.mono hm) (hT.mono (hl2.trans hm)) (hw.mono (hl2.trans hm)) hcap) Jj.pw ⟨⟨none, 0, none, 0, none, 0⟩, yF [], rfl, fun ns _ => ⟨xV.z _, xV.z _, xV.z _⟩, rfl, hs5, fun _ => rfl, fun _ => rfl, fun _ => rfl⟩ (hw.mono (hl2.trans hm)) hp6 (by have := hp6.len; omega) za) ?_ ?_
  ·rintro _ _ ⟨e', a', h1, rfl⟩;exact pW hl2 ⟨e', a', hF.symm.trans h1, rfl⟩
  rintro _ _ ⟨x, ts9, at9, p9, e9, seen, h1, hp9, h200, ⟨q, o, rfl, hes, rfl, hnm, -, -, -⟩, rfl, rfl⟩;refine Z0 _ zN.unpack2 ?_;refine vr 4 ?_;refine Lc 0 kI .h1 ?_;refine Sg 3 kI .h1 ?_;exact z6 hl2 [_] ⟨⟨b2, _, _, _, rfl, .h1, .inr ⟨rfl, rfl⟩⟩, trivial⟩ _ (.cons .here .p1) ⟨x, ts9, at9, _, q, o, hF.symm.trans h1, hp9, h200, rfl, rfl, hnm, h200, hes⟩
 rw [if_neg (by rw [hk]; decide)] at hF;refine vr 5 ?_;refine Lb 0 qH .h2 ?_;refine Bs 0 xH fun b3 => ?_;refine Cp uK rfl .k1 (fun m' hm he => xF (s := dI) (hw.mono hm) (Rd.blk (he _ (.head _))) (qA _ rfl) zb hp1) ?_ ?_
 ·rintro _ _ ⟨e', a', h1, rfl⟩;rw [h1] at hF;exact pn ⟨e', a', hF.symm, rfl⟩
 rintro _ _ ⟨_, ts2, at2, _, h1, hp2, ⟨rfl, rfl⟩, rfl⟩;rw [h1] at hF;dsimp only [R.bind] at hF;have hl2 : 1 + ts2.length <= ts1.length := (zK (s := dI) (ts := ts1)).2 _ _ h1;clear h1;refine vr 3 ?_;refine Lb 0 qH .h3 ?_;refine Cp W1 rfl .k0 (fun m' hm he => qu (hw.mono hm) hp2) ?_ ?_
 ·rintro _ _ ⟨e', a', h1, rfl⟩;rw [h1] at hF;exact pn ⟨e', a', hF.symm, rfl⟩
 rintro _ _ ⟨vc, ts3, at3, _, h1, hp3, ⟨rfl, rfl⟩, rfl⟩;rw [h1] at hF;dsimp only [R.bind] at hF;have hl3 : 1 + ts3.length <= ts2.length := (yY (ts := ts2)).2 _ _ h1;clear h1;refine vr 1 ?_;refine Sr 4 fB .h2 .h2 ?_;refine Lb 2 qH .h3 ?_;refine Sr 4 fB .here .h3 ?_;refine Lb 0 qH .h3 ?_;refine zg (qT rfl (fun b4 => ?_)) rfl;refine vr 1 ?_
 refine zg (vJ (k := xu) gC rfl rfl rfl .here ?_) rfl;refine vr 1 ?_;refine zg (vJ (k := uj) gC rfl rfl rfl .here ?_) rfl;refine vr 1 ?_;refine zg (vJ (k := uy) gC rfl rfl rfl .here ?_) rfl;refine vr 1 ?_;refine zg (vJ (k := j0) gC rfl rfl rfl .here ?_) rfl;refine vr 1 ?_
 refine zg (vJ (k := vm) gC rfl rfl rfl .here ?_) rfl;refine vr 1 ?_;refine bW .here (fun ns1 hi1 _ hd1 => ?_);refine bW .h3 (fun ns2 hi2 _ hd2 => ?_);have hM : gG (yj (yj m ns1) ns2) b4 (ay (qP [zS b1, zS b2])) := (show gG ns1 b4 (ay (qP [zS b1, zS b2])) by rw [<- SE]; exact hi1).mono ((yq hd1).trans (zU _ _))
 have hbx : Wc (yj (yj m ns1) ns2) ⟨b1, 0, none⟩ (zS b) := (Wc.cel (e := 97) hi2 rfl).mono (yq hd2);have hl2 : Le m (yj (yj m ns1) ns2) := (zU _ _).trans (zU _ _);clear hi1 hi2 hd1 hd2
 refine Z0 [rd b A c ws at3 0 0, yF [cel b2 (ef.v ⟨none, 0, none, 0, none, 0⟩ ⟨s, false, vc, 0, 0, 0, 0, 0, [], [], [], at0⟩) 48, yF []]] (.cons .here (zN.pack2 (.cons .h1 (zN.nilE (.nil _))))) ?_
 refine Cp Fb rfl (.cons .here .k0) (fun m' hm he => U5 (n := n) (parts := yD) (read := xp n) (I := Jj b2) (hM.mono hm) Ot (Oo (hbx.mono hm) (hT.mono (hl2.trans hm)) (hw.mono (hl2.trans hm)) hcap) Jj.pw ⟨⟨none, 0, none, 0, none, 0⟩, yF [], rfl, fun ns _ => ⟨xV.z _, xV.z _, xV.z _⟩, rfl, hs5, fun _ => rfl, fun _ => rfl, fun _ => rfl⟩ (hw.mono (hl2.trans hm)) hp3 (by have := hp3.len; omega) za) ?_ ?_
 ·rintro _ _ ⟨e', a', h1, rfl⟩;exact pW hl2 ⟨e', a', hF.symm.trans h1, rfl⟩
 rintro _ _ ⟨x, ts9, at9, p9, e9, seen, h1, hp9, h200, ⟨q, o, rfl, hes, rfl, hnm, -, -, -⟩, rfl, rfl⟩;refine Z0 _ zN.unpack2 ?_;refine vr 4 ?_;refine Lc 0 kI .h1 ?_;refine Sg 3 kI .h1 ?_;exact z6 hl2 [_] ⟨⟨b2, _, _, _, rfl, .h1, .inr ⟨rfl, rfl⟩⟩, trivial⟩ _ (.cons .here .p1) ⟨x, ts9, at9, _, q, o, hF.symm.trans h1, hp9, h200, rfl, rfl, hnm, h200, hes⟩
end
section
open Wd Tp Kd
variable {m : Mp} {b d p : Nat}
variable {g : Bt -> Bt}
theorem ZH {f : Nat -> Option Bt} : (fX d fun d => (f d).map g) = (fX d f).map g := by
 unfold fX
 split <;> rfl
def vP (m : Mp) (b : Nat) (cs : Lv) (x : zY) : Prop := ∀ m', Le m m' -> ∀ (p d : Nat), p <= 200 -> d <= 8 -> Ih 132 [zS b, .agg cs.toArray] m' b p d (yC x d) (zV x)
theorem vP.mono {m' : Mp} {cs : Lv} {x : zY} (h : vP m b cs x) (hl : Le m m') : vP m' b cs x := fun m2 h2 => h m2 (hl.trans h2)
abbrev Rs (s : Bt) : Bt := zL ++ s ++ zz
variable {op n who : Int} {K : Oa} {k kc : Nat} {x y : zY} {op' n' who' : Int} {K' : Oa} {k' kc' : Nat}
theorem ZY {r : Option Bt} {w : Nat} (h : r = none \/ 200 < p + w) : r.map g = none \/ 200 < p + w := h.imp (fun h => by rw [h]; rfl) id
theorem Tx {B1 B2 : Nat} (h1 : Rd m (some ⟨B1, 0, none⟩) [zS b]) (h2 : Rd m (some ⟨B2, 0, none⟩) (n4 op n who K k kc)) (hx : vP m b (n4 op n who K k kc) x) (hp : p <= 200) (hd : d <= 8) : Ih 179 [zS B1, zS B2] m b p d ((yC x d).map Rs) (zV x) := by
 have hat : At m ⟨B2, 0, none⟩ (n4 op n who K k kc) := fun i u hi => h2.at_ hi;have hc1 : mc m ⟨B1, 0, none⟩ = some (zS b) := h1.at_ (i := 0) rfl;refine ym [.tmp 2] Tryz.func179 rfl rfl rfl ?_;have hsl : ∀ s, yC x d = some s -> s.length <= 24 * zV x := fun s hs => qM hs;refine tr 7 ?_;refine Lo 0 yO rfl hc1 ?_;refine La 0 zT hat ?_
 refine Cp qz rfl .k0 (fun m' hm he => hx m' hm p d hp hd) ?_ ?_
 ·rintro _ _ ⟨h1, rfl⟩;exact pn ⟨ZY h1, rfl⟩
 rintro _ _ ⟨s, h1, h2, rfl, rfl⟩;have hsl := hsl s h1;refine Ps 0 ?_;refine Ps 4 ?_;exact yp [_] zj [_] .p0 ⟨_, by rw [h1]; rfl, h2, rfl, rfl⟩
theorem aM {br : Bool} (hx : vP m b (n4 op n who K k kc) x) (hp : p <= 200) (hd : d <= 8) : Ih 171 [zS b, .agg (n4 op n who K k kc).toArray, .bool br] m b p d (jW br d (yC x)) (zV x) := by
 refine ym [.tmp 6] Tryz.func171 rfl rfl rfl ?_;cases br with
 | false =>
   refine tr 2 ?_;refine Bx 0 rfl fun b1 => ?_;refine Bx 13 rfl fun b2 => ?_;refine Lb 0 yO .h1 ?_;refine Lc 0 zT .here ?_;refine Cp qz rfl .k2 (fun m' hm he => hx m' hm p d hp hd) ?_ ?_
   ·rintro _ _ ⟨h1, rfl⟩;exact pn ⟨h1, rfl⟩
   rintro _ _ ⟨s, h1, h2, rfl, rfl⟩;refine vr 5 ?_;exact yp [_] zj [_] .p0 ⟨s, h1, h2, rfl, rfl⟩
 | true =>
   refine tr 2 ?_;refine Bx 0 rfl fun b1 => ?_;refine Bx 14 rfl fun b2 => ?_;refine zG .here (fun ns hi _ hd1 => ?_);refine zG .here (fun ns2 hi2 _ hd2 => ?_);have hR2 : Rd (yj (yj m ns) ns2) (some ⟨b2, 0, none⟩) (n4 op n who K k kc) := ((Rd.blk hi).mono (yq hd1)).mono (zU _ _);have hR1 : Rd (yj (yj m ns) ns2) (some ⟨b1, 0, none⟩) [zS b] := (Rd.blk hi2).mono (yq hd2)
   have hl2 : Le m (yj (yj m ns) ns2) := (zU _ _).trans (zU _ _);have hc1 : mc (yj (yj m ns) ns2) ⟨b1, 0, none⟩ = some (zS b) := hR1.at_ (i := 0) rfl;have hx := hx.mono hl2;clear hi hi2 hd1 hd2;refine tr 1 ?_;refine Lo 1 yO rfl hc1 ?_
   refine Cp KC rfl .k0 (fun m' hm he => eA (r := fun d => (yC x d).map Rs) (q := [zS b1, zS b2]) hd ES (fun h8 m2 hm2 => Tx (hR1.mono (hm.trans hm2)) (hR2.mono (hm.trans hm2)) (hx.mono (hm.trans hm2)) hp h8)) ?_ ?_
   ·rintro _ _ ⟨h1, rfl⟩;rw [ZH] at h1;exact pW hl2 ⟨h1, rfl⟩
   rintro _ _ ⟨s, h1, h2, rfl, rfl⟩;rw [ZH] at h1;refine vr 4 ?_;exact z6 hl2 [_] zj [_] .p0 ⟨s, h1, h2, rfl, rfl⟩
end
section
open Wd Tp Kd
variable {m : Mp} {b d p : Nat}
variable {op n who : Int} {K : Oa} {k kc : Nat} {x y : zY} {op' n' who' : Int} {K' : Oa} {k' kc' : Nat}
variable {f : Bt -> Bt -> Bt}
theorem PX {A B : Nat -> Option Bt} : (fX d fun d => uf f (A d) (B d)) = uf f (fX d A) (fX d B) := by
 unfold fX
 split <;> rfl
variable {r1 r2 : Option Bt} {v w : Nat}
theorem kV (h : r1 = none \/ 200 < p + w) : uf f r1 r2 = none \/ 200 < p + (w + v) := by
 rcases h with h | h
 ·left; rw [h]; rfl
 ·right; omega
theorem wq (h : r2 = none \/ 200 < p + w + v) : uf f r1 r2 = none \/ 200 < p + (w + v) := by
 rcases h with h | h
 ·left; rw [h]; cases r1 <;> rfl
 ·right; omega
variable {s : Bt}
theorem vE {t : Bt} (h1 : r1 = some s) (h2 : r2 = some t) : uf f r1 r2 = some (f s t) := by rw [h1, h2]; rfl
theorem PO (w s t : Bt) : w ++ [40] ++ s ++ [44, 32] ++ t ++ [41] = cR w s t := by simp [cR]
theorem Zg (w s t : Bt) : s ++ (32 :: w ++ [32]) ++ t = xe w s t := by simp [xe]
theorem ui (h : yC x d = some s) (hp : p + zV x <= 200) : s.length <= 4800 := by
 have := qM h;omega
theorem aY {br : Bool} (h : jW br d (yC x) = some s) (hp : p + zV x <= 200) : s.length <= 4810 := by
 have := gf (c := 0) (w := 24 * zV x) (fun d s h => qM h) h;omega
variable {B1 B2 B4 : Nat}
theorem Ru {w : Bt} {B3 : Nat} (h1 : Rd m (some ⟨B1, 0, none⟩) [zS b]) (h2 : Rd m (some ⟨B2, 0, none⟩) (n4 op n who K k kc)) (h3 : Rd m (some ⟨B3, 0, none⟩) [.string (bs w)]) (h4 : Rd m (some ⟨B4, 0, none⟩) (n4 op' n' who' K' k' kc')) (hx : vP m b (n4 op n who K k kc) x) (hy : vP m b (n4 op' n' who' K' k' kc') y) (hw : w.length <= 10) (hp : p <= 200) (hd : d <= 8) : Ih 170 [zS B1, zS B2, zS B3, zS B4] m b p d (uf (cR w) (yC x d) (yC y d)) (zV x + zV y) := by
 have hat : At m ⟨B2, 0, none⟩ (n4 op n who K k kc) := fun i u hi => h2.at_ hi;have hat4 : At m ⟨B4, 0, none⟩ (n4 op' n' who' K' k' kc') := fun i u hi => h4.at_ hi;have hc1 : mc m ⟨B1, 0, none⟩ = some (zS b) := h1.at_ (i := 0) rfl;have hc3 : mc m ⟨B3, 0, none⟩ = some (.string (bs w)) := h3.at_ (i := 0) rfl;skip;refine ym [.tmp 4] Tryz.func170 rfl rfl rfl ?_;refine tr 7 ?_
 refine Lo 0 yO rfl hc1 ?_;refine La 0 zT hat ?_;refine Cp qz rfl .k0 (fun m' hm he => hx m' hm p d hp hd) ?_ ?_
 ·rintro _ _ ⟨h1, rfl⟩;exact pn ⟨kV h1, rfl⟩
 rintro _ _ ⟨s, h1, h2, rfl, rfl⟩;have hsl := ui h1 h2;refine vr 4 ?_;refine Db (sq [0, 1, 2, 3, 4, 5, 6, 107, 8, 9, 10] .done) ?_;refine Vr 0 rfl (zl yI rfl hc3) ?_;refine Vs 1 rfl ?_;refine Vs 0 rfl ?_;refine Vs 0 rfl ?_;refine Vr 0 rfl (zl yO rfl hc1) ?_;refine Vr 0 rfl (zO zT rfl rfl hat4) ?_
 refine zf rfl ((z8 qz rfl .k0 (fun m' hm he => hy m' hm (p + zV x) d h2 hd) rfl ?_ ?_)) rfl
 ·rintro _ _ ⟨h3, rfl⟩;exact pn ⟨wq h3, rfl⟩
 rintro _ _ ⟨t, h3, h4, rfl, rfl⟩;have htl := ui h3 h4;refine Vs 0 rfl ?_;refine Vs 1 rfl ?_;refine Vn 2 ?_;rw [PO, Nat.add_assoc];exact yp [_] zj [_] .p0 ⟨_, vE h1 h3, by omega, rfl, rfl⟩
theorem Hh {w : Bt} (h1 : Rd m (some ⟨B1, 0, none⟩) [zS b]) (h2 : Rd m (some ⟨B2, 0, none⟩) (n4 op n who K k kc)) (h4 : Rd m (some ⟨B4, 0, none⟩) (n4 op' n' who' K' k' kc')) (hx : vP m b (n4 op n who K k kc) x) (hy : vP m b (n4 op' n' who' K' k' kc') y) (hw : w.length <= 10) (hp : p <= 200) (hd : d <= 8) : Ih 169 [.string (bs w), zS B1, zS B2, zS B4] m b p d (uf (cR w) (fX d (yC x)) (fX d (yC y))) (zV x + zV y) := by
 have hc1 : mc m ⟨B1, 0, none⟩ = some (zS b) := h1.at_ (i := 0) rfl;refine ym [.tmp 5] Tryz.func169 rfl rfl rfl ?_;rw [<- PX];refine tr 2 ?_;refine Bx 4 rfl fun b1 => ?_;refine zG .here (fun ns hi _ hd1 => ?_);have hR : Rd (yj m ns) (some ⟨b1, 0, none⟩) [.string (bs w)] := (Rd.blk hi).mono (yq hd1);have hl2 : Le m (yj m ns) := zU _ _;have hc1 := xv hl2 hc1;clear hi hd1
 refine tr 1 ?_;refine Lo 1 yO rfl hc1 ?_;refine Cp KC rfl .k0 (fun m' hm he => eA (r := fun d => uf (cR w) (yC x d) (yC y d)) (q := [zS B1, zS B2, zS b1, zS B4]) hd EV (fun h8 m2 hm2 => have hl := hl2.trans (hm.trans hm2); Ru (h1.mono hl) (h2.mono hl) (hR.mono (hm.trans hm2)) (h4.mono hl) (hx.mono hl) (hy.mono hl) hw hp h8)) ?_ ?_
 ·rintro _ _ ⟨h3, rfl⟩;exact pW hl2 ⟨h3, rfl⟩
 rintro _ _ ⟨t, h3, h4, rfl, rfl⟩;refine vr 4 ?_;exact z6 hl2 [_] zj [_] .p0 ⟨t, h3, h4, rfl, rfl⟩
theorem Mt : b7 11 x y d = uf (cR Xs) (fX d (yC x)) (fX d (yC y)) := rfl
theorem Mu : b7 12 x y d = uf (cR Xt) (fX d (yC x)) (fX d (yC y)) := rfl
theorem Ms : b7 10 x y d = uf (xe wo) (jW (xM x) d (yC x)) (jW (xM y || decide (Jh y = 10)) d (yC y)) := rfl
theorem Mv : b7 8 x y d = uf (xe jd) (yC x d) (jW (xM y) d (yC y)) := rfl
theorem Mr : b7 9 x y d = uf (xe uc) (yC x d) (jW (xM y) d (yC y)) := rfl
theorem SX {o : Int} (hx : vP m b (n4 op n who K k kc) x) (hy : vP m b (n4 op' n' who' K' k' kc') y) (hox : Jh x = op) (hoy : Jh y = op') (ho : 8 <= o /\ o <= 12) (hp : p <= 200) (hd : d <= 8) :
  Ih 152 [zS b, .int .i8 o, .agg (n4 op n who K k kc).toArray, .agg (n4 op' n' who' K' k' kc').toArray] m b p d (b7 o x y d) (zV x + zV y) := by
 skip;refine ym [.tmp 8] Tryz.func152 rfl rfl rfl ?_;refine tr 2 ?_;refine Bx 0 rfl fun b1 => ?_;refine Bx 0 rfl fun b2 => ?_;refine Bx 4 rfl fun b3 => ?_;refine zG .here (fun ns hi _ hd1 => ?_);refine zG .here (fun ns2 hi2 _ hd2 => ?_);refine zG .here (fun ns3 hi3 _ hd3 => ?_)
 have hR3 : Rd (yj (yj (yj m ns) ns2) ns3) (some ⟨b3, 0, none⟩) (n4 op' n' who' K' k' kc') := (((Rd.blk hi).mono (yq hd1)).mono (zU _ _)).mono (zU _ _);have hR2 : Rd (yj (yj (yj m ns) ns2) ns3) (some ⟨b2, 0, none⟩) (n4 op n who K k kc) := ((Rd.blk hi2).mono (yq hd2)).mono (zU _ _)
 have hR1 : Rd (yj (yj (yj m ns) ns2) ns3) (some ⟨b1, 0, none⟩) [zS b] := (Rd.blk hi3).mono (yq hd3);have hl2 : Le m (yj (yj (yj m ns) ns2) ns3) := (zU _ _).trans ((zU _ _).trans (zU _ _));clear hi hi2 hi3 hd1 hd2 hd3;have hx := hx.mono hl2;have hy := hy.mono hl2;generalize yj (yj (yj m ns) ns2) ns3 = m9 at hR1 hR2 hR3 hl2 hx hy
 have hat2 : At m9 ⟨b2, 0, none⟩ (n4 op n who K k kc) := fun i u hi => hR2.at_ hi;have hat3 : At m9 ⟨b3, 0, none⟩ (n4 op' n' who' K' k' kc') := fun i u hi => hR3.at_ hi;have hc1 : mc m9 ⟨b1, 0, none⟩ = some (zS b) := hR1.at_ (i := 0) rfl;have hc3 : mc m9 ⟨b3, 0, none⟩ = some (.int .i8 op') := hR3.at_ (i := 0) rfl
 have hsx : (decide (op = 8) || decide (op = 9)) = xM x := by unfold xM; rw [hox]
 have hsy : (decide (op' = 8) || decide (op' = 9)) = xM y := by unfold xM; rw [hoy]
 have h5 : o = 11 \/ o = 12 \/ o = 10 \/ o = 8 \/ o = 9 := by omega
 rcases h5 with rfl | h5
 ·rw [Mt];refine tr 14 ?_;refine xf 7 ?_;refine zg ((vV (p := []) (q := [zS b1, zS b2, zS b3]) (vs := [.string (bs Xs)]) Sw rfl rfl .k0 (fun m' hm he => Hh (w := Xs) (hR1.mono hm) (hR2.mono hm) (hR3.mono hm) (hx.mono hm) (hy.mono hm) zb hp hd) rfl ?_ ?_)) rfl
  ·rintro _ _ ⟨h3, rfl⟩;exact pW hl2 ⟨h3, rfl⟩
  rintro _ _ ⟨t, h3, h4, rfl, rfl⟩;refine vr 6 ?_;exact z6 hl2 [_] zj [_] .p0 ⟨t, h3, h4, rfl, rfl⟩
 rcases h5 with rfl | h5
 ·rw [Mu];refine tr 14 ?_;refine zH 6 ?_;refine xf 7 ?_;refine zg ((vV (p := []) (q := [zS b1, zS b2, zS b3]) (vs := [.string (bs Xt)]) Sw rfl rfl .k0 (fun m' hm he => Hh (w := Xt) (hR1.mono hm) (hR2.mono hm) (hR3.mono hm) (hx.mono hm) (hy.mono hm) zb hp hd) rfl ?_ ?_)) rfl
  ·rintro _ _ ⟨h3, rfl⟩;exact pW hl2 ⟨h3, rfl⟩
  rintro _ _ ⟨t, h3, h4, rfl, rfl⟩;refine vr 6 ?_;exact z6 hl2 [_] zj [_] .p0 ⟨t, h3, h4, rfl, rfl⟩
 rcases h5 with rfl | h5
 ·rw [Ms];refine tr 14 ?_;refine zH 6 ?_;refine zH 6 ?_;refine xf 5 ?_;refine Db (sq [0, 1, 2, 103, 104, 5] .done) ?_;refine Vr 0 rfl (zl yO rfl hc1) ?_;refine Vr 0 rfl (zO zT rfl rfl hat2) ?_;refine Vr 0 rfl (zO zT rfl rfl hat2) ?_;refine zf rfl (xB UC rfl (fun m' hm he => Yb) rfl ?_) rfl;rintro _ rfl;rw [hsx];skip
  refine zf rfl ((z8 Xi rfl .k0 (fun m' hm he => aM (br := xM x) (hx.mono hm) hp hd) rfl ?_ ?_)) rfl
  ·rintro _ _ ⟨h1, rfl⟩;exact pW hl2 ⟨kV h1, rfl⟩
  rintro _ _ ⟨s, h1, h2, rfl, rfl⟩;have hsl := aY h1 h2;cases hsum : xM y with
  | true =>
    rw [hsum] at hsy;refine vB 1 ?_;refine Vn 2 ?_;refine Db (sq [0, 1, 2, 3, 4, 105, 6, 7, 8, 9, 10, 111, 12, 13] .done) ?_;refine vB 1 ?_;refine Vs 0 rfl ?_;refine Vr 0 rfl (zl yO rfl hc1) ?_;refine Vr 0 rfl (zO zT rfl rfl hat3) ?_;refine Vr 0 rfl (zO zT rfl rfl hat3) ?_;refine zf rfl (xB UC rfl (fun m' hm he => Yb) rfl ?_) rfl;rintro _ rfl;rw [hsy]
    refine vB 5 ?_;refine zf rfl ((z8 Xi rfl .k0 (fun m' hm he => aM (br := true) (hy.mono hm) h2 hd) rfl ?_ ?_)) rfl
    ·rintro _ _ ⟨h3, rfl⟩;exact pW hl2 ⟨wq h3, rfl⟩
    rintro _ _ ⟨t, h3, h4, rfl, rfl⟩;have htl := aY h3 h4;refine Vs 1 rfl ?_;refine Vn 4 ?_;have e2 : s ++ [32, 42, 32] ++ t = xe wo s t := Zg wo s t;rw [e2, Nat.add_assoc];exact z6 hl2 [_] zj [_] .p0 ⟨_, vE h1 h3, by omega, rfl, rfl⟩
  | false =>
    rw [hsum] at hsy;by_cases h10 : op' = 10
    ·rw [hoy, decide_eq_true h10];refine vB 1 ?_;refine Vn 2 ?_;refine Db (sq [0, 1, 2, 3, 4, 105, 6, 7, 8, 9, 10, 111, 12, 13] .done) ?_;refine vB 1 ?_;refine Vs 0 rfl ?_;refine Vr 0 rfl (zl yO rfl hc1) ?_;refine Vr 0 rfl (zO zT rfl rfl hat3) ?_;refine Vr 0 rfl (zO zT rfl rfl hat3) ?_;refine zf rfl (xB UC rfl (fun m' hm he => Yb) rfl ?_) rfl;rintro _ rfl
     rw [hsy];refine vB 2 ?_;refine Vr 0 rfl (zl ze rfl hc3) ?_;refine Vb 1 rfl (dt (y3 rfl rfl) xi) ?_;refine zf rfl ((z8 Xi rfl .k0 (fun m' hm he => aM (br := true) (hy.mono hm) h2 hd) rfl ?_ ?_)) rfl
     ·rintro _ _ ⟨h3, rfl⟩;exact pW hl2 ⟨wq h3, rfl⟩
     rintro _ _ ⟨t, h3, h4, rfl, rfl⟩;have htl := aY h3 h4;refine Vs 1 rfl ?_;refine Vn 4 ?_;have e2 : s ++ [32, 42, 32] ++ t = xe wo s t := Zg wo s t;rw [e2, Nat.add_assoc];exact z6 hl2 [_] zj [_] .p0 ⟨_, vE h1 h3, by omega, rfl, rfl⟩
    ·rw [hoy, decide_eq_false h10];refine vB 1 ?_;refine Vn 2 ?_;refine Db (sq [0, 1, 2, 3, 4, 105, 6, 7, 8, 9, 10, 111, 12, 13] .done) ?_;refine vB 1 ?_;refine Vs 0 rfl ?_;refine Vr 0 rfl (zl yO rfl hc1) ?_;refine Vr 0 rfl (zO zT rfl rfl hat3) ?_;refine Vr 0 rfl (zO zT rfl rfl hat3) ?_;refine zf rfl (xB UC rfl (fun m' hm he => Yb) rfl ?_) rfl;rintro _ rfl
     rw [hsy];refine vB 2 ?_;refine Vr 0 rfl (zl ze rfl hc3) ?_;refine Vb 1 rfl (df (y3 rfl rfl) xi) ?_;refine zf rfl ((z8 Xi rfl .k0 (fun m' hm he => aM (br := false) (hy.mono hm) h2 hd) rfl ?_ ?_)) rfl
     ·rintro _ _ ⟨h3, rfl⟩;exact pW hl2 ⟨wq h3, rfl⟩
     rintro _ _ ⟨t, h3, h4, rfl, rfl⟩;have htl := aY h3 h4;refine Vs 1 rfl ?_;refine Vn 4 ?_;have e2 : s ++ [32, 42, 32] ++ t = xe wo s t := Zg wo s t;rw [e2, Nat.add_assoc];exact z6 hl2 [_] zj [_] .p0 ⟨_, vE h1 h3, by omega, rfl, rfl⟩
 rcases h5 with rfl | rfl
 ·rw [Mv];refine tr 14 ?_;refine zH 6 ?_;refine zH 6 ?_;refine zH 16 ?_;refine zH 7 ?_;refine Lo 0 yO rfl hc1 ?_;refine La 0 zT hat2 ?_;refine Cp Xi rfl .k0 (fun m' hm he => aM (br := false) (hx.mono hm) hp hd) ?_ ?_
  ·rintro _ _ ⟨h1, rfl⟩;exact pW hl2 ⟨kV h1, rfl⟩
  rintro _ _ ⟨s, h1, h2, rfl, rfl⟩;have hsl := aY h1 h2;refine vr 4 ?_;refine Db (sq [0, 1, 2, 3, 4, 5, 106, 107, 8, 9] .done) ?_;refine vB 2 ?_;refine Vs 0 rfl ?_;refine Vr 0 rfl (zl yO rfl hc1) ?_;refine Vr 0 rfl (zO zT rfl rfl hat3) ?_;refine Vr 0 rfl (zO zT rfl rfl hat3) ?_;refine zf rfl (xB UC rfl (fun m' hm he => Yb) rfl ?_) rfl;rintro _ rfl
  rw [hsy];skip;refine zf rfl ((z8 Xi rfl .k0 (fun m' hm he => aM (br := xM y) (hy.mono hm) h2 hd) rfl ?_ ?_)) rfl
  ·rintro _ _ ⟨h3, rfl⟩;exact pW hl2 ⟨wq h3, rfl⟩
  rintro _ _ ⟨t, h3, h4, rfl, rfl⟩;have htl := aY h3 h4;refine Vs 1 rfl ?_;refine Vn 2 ?_;have e2 : s ++ [32, 43, 32] ++ t = xe jd s t := Zg jd s t;rw [e2, Nat.add_assoc];exact z6 hl2 [_] zj [_] .p0 ⟨_, vE h1 h3, by omega, rfl, rfl⟩
 ·rw [Mr];refine tr 14 ?_;refine zH 6 ?_;refine zH 6 ?_;refine zH 16 ?_;refine xf 9 ?_;refine Lo 0 yO rfl hc1 ?_;refine La 0 zT hat2 ?_;refine Cp Xi rfl .k0 (fun m' hm he => aM (br := false) (hx.mono hm) hp hd) ?_ ?_
  ·rintro _ _ ⟨h1, rfl⟩;exact pW hl2 ⟨kV h1, rfl⟩
  rintro _ _ ⟨s, h1, h2, rfl, rfl⟩;have hsl := aY h1 h2;refine vr 4 ?_;refine Db (sq [0, 1, 2, 3, 4, 5, 106, 107, 8, 9] .done) ?_;refine vB 2 ?_;refine Vs 0 rfl ?_;refine Vr 0 rfl (zl yO rfl hc1) ?_;refine Vr 0 rfl (zO zT rfl rfl hat3) ?_;refine Vr 0 rfl (zO zT rfl rfl hat3) ?_;refine zf rfl (xB UC rfl (fun m' hm he => Yb) rfl ?_) rfl;rintro _ rfl
  rw [hsy];skip;refine zf rfl ((z8 Xi rfl .k0 (fun m' hm he => aM (br := xM y) (hy.mono hm) h2 hd) rfl ?_ ?_)) rfl
  ·rintro _ _ ⟨h3, rfl⟩;exact pW hl2 ⟨wq h3, rfl⟩
  rintro _ _ ⟨t, h3, h4, rfl, rfl⟩;have htl := aY h3 h4;refine Vs 1 rfl ?_;refine Vn 2 ?_;have e2 : s ++ [32, 45, 32] ++ t = xe uc s t := Zg uc s t;rw [e2, Nat.add_assoc];exact z6 hl2 [_] zj [_] .p0 ⟨_, vE h1 h3, by omega, rfl, rfl⟩
end
end Go.Proofs.YtgohljjedlpccaaGreatDoor
namespace Go.Proofs
open Go.Shelf
def Tryz.lays156_ren : Go.Shelf.Ren := ⟨fun | 156 => 63 | 165 => 104 | 166 => 32 | 169 => 35 | 240 => 58 | 241 => 137 | 276 => 101 | 277 => 155 | n => n, fun | 31 => 38 | 9 => 9 | 3 => 3 | 4 => 4 | 0 => 0 | 20 => 20 | 72 => 63 | 76 => 67 | 70 => 60 | 37 => 61 | 75 => 66 | 127 => 125 | 164 => 155 | 5 => 5 | 80 => 72 | n => n, fun | n => n⟩
theorem Tryz.lays156 : Go.Proofs.Lays.n156 Tryz.prog Tryz.lays156_ren := {
 mixed := by kernel_rfl
 f156 := Tryz.func63.trans (congrArg some (by kernel_rfl))
 f165 := Tryz.func104.trans (congrArg some (by kernel_rfl))
 f166 := Tryz.func32.trans (congrArg some (by kernel_rfl))
 f169 := Tryz.func35.trans (congrArg some (by kernel_rfl))
 f240 := Tryz.func58.trans (congrArg some (by kernel_rfl))
 f241 := Tryz.func137.trans (congrArg some (by kernel_rfl))
 f276 := Tryz.func101.trans (congrArg some (by kernel_rfl))
 f277 := Tryz.func155.trans (congrArg some (by kernel_rfl))
 t0 := Tryz.underlying0
 a0 := Tryz.isAgg0
 z0 := Tryz.sizeOf0
 v0 := Tryz.zeroValue0
 t3 := Tryz.underlying3
 a3 := Tryz.isAgg3
 z3 := Tryz.sizeOf3
 v3 := Tryz.zeroValue3
 t4 := Tryz.underlying4
 a4 := Tryz.isAgg4
 z4 := Tryz.sizeOf4
 v4 := Tryz.zeroValue4
 t9 := Tryz.underlying9
 a9 := Tryz.isAgg9
 z9 := Tryz.sizeOf9
 v9 := Tryz.zeroValue9
 t20 := Tryz.underlying20
 a20 := Tryz.isAgg20
 z20 := Tryz.sizeOf20
 v20 := Tryz.zeroValue20
 t31 := Tryz.underlying38
 a31 := Tryz.isAgg38
 z31 := Tryz.sizeOf38
 v31 := Tryz.zeroValue38
 t37 := Tryz.underlying61
 a37 := Tryz.isAgg61
 z37 := Tryz.sizeOf61
 v37 := Tryz.zeroValue61
 t70 := Tryz.underlying60
 a70 := Tryz.isAgg60
 z70 := Tryz.sizeOf60
 v70 := Tryz.zeroValue60
 t72 := Tryz.underlying63
 a72 := Tryz.isAgg63
 z72 := Tryz.sizeOf63
 v72 := Tryz.zeroValue63
 t75 := Tryz.underlying66
 a75 := Tryz.isAgg66
 z75 := Tryz.sizeOf66
 v75 := Tryz.zeroValue66
 t76 := Tryz.underlying67
 a76 := Tryz.isAgg67
 z76 := Tryz.sizeOf67
 v76 := Tryz.zeroValue67
 t127 := Tryz.underlying125
 a127 := Tryz.isAgg125
 z127 := Tryz.sizeOf125
 v127 := Tryz.zeroValue125
 t164 := Tryz.underlying155
 a164 := Tryz.isAgg155
 z164 := Tryz.sizeOf155
 v164 := Tryz.zeroValue155 }
def Tryz.laysM171_ren : Go.Shelf.Ren := ⟨fun | 171 => 61 | 243 => 102 | 246 => 129 | 283 => 147 | 284 => 148 | 285 => 149 | 286 => 150 | 129 => 165 | 317 => 164 | 318 => 166 | 319 => 167 | 320 => 168 | 337 => 177 | 338 => 178 | n => n, fun | 3 => 3 | 9 => 9 | 2 => 2 | 4 => 4 | 171 => 206 | 0 => 0 | 53 => 207 | 37 => 61 | 5 => 5 | 173 => 210 | 212 => 230 | 51 => 231 | 20 => 20 | 213 => 232 | 46 => 191 | 232 => 256 | 233 => 257 | n => n, fun | 17 => 3 | 18 => 6 | 19 => 7 | n => n⟩
theorem Tryz.laysM171 : Go.Proofs.LaysM.n171 Tryz.prog Tryz.laysM171_ren := {
 mixed := by kernel_rfl
 f129 := Tryz.func165.trans (congrArg some (by kernel_rfl))
 f171 := Tryz.func61.trans (congrArg some (by kernel_rfl))
 f243 := Tryz.func102.trans (congrArg some (by kernel_rfl))
 f246 := Tryz.func129.trans (congrArg some (by kernel_rfl))
 f283 := Tryz.func147.trans (congrArg some (by kernel_rfl))
 f284 := Tryz.func148.trans (congrArg some (by kernel_rfl))
 f285 := Tryz.func149.trans (congrArg some (by kernel_rfl))
 f286 := Tryz.func150.trans (congrArg some (by kernel_rfl))
 f317 := Tryz.func164.trans (congrArg some (by kernel_rfl))
 f318 := Tryz.func166.trans (congrArg some (by kernel_rfl))
 f319 := Tryz.func167.trans (congrArg some (by kernel_rfl))
 f320 := Tryz.func168.trans (congrArg some (by kernel_rfl))
 f337 := Tryz.func177.trans (congrArg some (by kernel_rfl))
 f338 := Tryz.func178.trans (congrArg some (by kernel_rfl))
 t0 := Tryz.underlying0
 a0 := Tryz.isAgg0
 z0 := Tryz.sizeOf0
 v0 := Tryz.zeroValue0
 t2 := Tryz.underlying2
 a2 := Tryz.isAgg2
 z2 := Tryz.sizeOf2
 v2 := Tryz.zeroValue2
 t3 := Tryz.underlying3
 a3 := Tryz.isAgg3
 z3 := Tryz.sizeOf3
 v3 := Tryz.zeroValue3
 t4 := Tryz.underlying4
 a4 := Tryz.isAgg4
 z4 := Tryz.sizeOf4
 v4 := Tryz.zeroValue4
 t5 := Tryz.underlying5
 a5 := Tryz.isAgg5
 z5 := Tryz.sizeOf5
 v5 := Tryz.zeroValue5
 t9 := Tryz.underlying9
 a9 := Tryz.isAgg9
 z9 := Tryz.sizeOf9
 v9 := Tryz.zeroValue9
 t20 := Tryz.underlying20
 a20 := Tryz.isAgg20
 z20 := Tryz.sizeOf20
 v20 := Tryz.zeroValue20
 t37 := Tryz.underlying61
 a37 := Tryz.isAgg61
 z37 := Tryz.sizeOf61
 v37 := Tryz.zeroValue61
 t46 := Tryz.underlying191
 a46 := Tryz.isAgg191
 z46 := Tryz.sizeOf191
 v46 := Tryz.zeroValue191
 t51 := Tryz.underlying231
 a51 := Tryz.isAgg231
 z51 := Tryz.sizeOf231
 v51 := Tryz.zeroValue231
 t53 := Tryz.underlying207
 a53 := Tryz.isAgg207
 z53 := Tryz.sizeOf207
 v53 := Tryz.zeroValue207
 t171 := Tryz.underlying206
 a171 := Tryz.isAgg206
 z171 := Tryz.sizeOf206
 v171 := Tryz.zeroValue206
 t173 := Tryz.underlying210
 a173 := Tryz.isAgg210
 z173 := Tryz.sizeOf210
 v173 := Tryz.zeroValue210
 t212 := Tryz.underlying230
 a212 := Tryz.isAgg230
 z212 := Tryz.sizeOf230
 v212 := Tryz.zeroValue230
 t213 := Tryz.underlying232
 a213 := Tryz.isAgg232
 z213 := Tryz.sizeOf232
 t232 := Tryz.underlying256
 a232 := Tryz.isAgg256
 z232 := Tryz.sizeOf256
 v232 := Tryz.zeroValue256
 t233 := Tryz.underlying257
 a233 := Tryz.isAgg257
 z233 := Tryz.sizeOf257
 v233 := Tryz.zeroValue257
 g17 := by kernel_rfl
 g18 := by kernel_rfl
 g19 := by kernel_rfl
 i0 := by kernel_rfl
 i2 := by kernel_rfl
 i3 := by kernel_rfl
 i4 := by kernel_rfl
 i5 := by kernel_rfl
 i9 := by kernel_rfl
 i20 := by kernel_rfl
 i37 := by kernel_rfl
 i46 := by kernel_rfl
 i51 := by kernel_rfl
 i53 := by kernel_rfl
 i171 := by kernel_rfl
 i173 := by kernel_rfl
 i212 := by kernel_rfl
 i232 := by kernel_rfl
 i233 := by kernel_rfl
 m17 := by kernel_rfl
 m18 := by kernel_rfl
 m19 := by kernel_rfl }
theorem Tryz.extra156 : Builder.Extra Tryz.prog Tryz.lays156_ren := {
 sizeBuilder := by kernel_rfl
 liesBuilder := by kernel_rfl
 t5 := Tryz.underlying5
 a5 := Tryz.isAgg5
 z5 := Tryz.sizeOf5
 v5 := Tryz.zeroValue5
 infoByte := by kernel_rfl
 cellsByte := by kernel_rfl
 sizeByte := by kernel_rfl
 neB5 := by decide }
end Go.Proofs
namespace Go.Proofs.YtgohljjedlpccaaGreatDoor
open  Go.Eng
section
open Wd Tp Kd Go.RowKit
def qB (m : Mp) : Prop := ∀ w : World, Le m (mp w.heap) -> Lib.TabIs Tryz.prog w "internal/strconv.uint64pow10" .u64 Lib.pow10Tab
variable {m : Mp}
theorem qB.mono {m' : Mp} (h : qB m) (hl : Le m m') : qB m' := fun w hw => h w (hl.trans hw)
theorem Vp {P : Program} {f : FuncId} {args : Lv} {v : Value} (hc : ∀ w : World, Le m (mp w.heap) -> Calls P f args.toArray w fun e w' => e = .returned v /\ Below w.heap.size w w') :
  CS P f args m [] (vQ v) := fun h hs =>
 (UQ (v := v) fun w hw => hc w (by rw [hw]; exact hs.base)).mono fun _ _ ⟨h1, h2⟩ => ⟨[], ⟨h1, rfl⟩, HS.nil (hs.base.trans h2)⟩
theorem wQ (hT : qB m) {n : Int} (h0 : -9223372036854775808 <= n) (h1 : n <= 9223372036854775807) : CS Tryz.prog 61 [Value.int .i64 n] m [] (vQ (xm (Lib.itoa n))) := by
 refine Vp fun w hw => ?_;refine (Any.strconv_Itoa Tryz.laysM171 n h0 h1 w (hT w hw)).mono ?_;rintro e w' ⟨he, k, os, rfl⟩;exact ⟨he, rfl, rfl, rfl, by simp [Sort.grow], fun i hi => by simp [Sort.grow, World.heap_drewN, Array.getElem?_append, hi]⟩
theorem RS {A : Oa} {c : Nat} {xs : List Bt} {sep : Bt} (hx : Rd m A (xs.map xm)) (hc : xs.length <= c) (hl : (Lib.join xs sep).length <= 140737488355328) (hn : xs.length <= 140737488355328) : CS Tryz.prog 63 [.slice A xs.length c, xm sep] m [] (vQ (xm (Lib.join xs sep))) := by
 refine Vp fun w hw => ?_;have hm := hx.mono hw
 match xs, hm, hc, hl, hn with
 | [], _, _, _, _ =>
   refine (Any.strings_Join_none Tryz.lays156 Tryz.extra156 A c (bs sep) w).mono ?_;rintro e w' ⟨he, rfl⟩;exact ⟨he, Below.refl _ _⟩
 | x :: r, hm, hc, hl, hn =>
   obtain ⟨hA, h0⟩ := hm 0 (xm x) rfl;obtain ⟨⟨bk, o, z⟩, rfl⟩ := Option.isSome_iff_exists.1 hA
   have hz : z = none := by
    cases z with
    | none => rfl
    | some s =>
      have h0' : mc (mp w.heap) ((⟨bk, o, some s⟩ : Addr).add 0) = some (xm x) := h0;unfold mc at h0'
      split at h0'
      ·simp [Addr.add] at h0'
      ·cases h0'
   subst hz
   have hcell : ∀ (j : Nat) y, (x :: r)[j]? = some y -> w.cell? ⟨bk, o + j, none⟩ = some (xm y) := fun j y hj => by
    have := (hm j (xm y) (by rw [List.getElem?_map, hj]; rfl)).2;rw [gO, <- Addr.add_lit];exact this
   have hlt : bk < w.heap.size := by
    have := hcell 0 x rfl;rw [gO] at this;unfold mc at this
    split at this
    ·rename_i c0 _ _ hb
     exact qN hb
    ·cases this
   match r, hm, hc, hl, hn with
   | [], _, _, _, _ =>
     refine (Any.strings_Join_one Tryz.lays156 Tryz.extra156 bk o c (bs x) (bs sep) w (hcell 0 x rfl)).mono ?_;rintro e w' ⟨he, rfl⟩;exact ⟨by rw [Lib.join_one]; exact he, Below.refl _ _⟩
   | y :: r, _, hc, hl, hn =>
     have e : ((x :: y :: r).map bs).map (·.data.toList) = x :: y :: r := by
      rw [List.map_map]
      conv => rhs; rw [<- List.map_id (x :: y :: r)]
      apply List.map_congr_left
      intro z _
      simp [bs]
     have e2 : (bs sep).data.toList = sep := by simp [bs]
     have := Any.strings_Join_many Tryz.lays156 Tryz.extra156 bk o c ((x :: y :: r).map bs) (bs sep) w (fun j z hj => by
      rw [List.getElem?_map] at hj;cases hq : (x :: y :: r)[j]? with
      | none => rw [hq] at hj; cases hj
      | some q =>
        rw [hq] at hj;cases hj
        exact hcell j q hq) hlt yA (by rw [List.length_map]; exact hn) (by rw [List.length_map]; exact hc) (by rw [e, e2]; exact hl)
     rw [e, e2, List.length_map] at this;exact this
end
section
open Wd Tp Kd
variable {m : Mp} {b d p : Nat}
theorem PU : ∀ n : Nat, n <= 999 -> Lib.itoa (n : Int) = dg n := by
 have h : ∀ n : Fin 1000, Lib.itoa ((n.1 : Nat) : Int) = dg n.1 := zt
 exact fun n hn => h ⟨n, by omega⟩
theorem xx {n : Int} (h0 : 0 <= n) (h1 : n <= 999) : Lib.itoa n = qO n := by
 obtain ⟨k, rfl⟩ := Int.eq_ofNat_of_zero_le h0;exact PU k za
variable {x : zY}
theorem xr.formO {vs : Lv} (h : xr m vs x) : ∃ n who A len c, vs = n4 (Jh x) n who A len c := by
 cases h; exact ⟨_, _, _, _, _, rfl⟩
theorem jg (op n who : Int) : zV (.mk op n who []) = 1 := by rw [fS]; rfl
theorem M7 (x : zY) : 1 <= zV x := by obtain ⟨op, n, who, k⟩ := x; rw [fS]; omega
theorem jb (hT : qB m) {cs : Lv} (hx : xr m cs x) : vP m b cs x := by
 induction hx with
 | @mk op n who kids A len c vs ho hln hmx hr hv hkk ih =>
 subst hln;intro m0 hm0 p d hp hd;have hT := hT.mono hm0;have hmx : kids.length <= 9223372036854775807 := hmx;have hl2 := Le.refl m0;skip;refine ym [.tmp 4] Tryz.func132 rfl rfl rfl ?_;refine tr 2 ?_;refine Bx 4 rfl fun b1 => ?_;refine zG .here (fun ns hi _ hd1 => ?_);have hR : Rd (yj m0 ns) (some ⟨b1, 0, none⟩) (n4 op n who A kids.length c) := (Rd.blk hi).mono (yq hd1)
 have hl2 : Le m0 (yj m0 ns) := zU _ _;clear hi hd1;generalize yj m0 ns = m9 at hR hl2;have hT := hT.mono hl2;have hat : At m9 ⟨b1, 0, none⟩ (n4 op n who A kids.length c) := fun i u hi => hR.at_ hi;have hc0 : mc m9 ⟨b1, 0, none⟩ = some (.int .i8 op) := hR.at_ (i := 0) rfl;have hc1 : mc m9 ⟨b1, 1, none⟩ = some (.int .i64 n) := hR.at_ (i := 1) rfl
 have hc2 : mc m9 ⟨b1, 2, none⟩ = some (.int .i8 who) := hR.at_ (i := 2) rfl;have hc3 : mc m9 ⟨b1, 3, none⟩ = some (.slice A kids.length c) := hR.at_ (i := 3) rfl;have hw1 := M7 (.mk op n who kids);refine tr 2 ?_;refine Cp jP rfl .k0 (fun m' hm he => wZ hp) ?_ ?_
 ·rintro _ _ ⟨h1, rfl⟩;exact pW hl2 ⟨.inr za, rfl⟩
 rintro _ _ ⟨hp1, rfl, rfl⟩;by_cases hbig : 8 <= op /\ op <= 12
 ·obtain ⟨hb8, hb12⟩ := hbig;refine vr 6 ?_;refine Lo 0 ze rfl hc0 ?_;refine yr 2 ?_;refine Lo 0 ze rfl hc0 ?_;refine yr 6 ?_;refine La 0 zT hat ?_;refine Cp aV rfl .nil (fun m' hm he => kb (j := 2) hmx zb) ?_ ?_
  ·rintro _ _ ⟨h1, rfl⟩;exact pW hl2 ⟨.inl (M9 hb8 (fun h => h1 ⟨.inl h.1, .inl h.2.1, h.2.2⟩)), rfl⟩
  rintro _ _ ⟨h1, rfl, rfl⟩;obtain ⟨hn0, hw0, hk2⟩ := h1;have hn0 : n = 0 := by omega
  have hw0 : who = 0 := by omega
  obtain ⟨x1, x2, rfl⟩ : ∃ x1 x2, kids = [x1, x2] := by
   match kids, hk2 with
   | [x1, x2], _ => exact ⟨x1, x2, rfl⟩
  subst hn0 hw0;have hA : A.isSome = true := hr.isSome (by rw [hv]; simp);have ha1 := ((hr.elem (0 * 4) 4).mono hm0).mono hl2;have ha2 := ((hr.elem (1 * 4) 4).mono hm0).mono hl2;have i1 := (ih 0 yA).mono (hm0.trans hl2);have i2 := (ih 1 yA).mono (hm0.trans hl2);have f1 := hkk 0 yA;have f2 := hkk 1 yA;have f1 : xr m ((vs.drop (0 * 4)).take 4) x1 := f1
  have f2 : xr m ((vs.drop (1 * 4)).take 4) x2 := f2;have i1 : vP m9 b ((vs.drop (0 * 4)).take 4) x1 := i1;have i2 : vP m9 b ((vs.drop (1 * 4)).take 4) x2 := i2;obtain ⟨n1, w1, A1, l1, c1, e1⟩ := xr.formO f1;obtain ⟨n2, w2, A2, l2, c2, e2⟩ := xr.formO f2;rw [e1] at ha1 i1;rw [e2] at ha2 i2;clear f1 f2 e1 e2 ih hkk;rw [k8, if_neg (fun h => h ⟨rfl, rfl⟩), JX]
  generalize hg1 : Jh x1 = q1 at ha1 i1;generalize hg2 : Jh x2 = q2 at ha2 i2;refine vr 3 ?_;refine Db (sq [0, 1, 2, 3, 4, 5, 6, 7, 8, 9, 10, 111, 12] .done) ?_;refine vB 2 ?_;refine Vr 1 rfl (zl ze rfl hc0) ?_;refine Vr 0 rfl (zl xO rfl hc3) ?_;refine Vb 0 rfl (zQ dc rfl rfl hA za za) ?_;refine Vr 1 rfl (zO zT rfl rfl ha1) ?_
  refine Vr 0 rfl (zl xO rfl hc3) ?_;refine Vb 0 rfl (zQ dc rfl rfl hA za za) ?_;refine Vr 0 rfl (zO zT rfl rfl ha2) ?_;refine zf rfl ((z8 E0 rfl .k0 (fun m' hm he => SX (i1.mono hm) (i2.mono hm) hg1 hg2 ⟨hb8, hb12⟩ hp1 hd) rfl ?_ ?_)) rfl
  ·rintro _ _ ⟨h3, rfl⟩;exact pW hl2 ⟨h3.imp id (fun h => by omega), rfl⟩
  rintro _ _ ⟨t, h3, h4, rfl, rfl⟩;refine vB 1 ?_;refine Vn 3 ?_;rw [show p + 1 + (zV x1 + zV x2) = p + (1 + zV x1 + zV x2) by omega];exact z6 hl2 [_] zj [_] .p0 ⟨t, h3, by omega, rfl, rfl⟩
 clear ih hkk
 have hbare : ∀ {q : Prop}, (¬ (8 <= op /\ op <= 12)) -> ¬ ((n = 0 \/ op = 0) /\ (who = 0 \/ (1 <= op /\ op <= 4)) /\ kids.length = 0) -> yC (.mk op n who kids) d = none := fun {q} hb h => by
  by_cases hk : kids.length = 0
  ·have hkn := List.eq_nil_of_length_eq_zero hk;subst hkn;rw [wI];exact GR fun h2 => h ⟨h2.1, h2.2, rfl⟩
  ·exact GM hb hk
 by_cases h0 : op = 0
 ·subst h0;refine vr 6 ?_;refine Lo 0 ze rfl hc0 ?_;refine zH 12 ?_;refine La 0 zT hat ?_;refine Cp aV rfl .nil (fun m' hm he => kb (j := 0) hmx zb) ?_ ?_
  ·rintro _ _ ⟨h1, rfl⟩;exact pW hl2 ⟨.inl (hbare (q := True) hbig h1), rfl⟩
  rintro _ _ ⟨h1, rfl, rfl⟩;obtain ⟨hn0, hw0, hk0⟩ := h1;have hkn := List.eq_nil_of_length_eq_zero hk0;subst hkn;rw [wI, jg];have hwho : who = 0 := by omega
  subst hwho;by_cases hr1 : 0 <= n
  ·by_cases hr2 : n <= 999
   ·refine vr 6 ?_;refine Lo 5 ze rfl hc0 ?_;refine xf 7 ?_;refine Lo 0 yl rfl hc1 ?_;refine yr 2 ?_;refine Lo 0 yl rfl hc1 ?_;refine yr 1 ?_;refine Cn ye rfl zq ?_ ?_
    ·rintro _ _ ⟨h1, rfl⟩;exact absurd rfl h1
    rintro _ _ ⟨h1, rfl, rfl⟩;refine vr 5 ?_;refine Lo 0 yl rfl hc1 ?_;refine Cr em rfl (fun m' hm he => (wQ (hT.mono hm) za za)) ?_;rintro _ rfl;rw [xx hr1 hr2];refine vr 6 ?_;exact z6 hl2 [_] zj [_] .p0 ⟨qO n, by unfold uB; rw [if_pos rfl, if_pos ⟨rfl, hr1, hr2⟩], hp1, rfl, rfl⟩
   ·refine vr 6 ?_;refine Lo 5 ze rfl hc0 ?_;refine xf 7 ?_;refine Lo 0 yl rfl hc1 ?_;refine yr 2 ?_;refine Lo 0 yl rfl hc1 ?_;refine zF 1 ?_;refine Cn ye rfl zq ?_ ?_
    ·rintro _ _ ⟨h1, rfl⟩;exact pW hl2 ⟨.inl (by unfold uB; rw [if_pos rfl, if_neg (fun h => by omega)]), rfl⟩
    rintro _ _ ⟨h1, rfl, rfl⟩;cases h1
  ·refine vr 6 ?_;refine Lo 5 ze rfl hc0 ?_;refine xf 7 ?_;refine Lo 0 yl rfl hc1 ?_;refine zF 5 ?_;refine Cn ye rfl zq ?_ ?_
   ·rintro _ _ ⟨h1, rfl⟩;exact pW hl2 ⟨.inl (by unfold uB; rw [if_pos rfl, if_neg (fun h => by omega)]), rfl⟩
   rintro _ _ ⟨h1, rfl, rfl⟩;cases h1
 by_cases h1' : op = 1
 ·subst h1';refine vr 6 ?_;refine Lo 0 ze rfl hc0 ?_;refine zH 12 ?_;refine La 0 zT hat ?_;refine Cp aV rfl .nil (fun m' hm he => kb (j := 0) hmx zb) ?_ ?_
  ·rintro _ _ ⟨h1, rfl⟩;exact pW hl2 ⟨.inl (hbare (q := True) hbig h1), rfl⟩
  rintro _ _ ⟨h1, rfl, rfl⟩;obtain ⟨hn0, hw0, hk0⟩ := h1;have hkn := List.eq_nil_of_length_eq_zero hk0;subst hkn;rw [wI, jg];have hnn : n = 0 := by omega
  subst hnn;have hlf : uB 1 0 who = (xA who).map fun s => YZ ++ zL ++ s ++ zz := rfl;rw [hlf];refine vr 6 ?_;refine Lo 5 ze rfl hc0 ?_;refine zF 6 ?_;refine xf 7 ?_;refine Lo 0 ze rfl hc2 ?_;refine Cn dp rfl kO ?_ ?_
  ·rintro _ _ ⟨h1, rfl⟩;exact pW hl2 ⟨.inl (by rw [h1]; rfl), rfl⟩
  rintro _ _ ⟨s, h1, rfl, rfl⟩;have hsl := wd h1;refine Ps 0 ?_;refine Ps 6 ?_;exact z6 hl2 [_] zj [_] .p0 ⟨_, by rw [h1]; rfl, hp1, rfl, rfl⟩
 by_cases h2' : op = 2
 ·subst h2';refine vr 6 ?_;refine Lo 0 ze rfl hc0 ?_;refine zH 12 ?_;refine La 0 zT hat ?_;refine Cp aV rfl .nil (fun m' hm he => kb (j := 0) hmx zb) ?_ ?_
  ·rintro _ _ ⟨h1, rfl⟩;exact pW hl2 ⟨.inl (hbare (q := True) hbig h1), rfl⟩
  rintro _ _ ⟨h1, rfl, rfl⟩;obtain ⟨hn0, hw0, hk0⟩ := h1;have hkn := List.eq_nil_of_length_eq_zero hk0;subst hkn;rw [wI, jg];have hnn : n = 0 := by omega
  subst hnn;have hlf : uB 2 0 who = (xA who).map fun s => Y0 ++ zL ++ s ++ zz := rfl;rw [hlf];refine vr 6 ?_;refine Lo 5 ze rfl hc0 ?_;refine zF 6 ?_;refine zF 6 ?_;refine xf 7 ?_;refine Lo 0 ze rfl hc2 ?_;refine Cn dp rfl kO ?_ ?_
  ·rintro _ _ ⟨h1, rfl⟩;exact pW hl2 ⟨.inl (by rw [h1]; rfl), rfl⟩
  rintro _ _ ⟨s, h1, rfl, rfl⟩;have hsl := wd h1;refine Ps 0 ?_;refine Ps 6 ?_;exact z6 hl2 [_] zj [_] .p0 ⟨_, by rw [h1]; rfl, hp1, rfl, rfl⟩
 by_cases h3' : op = 3
 ·subst h3';refine vr 6 ?_;refine Lo 0 ze rfl hc0 ?_;refine zH 12 ?_;refine La 0 zT hat ?_;refine Cp aV rfl .nil (fun m' hm he => kb (j := 0) hmx zb) ?_ ?_
  ·rintro _ _ ⟨h1, rfl⟩;exact pW hl2 ⟨.inl (hbare (q := True) hbig h1), rfl⟩
  rintro _ _ ⟨h1, rfl, rfl⟩;obtain ⟨hn0, hw0, hk0⟩ := h1;have hkn := List.eq_nil_of_length_eq_zero hk0;subst hkn;rw [wI, jg];have hnn : n = 0 := by omega
  subst hnn;have hlf : uB 3 0 who = (xA who).map fun s => Y4 ++ zL ++ s ++ zz := rfl;rw [hlf];refine vr 6 ?_;refine Lo 5 ze rfl hc0 ?_;refine zF 6 ?_;refine zF 6 ?_;refine zF 6 ?_;refine xf 7 ?_;refine Lo 0 ze rfl hc2 ?_;refine Cn dp rfl kO ?_ ?_
  ·rintro _ _ ⟨h1, rfl⟩;exact pW hl2 ⟨.inl (by rw [h1]; rfl), rfl⟩
  rintro _ _ ⟨s, h1, rfl, rfl⟩;have hsl := wd h1;refine Ps 0 ?_;refine Ps 6 ?_;exact z6 hl2 [_] zj [_] .p0 ⟨_, by rw [h1]; rfl, hp1, rfl, rfl⟩
 by_cases h4' : op = 4
 ·subst h4';refine vr 6 ?_;refine Lo 0 ze rfl hc0 ?_;refine zH 12 ?_;refine La 0 zT hat ?_;refine Cp aV rfl .nil (fun m' hm he => kb (j := 0) hmx zb) ?_ ?_
  ·rintro _ _ ⟨h1, rfl⟩;exact pW hl2 ⟨.inl (hbare (q := True) hbig h1), rfl⟩
  rintro _ _ ⟨h1, rfl, rfl⟩;obtain ⟨hn0, hw0, hk0⟩ := h1;have hkn := List.eq_nil_of_length_eq_zero hk0;subst hkn;rw [wI, jg];have hnn : n = 0 := by omega
  subst hnn;have hlf : uB 4 0 who = (xA who).map fun s => aw ++ zL ++ s ++ zz := rfl;rw [hlf];refine vr 6 ?_;refine Lo 5 ze rfl hc0 ?_;refine zF 6 ?_;refine zF 6 ?_;refine zF 6 ?_;refine zF 6 ?_;refine xf 7 ?_;refine Lo 0 ze rfl hc2 ?_;refine Cn dp rfl kO ?_ ?_
  ·rintro _ _ ⟨h1, rfl⟩;exact pW hl2 ⟨.inl (by rw [h1]; rfl), rfl⟩
  rintro _ _ ⟨s, h1, rfl, rfl⟩;have hsl := wd h1;refine Ps 0 ?_;refine Ps 6 ?_;exact z6 hl2 [_] zj [_] .p0 ⟨_, by rw [h1]; rfl, hp1, rfl, rfl⟩
 by_cases h5' : op = 5
 ·subst h5';refine vr 6 ?_;refine Lo 0 ze rfl hc0 ?_;refine zH 12 ?_;refine La 0 zT hat ?_;refine Cp aV rfl .nil (fun m' hm he => kb (j := 0) hmx zb) ?_ ?_
  ·rintro _ _ ⟨h1, rfl⟩;exact pW hl2 ⟨.inl (hbare (q := True) hbig h1), rfl⟩
  rintro _ _ ⟨h1, rfl, rfl⟩;obtain ⟨hn0, hw0, hk0⟩ := h1;have hkn := List.eq_nil_of_length_eq_zero hk0;subst hkn;rw [wI, jg];have hnn : n = 0 := by omega
  have hwho : who = 0 := by omega
  subst hnn hwho;refine vr 6 ?_;refine Lo 5 ze rfl hc0 ?_;refine zF 6 ?_;refine zF 6 ?_;refine zF 6 ?_;refine zF 6 ?_;refine zF 6 ?_;refine xf 12 ?_;exact z6 hl2 [_] zj [_] .p0 ⟨X8 ++ zL ++ ar ++ zz, rfl, hp1, rfl, rfl⟩
 by_cases h6' : op = 6
 ·subst h6';refine vr 6 ?_;refine Lo 0 ze rfl hc0 ?_;refine zH 12 ?_;refine La 0 zT hat ?_;refine Cp aV rfl .nil (fun m' hm he => kb (j := 0) hmx zb) ?_ ?_
  ·rintro _ _ ⟨h1, rfl⟩;exact pW hl2 ⟨.inl (hbare (q := True) hbig h1), rfl⟩
  rintro _ _ ⟨h1, rfl, rfl⟩;obtain ⟨hn0, hw0, hk0⟩ := h1;have hkn := List.eq_nil_of_length_eq_zero hk0;subst hkn;rw [wI, jg];have hnn : n = 0 := by omega
  have hwho : who = 0 := by omega
  subst hnn hwho;refine vr 6 ?_;refine Lo 5 ze rfl hc0 ?_;refine zF 6 ?_;refine zF 6 ?_;refine zF 6 ?_;refine zF 6 ?_;refine zF 6 ?_;refine zF 6 ?_;refine xf 12 ?_;exact z6 hl2 [_] zj [_] .p0 ⟨We ++ zL ++ Gq ++ zL ++ ar ++ zz ++ zz, rfl, hp1, rfl, rfl⟩
 by_cases h7' : op = 7
 ·subst h7';refine vr 6 ?_;refine Lo 0 ze rfl hc0 ?_;refine zH 12 ?_;refine La 0 zT hat ?_;refine Cp aV rfl .nil (fun m' hm he => kb (j := 0) hmx zb) ?_ ?_
  ·rintro _ _ ⟨h1, rfl⟩;exact pW hl2 ⟨.inl (hbare (q := True) hbig h1), rfl⟩
  rintro _ _ ⟨h1, rfl, rfl⟩;obtain ⟨hn0, hw0, hk0⟩ := h1;have hkn := List.eq_nil_of_length_eq_zero hk0;subst hkn;rw [wI, jg];have hnn : n = 0 := by omega
  have hwho : who = 0 := by omega
  subst hnn hwho;refine vr 6 ?_;refine Lo 5 ze rfl hc0 ?_;refine zF 6 ?_;refine zF 6 ?_;refine zF 6 ?_;refine zF 6 ?_;refine zF 6 ?_;refine zF 6 ?_;refine zF 10 ?_;refine Lo 0 ze rfl hc0 ?_;refine xf 0 ?_;refine Cn ye rfl zq ?_ ?_
  ·rintro _ _ ⟨h1, rfl⟩;exact absurd rfl h1
  rintro _ _ ⟨h1, rfl, rfl⟩;refine vr 8 ?_;exact z6 hl2 [_] zj [_] .p0 ⟨dH ++ zL ++ xX ++ zz, rfl, hp1, rfl, rfl⟩
 by_cases hneg : op < 8
 ·refine vr 6 ?_;refine Lo 0 ze rfl hc0 ?_;refine zH 12 ?_;refine La 0 zT hat ?_;refine Cp aV rfl .nil (fun m' hm he => kb (j := 0) hmx zb) ?_ ?_
  ·rintro _ _ ⟨h1, rfl⟩;exact pW hl2 ⟨.inl (hbare (q := True) hbig h1), rfl⟩
  rintro _ _ ⟨h1, rfl, rfl⟩;obtain ⟨hn0, hw0, hk0⟩ := h1;have hkn := List.eq_nil_of_length_eq_zero hk0;subst hkn;rw [wI, jg]
  have hlf : uB op n who = none := by
   unfold uB;rw [if_neg h0, if_neg h1', if_neg h2', if_neg h3', if_neg h4', if_neg h5', if_neg h6', if_neg h7', ite_self, ite_self]
  rw [hlf];refine vr 6 ?_;refine Lo 5 ze rfl hc0 ?_;refine zF 6 ?_;refine zF 6 ?_;refine zF 6 ?_;refine zF 6 ?_;refine zF 6 ?_;refine zF 6 ?_;refine zF 10 ?_;refine Lo 0 ze rfl hc0 ?_;refine zF 0 ?_;refine Cn ye rfl zq ?_ ?_
  ·rintro _ _ ⟨h1, rfl⟩;exact pW hl2 ⟨.inl rfl, rfl⟩
  rintro _ _ ⟨h1, rfl, rfl⟩;cases h1
 ·have h13 : 13 <= op := by omega
  refine vr 6 ?_;refine Lo 0 ze rfl hc0 ?_;refine y4 2 ?_;refine Lo 0 ze rfl hc0 ?_;refine zH 8 ?_;refine La 0 zT hat ?_;refine Cp aV rfl .nil (fun m' hm he => kb (j := 0) hmx zb) ?_ ?_
  ·rintro _ _ ⟨h1, rfl⟩;exact pW hl2 ⟨.inl (hbare (q := True) hbig h1), rfl⟩
  rintro _ _ ⟨h1, rfl, rfl⟩;obtain ⟨hn0, hw0, hk0⟩ := h1;have hkn := List.eq_nil_of_length_eq_zero hk0;subst hkn;rw [wI, jg]
  have hlf : uB op n who = none := by
   unfold uB;rw [if_neg h0, if_neg h1', if_neg h2', if_neg h3', if_neg h4', if_neg h5', if_neg h6', if_neg h7', ite_self, ite_self]
  rw [hlf];refine vr 6 ?_;refine Lo 5 ze rfl hc0 ?_;refine zF 6 ?_;refine zF 6 ?_;refine zF 6 ?_;refine zF 6 ?_;refine zF 6 ?_;refine zF 6 ?_;refine zF 10 ?_;refine Lo 0 ze rfl hc0 ?_;refine zF 0 ?_;refine Cn ye rfl zq ?_ ?_
  ·rintro _ _ ⟨h1, rfl⟩;exact pW hl2 ⟨.inl rfl, rfl⟩
  rintro _ _ ⟨h1, rfl, rfl⟩;cases h1
end
namespace Tp
open Go Go.Eng Wd Kd
inductive uv : zI -> Prop
 | mk {op who : Int} {name : Bt} {ns : List zY} {ks : List zI} (h : name.length <= 140737488355328) (hk : ∀ k ∈ ks, uv k) : uv (.mk op who name ns ks)
def up (op : Int) (a b : Nat) : Prop :=
 ((op = 0 \/ op = 1 \/ op = 2) -> a = 2 /\ b = 0) /\ (op = 3 -> a = 0 /\ b = 1) /\ ((op = 4 \/ op = 5) -> a = 0 /\ b = 2) /\ (op = 6 -> a = 0 /\ b = 0) /\ (0 <= op /\ op <= 6)
variable {d : Nat} {ks : List zI} {name : Bt} {ns : List zY} {op who : Int}
theorem xk (h : ¬ up op ns.length ks.length) : yx (.mk op who name ns ks) d = none := by
 unfold up at h;rw [yx.eq_def]
 split
 ·rename_i heq
  cases heq
  split
  ·rfl
  ·have e1 : ∀ a b : zY, [a, b].length = 2 := fun _ _ => rfl;have e2 : ([] : List zI).length = 0 := rfl;rw [e1, e2] at h;rw [if_neg za, if_neg za, if_neg za]
 ·rename_i heq
  cases heq;have e1 : ([] : List zY).length = 0 := rfl;have e2 : ([] : List zI).length = 0 := rfl;rw [e1, e2] at h;rw [if_neg (fun h6 => by have := h6.1; omega)]
 ·rename_i heq
  cases heq;have e1 : ([] : List zY).length = 0 := rfl;have e2 : ∀ a : zI, [a].length = 1 := fun _ => rfl;rw [e1, e2] at h;rw [if_neg (fun h6 => by have := h6.1; omega)]
 ·rename_i heq
  cases heq
  split
  ·rfl
  ·have e1 : ([] : List zY).length = 0 := rfl;have e2 : ∀ a b : zI, [a, b].length = 2 := fun _ _ => rfl;rw [e1, e2] at h;rw [if_neg za, if_neg za]
 ·rfl
theorem YD (h6 : op ≠ 6) (h : ¬ (who = 0 /\ name = [])) : yx (.mk op who name ns ks) d = none := by
 rw [yx.eq_def]
 split
 ·rename_i heq
  cases heq;rw [if_pos h]
 ·rename_i heq
  cases heq;rw [if_neg (fun h => h6 h.1)]
 ·rename_i heq
  cases heq;rw [if_neg (fun h2 => h h2.2)]
 ·rename_i heq
  cases heq;rw [if_pos h]
 ·rfl
theorem fY (who : Int) (name : Bt) (d : Nat) : yx (.mk 6 who name [] []) d = if yL name = true then (xA who).map fun s => q9 ++ zL ++ s ++ y9 ++ vy ++ name ++ zz else none := by
 rw [yx];by_cases h : yL name = true
 ·rw [if_pos ⟨rfl, h⟩, if_pos h]
 ·rw [if_neg (fun h2 => h h2.2), if_neg h]
theorem c9 (a b : zY) (d : Nat) : yx (.mk 0 0 [] [a, b] []) d = uf (xe X9) (yC a d) (yC b d) := by rw [yx]; rfl
theorem c8 (a b : zY) (d : Nat) : yx (.mk 1 0 [] [a, b] []) d = uf (xe Wa) (yC a d) (yC b d) := by rw [yx]; rfl
theorem c7 (a b : zY) (d : Nat) : yx (.mk 2 0 [] [a, b] []) d = uf (xe Wb) (yC a d) (yC b d) := by rw [yx]; rfl
theorem bR (k : zI) (d : Nat) : yx (.mk 3 0 [] [] [k]) d = (fX d fun d => jW (decide (qd k = 4) || decide (qd k = 5)) d (yx k)).map fun s => el ++ vy ++ s := by rw [yx]; rfl
theorem ZR (a b : zI) (d : Nat) : yx (.mk 5 0 [] [] [a, b]) d = uf (xe JF) (yx a d) (jW (decide (qd b = 5)) d (yx b)) := by rw [yx]; rfl
theorem bS (a b : zI) (d : Nat) : yx (.mk 4 0 [] [] [a, b]) d = uf (xe gJ) (jW (decide (qd a = 5)) d (yx a)) (jW (decide (qd b = 5) || decide (qd b = 4)) d (yx b)) := by rw [yx]; rfl
inductive UP : zI -> Nat -> Bt -> Prop
 | cmp {op : Int} {w : Bt} {a b : zY} {d : Nat} {u v : Bt} (hw : (op = 0 /\ w = X9) \/ (op = 1 /\ w = Wa) \/ (op = 2 /\ w = Wb)) (ha : yC a d = some u) (hb : yC b d = some v) : UP (.mk op 0 [] [a, b] []) d (xe w u v)
 | holds {who : Int} {name s : Bt} {d : Nat} (hn : yL name = true) (hs : xA who = some s) : UP (.mk 6 who name [] []) d (q9 ++ zL ++ s ++ y9 ++ vy ++ name ++ zz)
 | not {k : zI} {d : Nat} {s : Bt} (hd : d + 1 <= 8) (hk : jW (decide (qd k = 4) || decide (qd k = 5)) (d + 1) (yx k) = some s) : UP (.mk 3 0 [] [] [k]) d (el ++ vy ++ s)
 | or {a b : zI} {d : Nat} {u v : Bt} (ha : yx a d = some u) (hb : jW (decide (qd b = 5)) d (yx b) = some v) : UP (.mk 5 0 [] [] [a, b]) d (xe JF u v)
 | and {a b : zI} {d : Nat} {u v : Bt} (ha : jW (decide (qd a = 5)) d (yx a) = some u) (hb : jW (decide (qd b = 5) || decide (qd b = 4)) d (yx b) = some v) : UP (.mk 4 0 [] [] [a, b]) d (xe gJ u v)
variable {s : Bt}
theorem kF {x : zI} (h : yx x d = some s) : UP x d s := by
 obtain ⟨op, who, name, ns, ks⟩ := x;by_cases hs : up op ns.length ks.length
 rotate_left
 ·rw [xk hs] at h; cases h
 unfold up at hs;by_cases h6 : op = 6
 ·subst h6;have hn := List.eq_nil_of_length_eq_zero (hs.2.2.2.1 rfl).1;have hk := List.eq_nil_of_length_eq_zero (hs.2.2.2.1 rfl).2;subst hn hk;rw [fY] at h
  split at h
  ·cases hw : xA who with
   | none => rw [hw] at h; cases h
   | some t =>
     rw [hw] at h;cases h;exact .holds ‹_› hw
  ·cases h
 by_cases hw : who = 0 /\ name = []
 rotate_left
 ·rw [YD h6 hw] at h; cases h
 obtain ⟨rfl, rfl⟩ := hw
 have two : ∀ {α : Type} {l : List α}, l.length = 2 -> ∃ a b, l = [a, b] := fun {α l} h => by
  match l, h with
  | [a, b], _ => exact ⟨a, b, rfl⟩
 by_cases h3 : op = 3
 ·subst h3;have hn := List.eq_nil_of_length_eq_zero (hs.2.1 rfl).1;obtain ⟨k, rfl⟩ := List.length_eq_one_iff.1 (hs.2.1 rfl).2;subst hn;rw [bR] at h;cases hi : (fX d fun d => jW (decide (qd k = 4) || decide (qd k = 5)) d (yx k)) with
  | none => rw [hi] at h; cases h
  | some t =>
    rw [hi] at h;cases h;obtain ⟨h1, h2⟩ := wD hi;exact .not h1 h2
 by_cases h4 : op = 4
 ·subst h4;have hn := List.eq_nil_of_length_eq_zero (hs.2.2.1 (.inl rfl)).1;obtain ⟨a, b, rfl⟩ := two (hs.2.2.1 (.inl rfl)).2;subst hn;rw [bS] at h;obtain ⟨u, v, h1, h2, rfl⟩ := y2 h;exact .and h1 h2
 by_cases h5 : op = 5
 ·subst h5;have hn := List.eq_nil_of_length_eq_zero (hs.2.2.1 (.inr rfl)).1;obtain ⟨a, b, rfl⟩ := two (hs.2.2.1 (.inr rfl)).2;subst hn;rw [ZR] at h;obtain ⟨u, v, h1, h2, rfl⟩ := y2 h;exact .or h1 h2
 have h02 : op = 0 \/ op = 1 \/ op = 2 := by have := hs.2.2.2.2; omega
 have hk := List.eq_nil_of_length_eq_zero (hs.1 h02).2;obtain ⟨a, b, rfl⟩ := two (hs.1 h02).1;subst hk;rcases h02 with rfl | rfl | rfl
 ·rw [c9] at h;obtain ⟨u, v, h1, h2, rfl⟩ := y2 h;exact .cmp (.inl ⟨rfl, rfl⟩) h1 h2
 ·rw [c8] at h;obtain ⟨u, v, h1, h2, rfl⟩ := y2 h;exact .cmp (.inr (.inl ⟨rfl, rfl⟩)) h1 h2
 ·rw [c7] at h;obtain ⟨u, v, h1, h2, rfl⟩ := y2 h;exact .cmp (.inr (.inr ⟨rfl, rfl⟩)) h1 h2
theorem xG (h : yL s = true) : s.length <= 40 := by
 unfold yL at h;simp only [Bool.and_eq_true, decide_eq_true_eq] at h;exact h.1.2.2.2
theorem bQ (op who : Int) (name : Bt) (a b : zY) : zX (.mk op who name [a, b] []) = 1 + zV a + zV b := by rw [vH]; simp; omega
theorem Uz (op who : Int) (name : Bt) : zX (.mk op who name [] []) = 1 := by rw [vH]; rfl
theorem Uy (op who : Int) (name : Bt) (a : zI) : zX (.mk op who name [] [a]) = 1 + zX a := by rw [vH]; simp
theorem bO (op who : Int) (name : Bt) (a b : zI) : zX (.mk op who name [] [a, b]) = 1 + zX a + zX b := by rw [vH]; simp; omega
theorem cZ : ∀ {x : zI} {d : Nat} {s : Bt}, yx x d = some s -> s.length <= 64 * zX x
 | .mk op who name ns ks, d, s, h => by
   have hs := kF h;have hk : ∀ {k : zI}, k ∈ ks -> ∀ {d s}, yx k d = some s -> s.length <= 64 * zX k := fun {k} hk {d s} h => cZ h;clear h;cases hs with
   | cmp hw ha hb =>
     rw [bQ];have h1 := qM ha;have h2 := qM hb
     have hwl : ∀ w, (op = 0 /\ w = X9) \/ (op = 1 /\ w = Wa) \/ (op = 2 /\ w = Wb) -> w.length <= 2 := by
      rintro w (⟨-, rfl⟩ | ⟨-, rfl⟩ | ⟨-, rfl⟩) <;> decide
     have := hwl _ hw;simp only [xe, List.length_append, List.length_cons, List.length_nil];omega
   | holds hn hs =>
     rw [Uz];have h1 := xG hn;have h2 := wd hs;simp only [List.length_append, List.length_cons, List.length_nil];omega
   | not hd hk1 =>
     rw [Uy];have h1 := gf (c := 0) (fun d s h => hk (.head _) h) hk1;simp only [List.length_append, List.length_cons, List.length_nil];omega
   | or ha hb =>
     rw [bO];have h1 := hk (.head _) ha;have h2 := gf (c := 0) (fun d s h => hk (.tail _ (.head _)) h) hb;simp only [xe, List.length_append, List.length_cons, List.length_nil];omega
   | and ha hb =>
     rw [bO];have h1 := gf (c := 0) (fun d s h => hk (.head _) h) ha;have h2 := gf (c := 0) (fun d s h => hk (.tail _ (.head _)) h) hb;simp only [xe, List.length_append, List.length_cons, List.length_nil];omega
termination_by x => SizeOf.sizeOf x
decreasing_by
 have := List.sizeOf_lt_of_mem hk
 simp
 omega
end Tp
section
open Wd Tp Kd
variable {m : Mp} {b d p : Nat}
def xg (m : Mp) (b : Nat) (cs : Lv) (x : zI) : Prop := ∀ m', Le m m' -> ∀ (p d : Nat), p <= 200 -> d <= 8 -> Ih 136 [zS b, .agg cs.toArray] m' b p d (yx x d) (zX x)
variable {x : zI}
theorem xg.mono {m' : Mp} {cs : Lv} (h : xg m b cs x) (hl : Le m m') : xg m' b cs x := fun m2 h2 => h m2 (hl.trans h2)
theorem yP.formO {vs : Lv} (h : yP m vs x) : ∃ who name A la ca B lb cb, vs = c5 (qd x) who name A la ca B lb cb := by
 cases h; exact ⟨_, _, _, _, _, _, _, _, rfl⟩
variable {s : Bt}
theorem SF (h : yx x d = some s) (hp : p + zX x <= 200) : s.length <= 12800 := by
 have := cZ h;omega
variable {br : Bool}
theorem qh (h : jW br d (yx x) = some s) (hp : p + zX x <= 200) : s.length <= 12810 := by
 have := gf (c := 0) (w := 64 * zX x) (fun d s h => cZ h) h;omega
variable {A B : Oa} {B1 B2 ca cb la lb : Nat} {name : Bt} {op who : Int}
theorem Pp (h1 : Rd m (some ⟨B1, 0, none⟩) [zS b]) (h2 : Rd m (some ⟨B2, 0, none⟩) (c5 op who name A la ca B lb cb)) (hx : xg m b (c5 op who name A la ca B lb cb) x) (hp : p <= 200) (hd : d <= 8) : Ih 173 [zS B1, zS B2] m b p d ((yx x d).map Rs) (zX x) := by
 have hat : At m ⟨B2, 0, none⟩ (c5 op who name A la ca B lb cb) := fun i u hi => h2.at_ hi;have hc1 : mc m ⟨B1, 0, none⟩ = some (zS b) := h1.at_ (i := 0) rfl;refine ym [.tmp 2] Tryz.func173 rfl rfl rfl ?_;refine tr 7 ?_;refine Lo 0 yO rfl hc1 ?_;refine La 0 xP hat ?_;refine Cp Oi rfl .k0 (fun m' hm he => hx m' hm p d hp hd) ?_ ?_
 ·rintro _ _ ⟨h1, rfl⟩;exact pn ⟨ZY h1, rfl⟩
 rintro _ _ ⟨s, h1, h2, rfl, rfl⟩;have hsl := SF h1 h2;refine Ps 0 ?_;refine Ps 4 ?_;exact yp [_] zj [_] .p0 ⟨_, by rw [h1]; rfl, h2, rfl, rfl⟩
theorem qg (hx : xg m b (c5 op who name A la ca B lb cb) x) (hp : p <= 200) (hd : d <= 8) : Ih 154 [zS b, .agg (c5 op who name A la ca B lb cb).toArray, .bool br] m b p d (jW br d (yx x)) (zX x) := by
 refine ym [.tmp 6] Tryz.func154 rfl rfl rfl ?_;cases br with
 | false =>
   refine tr 2 ?_;refine Bx 0 rfl fun b1 => ?_;refine Bx 13 rfl fun b2 => ?_;refine Lb 0 yO .h1 ?_;refine Lc 0 xP .here ?_;refine Cp Oi rfl .k2 (fun m' hm he => hx m' hm p d hp hd) ?_ ?_
   ·rintro _ _ ⟨h1, rfl⟩;exact pn ⟨h1, rfl⟩
   rintro _ _ ⟨s, h1, h2, rfl, rfl⟩;refine vr 5 ?_;exact yp [_] zj [_] .p0 ⟨s, h1, h2, rfl, rfl⟩
 | true =>
   refine tr 2 ?_;refine Bx 0 rfl fun b1 => ?_;refine Bx 14 rfl fun b2 => ?_;refine zG .here (fun ns hi _ hd1 => ?_);refine zG .here (fun ns2 hi2 _ hd2 => ?_);have hR2 : Rd (yj (yj m ns) ns2) (some ⟨b2, 0, none⟩) (c5 op who name A la ca B lb cb) := ((Rd.blk hi).mono (yq hd1)).mono (zU _ _)
   have hR1 : Rd (yj (yj m ns) ns2) (some ⟨b1, 0, none⟩) [zS b] := (Rd.blk hi2).mono (yq hd2);have hl2 : Le m (yj (yj m ns) ns2) := (zU _ _).trans (zU _ _);have hc1 : mc (yj (yj m ns) ns2) ⟨b1, 0, none⟩ = some (zS b) := hR1.at_ (i := 0) rfl;have hx := hx.mono hl2;clear hi hi2 hd1 hd2;refine tr 1 ?_;refine Lo 1 yO rfl hc1 ?_
   refine Cp KC rfl .k0 (fun m' hm he => eA (r := fun d => (yx x d).map Rs) (q := [zS b1, zS b2]) hd EU (fun h8 m2 hm2 => Pp (hR1.mono (hm.trans hm2)) (hR2.mono (hm.trans hm2)) (hx.mono (hm.trans hm2)) hp h8)) ?_ ?_
   ·rintro _ _ ⟨h1, rfl⟩;rw [ZH] at h1;exact pW hl2 ⟨h1, rfl⟩
   rintro _ _ ⟨s, h1, h2, rfl, rfl⟩;rw [ZH] at h1;refine vr 4 ?_;exact z6 hl2 [_] zj [_] .p0 ⟨s, h1, h2, rfl, rfl⟩
theorem Th (ho : qd x = op) (h1 : Rd m (some ⟨B1, 0, none⟩) [zS b]) (h2 : Rd m (some ⟨B2, 0, none⟩) (c5 op who name A la ca B lb cb)) (hx : xg m b (c5 op who name A la ca B lb cb) x) (hp : p <= 200) (hd : d <= 8) :
  Ih 153 [zS B1, zS B2] m b p d ((jW (decide (qd x = 4) || decide (qd x = 5)) d (yx x)).map fun s => el ++ vy ++ s) (zX x) := by
 have hat : At m ⟨B2, 0, none⟩ (c5 op who name A la ca B lb cb) := fun i u hi => h2.at_ hi;have hc1 : mc m ⟨B1, 0, none⟩ = some (zS b) := h1.at_ (i := 0) rfl;have hc2 : mc m ⟨B2, 0, none⟩ = some (.int .i8 op) := h2.at_ (i := 0) rfl;subst ho;refine ym [.tmp 2] Tryz.func153 rfl rfl rfl ?_;by_cases h4 : qd x = 4
 ·rw [decide_eq_true h4, Bool.true_or];refine tr 7 ?_;refine Lo 0 yO rfl hc1 ?_;refine La 1 xP hat ?_;refine Lo 0 ze rfl hc2 ?_;refine yr 5 ?_;refine Cp f0 rfl .k0 (fun m' hm he => qg (br := true) (hx.mono hm) hp hd) ?_ ?_
  ·rintro _ _ ⟨h1, rfl⟩;exact pn ⟨ZY h1, rfl⟩
  rintro _ _ ⟨s, h1, h2, rfl, rfl⟩;have hsl := qh h1 h2;refine Ps 4 ?_;exact yp [_] zj [_] .p0 ⟨_, by rw [h1]; rfl, h2, rfl, rfl⟩
 rw [decide_eq_false h4, Bool.false_or];by_cases h5 : qd x = 5
 ·rw [decide_eq_true h5];refine tr 7 ?_;refine Lo 0 yO rfl hc1 ?_;refine La 1 xP hat ?_;refine Lo 0 ze rfl hc2 ?_;refine zF 2 ?_;refine Lo 0 ze rfl hc2 ?_;refine yr 1 ?_;refine Cp f0 rfl .k0 (fun m' hm he => qg (br := true) (hx.mono hm) hp hd) ?_ ?_
  ·rintro _ _ ⟨h1, rfl⟩;exact pn ⟨ZY h1, rfl⟩
  rintro _ _ ⟨s, h1, h2, rfl, rfl⟩;have hsl := qh h1 h2;refine Ps 4 ?_;exact yp [_] zj [_] .p0 ⟨_, by rw [h1]; rfl, h2, rfl, rfl⟩
 ·rw [decide_eq_false h5];refine tr 7 ?_;refine Lo 0 yO rfl hc1 ?_;refine La 1 xP hat ?_;refine Lo 0 ze rfl hc2 ?_;refine zF 2 ?_;refine Lo 0 ze rfl hc2 ?_;refine zF 1 ?_;refine Cp f0 rfl .k0 (fun m' hm he => qg (br := false) (hx.mono hm) hp hd) ?_ ?_
  ·rintro _ _ ⟨h1, rfl⟩;exact pn ⟨ZY h1, rfl⟩
  rintro _ _ ⟨s, h1, h2, rfl, rfl⟩;have hsl := qh h1 h2;refine Ps 4 ?_;exact yp [_] zj [_] .p0 ⟨_, by rw [h1]; rfl, h2, rfl, rfl⟩
end
section
open Wd Tp Kd
variable {m : Mp} {b d p : Nat}
theorem aJ {α : Type} : ∀ {l : List α}, l.length = 2 -> ∃ x y, l = [x, y]
 | [x, y], _ => ⟨x, y, rfl⟩
 | [], h => by cases h
 | [_], h => by cases h
 | _ :: _ :: _ :: _, h => by simp at h
theorem PY {k : zI} {br : Bool} : (fX d fun d => (jW br d (yx k)).map fun s => el ++ vy ++ s) = (fX d fun d => jW br d (yx k)).map fun s => el ++ vy ++ s := ZH
variable {A B : Oa} {ca cb : Nat} {kids : List zI} {name : Bt} {nums : List zY} {op : Int} {us vs : Lv} {who : Int}
theorem U8 (hT : qB m) (hU : xU m) (hma : nums.length <= 9223372036854775807) (hmb : kids.length <= 9223372036854775807) (hnm : name.length <= 140737488355328) (hra : Rd m A vs) (hva : vs.length = nums.length * 4) (hka : ∀ (i : Nat) (hi : i < nums.length), xr m ((vs.drop (i * 4)).take 4) nums[i]) (hrb : Rd m B us) (hvb : us.length = kids.length * 5) (hkb : ∀ (i : Nat) (hi : i < kids.length), yP m ((us.drop (i * 5)).take 5) kids[i]) (ih : ∀ (i : Nat) (hi : i < kids.length), xg m b ((us.drop (i * 5)).take 5) kids[i]) (h6 : op = 6) : xg m b (c5 op who name A nums.length ca B kids.length cb) (.mk op who name nums kids) := by
 intro m0 hm0 p d hp hd;skip;refine ym [.tmp 4] Tryz.func136 rfl rfl rfl ?_;refine tr 2 ?_;refine Bx 0 rfl fun b1 => ?_;refine Bx 4 rfl fun b2 => ?_;refine zG .here (fun ns hi _ hd1 => ?_);refine zG .here (fun ns2 hi2 _ hd2 => ?_)
 have hR : Rd (yj (yj m0 ns) ns2) (some ⟨b2, 0, none⟩) (c5 op who name A nums.length ca B kids.length cb) := ((Rd.blk hi).mono (yq hd1)).mono (zU _ _);have hR1 : Rd (yj (yj m0 ns) ns2) (some ⟨b1, 0, none⟩) [zS b] := (Rd.blk hi2).mono (yq hd2);have hl2 : Le m0 (yj (yj m0 ns) ns2) := (zU _ _).trans (zU _ _);clear hi hd1 hi2 hd2;generalize yj (yj m0 ns) ns2 = m9 at hR hR1 hl2
 have hl9 := hm0.trans hl2;have hT := hT.mono hl9;have hU := hU.mono hl9;have hat : At m9 ⟨b2, 0, none⟩ (c5 op who name A nums.length ca B kids.length cb) := fun i u hi => hR.at_ hi;have hcp : mc m9 ⟨b1, 0, none⟩ = some (zS b) := hR1.at_ (i := 0) rfl;have hc0 : mc m9 ⟨b2, 0, none⟩ = some (.int .i8 op) := hR.at_ (i := 0) rfl
 have hc1 : mc m9 ⟨b2, 1, none⟩ = some (.int .i8 who) := hR.at_ (i := 1) rfl;have hc2 : mc m9 ⟨b2, 2, none⟩ = some (.string (bs name)) := hR.at_ (i := 2) rfl;have hc3 : mc m9 ⟨b2, 3, none⟩ = some (.slice A nums.length ca) := hR.at_ (i := 3) rfl;have hc4 : mc m9 ⟨b2, 4, none⟩ = some (.slice B kids.length cb) := hR.at_ (i := 4) rfl;have hw1 := vC (.mk op who name nums kids);refine tr 1 ?_
 refine Lo 0 yO rfl hcp ?_;refine Cp jP rfl .k0 (fun m' hm he => wZ hp) ?_ ?_
 ·rintro _ _ ⟨h1, rfl⟩;exact pW hl2 ⟨.inr za, rfl⟩
 rintro _ _ ⟨hp1, rfl, rfl⟩;subst h6;by_cases hna : nums.length = 0
 ·by_cases hnk : kids.length = 0
  ·refine vr 5 ?_;refine Lo 0 ze rfl hc0 ?_;refine xf 10 ?_;refine Cn ye rfl zq ?_ ?_
   ·rintro _ _ ⟨h1, rfl⟩;exact absurd rfl h1
   rintro _ _ ⟨h1, rfl, rfl⟩;refine vr 12 ?_;refine Lo 6 ze rfl hc0 ?_;refine zH 6 ?_;refine zH 5 ?_;refine zH 6 ?_;refine zH 7 ?_;refine zH 5 ?_;refine zH 6 ?_;refine Lo 0 ze rfl hc0 ?_;refine xf 0 ?_;refine Cn ye rfl zq ?_ ?_
   ·rintro _ _ ⟨h1, rfl⟩;exact absurd rfl h1
   rintro _ _ ⟨h1, rfl, rfl⟩;refine vr 6 ?_;refine Lo 2 xO rfl hc3 ?_;refine y4 2 ?_;refine Lo 2 wT rfl hc4 ?_;refine y4 1 ?_;refine Cn ye rfl zq ?_ ?_
   ·rintro _ _ ⟨h1, rfl⟩;exact absurd rfl h1
   rintro _ _ ⟨h1, rfl, rfl⟩;have hn0 := List.eq_nil_of_length_eq_zero hna;have hk0 := List.eq_nil_of_length_eq_zero hnk;subst hn0 hk0;rw [fY, Uz];refine vr 6 ?_;refine Lo 5 ze rfl hc0 ?_;refine xf 7 ?_;refine Lo 0 yI rfl hc2 ?_;refine Cr YH rfl (fun m' hm he => (qU (hU.mono hm) hnm)) ?_;rintro _ rfl;cases hnp : yL name with
   | false =>
     rw [if_neg zb];skip;refine Cn ye rfl zq ?_ ?_
     ·rintro _ _ ⟨h1, rfl⟩;exact pW hl2 ⟨.inl (rfl), rfl⟩
     rintro _ _ ⟨h1, rfl, rfl⟩;cases h1
   | true =>
     rw [if_pos rfl];have hn40 := xG hnp;skip;refine Cn ye rfl zq ?_ ?_
     ·rintro _ _ ⟨h1, rfl⟩;exact absurd rfl h1
     rintro _ _ ⟨h1, rfl, rfl⟩;refine vr 3 ?_;refine Db (sq [0, 1, 5, 6, 102, 3, 4, 7, 8, 9] .done) ?_;refine vB 1 ?_;refine Vr 1 rfl (zl ze rfl hc1) ?_;refine Vr 0 rfl (zl yI rfl hc2) ?_;refine zf rfl ((z8 dp rfl .nil (fun m' hm he => kO) rfl ?_ ?_)) rfl
     ·rintro _ _ ⟨h1, rfl⟩;exact pW hl2 ⟨.inl (by rw [h1]; rfl), rfl⟩
     rintro _ _ ⟨s, h1, rfl, rfl⟩;have hsl := wd h1
     iterate 4 (refine Vs 0 rfl ?_)
     refine vB 1 ?_;refine Vn 4 ?_;have e1 : [104, 111, 108, 100, 115, 40] ++ s ++ [44, 32] ++ name ++ [41] = q9 ++ zL ++ s ++ y9 ++ vy ++ name ++ zz := by simp
     rw [e1];exact z6 hl2 [_] zj [_] .p0 ⟨_, by rw [h1]; rfl, hp1, rfl, rfl⟩
  ·refine vr 5 ?_;refine Lo 0 ze rfl hc0 ?_;refine xf 10 ?_;refine Cn ye rfl zq ?_ ?_
   ·rintro _ _ ⟨h1, rfl⟩;exact absurd rfl h1
   rintro _ _ ⟨h1, rfl, rfl⟩;refine vr 12 ?_;refine Lo 6 ze rfl hc0 ?_;refine zH 6 ?_;refine zH 5 ?_;refine zH 6 ?_;refine zH 7 ?_;refine zH 5 ?_;refine zH 6 ?_;refine Lo 0 ze rfl hc0 ?_;refine xf 0 ?_;refine Cn ye rfl zq ?_ ?_
   ·rintro _ _ ⟨h1, rfl⟩;exact absurd rfl h1
   rintro _ _ ⟨h1, rfl, rfl⟩;refine vr 6 ?_;refine Lo 2 xO rfl hc3 ?_;refine y4 2 ?_;refine Lo 2 wT rfl hc4 ?_;refine zH 1 ?_;refine Cn ye rfl zq ?_ ?_
   ·rintro _ _ ⟨h1, rfl⟩;exact pW hl2 ⟨.inl (xk (fun h => by unfold up at h; omega)), rfl⟩
   rintro _ _ ⟨h1, rfl, rfl⟩;cases h1
 ·refine vr 5 ?_;refine Lo 0 ze rfl hc0 ?_;refine xf 10 ?_;refine Cn ye rfl zq ?_ ?_
  ·rintro _ _ ⟨h1, rfl⟩;exact absurd rfl h1
  rintro _ _ ⟨h1, rfl, rfl⟩;refine vr 12 ?_;refine Lo 6 ze rfl hc0 ?_;refine zH 6 ?_;refine zH 5 ?_;refine zH 6 ?_;refine zH 7 ?_;refine zH 5 ?_;refine zH 6 ?_;refine Lo 0 ze rfl hc0 ?_;refine xf 0 ?_;refine Cn ye rfl zq ?_ ?_
  ·rintro _ _ ⟨h1, rfl⟩;exact absurd rfl h1
  rintro _ _ ⟨h1, rfl, rfl⟩;refine vr 6 ?_;refine Lo 2 xO rfl hc3 ?_;refine zH 7 ?_;refine Cn ye rfl zq ?_ ?_
  ·rintro _ _ ⟨h1, rfl⟩;exact pW hl2 ⟨.inl (xk (fun h => by unfold up at h; omega)), rfl⟩
  rintro _ _ ⟨h1, rfl, rfl⟩;cases h1
theorem GC (hT : qB m) (hU : xU m) (hma : nums.length <= 9223372036854775807) (hmb : kids.length <= 9223372036854775807) (hnm : name.length <= 140737488355328) (hra : Rd m A vs) (hva : vs.length = nums.length * 4) (hka : ∀ (i : Nat) (hi : i < nums.length), xr m ((vs.drop (i * 4)).take 4) nums[i]) (hrb : Rd m B us) (hvb : us.length = kids.length * 5) (hkb : ∀ (i : Nat) (hi : i < kids.length), yP m ((us.drop (i * 5)).take 5) kids[i]) (ih : ∀ (i : Nat) (hi : i < kids.length), xg m b ((us.drop (i * 5)).take 5) kids[i]) (h6 : op ≠ 6) (hwn : ¬ (who = 0 /\ name = [])) : xg m b (c5 op who name A nums.length ca B kids.length cb) (.mk op who name nums kids) := by
 intro m0 hm0 p d hp hd;skip;refine ym [.tmp 4] Tryz.func136 rfl rfl rfl ?_;refine tr 2 ?_;refine Bx 0 rfl fun b1 => ?_;refine Bx 4 rfl fun b2 => ?_;refine zG .here (fun ns hi _ hd1 => ?_);refine zG .here (fun ns2 hi2 _ hd2 => ?_)
 have hR : Rd (yj (yj m0 ns) ns2) (some ⟨b2, 0, none⟩) (c5 op who name A nums.length ca B kids.length cb) := ((Rd.blk hi).mono (yq hd1)).mono (zU _ _);have hR1 : Rd (yj (yj m0 ns) ns2) (some ⟨b1, 0, none⟩) [zS b] := (Rd.blk hi2).mono (yq hd2);have hl2 : Le m0 (yj (yj m0 ns) ns2) := (zU _ _).trans (zU _ _);clear hi hd1 hi2 hd2;generalize yj (yj m0 ns) ns2 = m9 at hR hR1 hl2
 have hl9 := hm0.trans hl2;have hT := hT.mono hl9;have hU := hU.mono hl9;have hat : At m9 ⟨b2, 0, none⟩ (c5 op who name A nums.length ca B kids.length cb) := fun i u hi => hR.at_ hi;have hcp : mc m9 ⟨b1, 0, none⟩ = some (zS b) := hR1.at_ (i := 0) rfl;have hc0 : mc m9 ⟨b2, 0, none⟩ = some (.int .i8 op) := hR.at_ (i := 0) rfl
 have hc1 : mc m9 ⟨b2, 1, none⟩ = some (.int .i8 who) := hR.at_ (i := 1) rfl;have hc2 : mc m9 ⟨b2, 2, none⟩ = some (.string (bs name)) := hR.at_ (i := 2) rfl;have hc3 : mc m9 ⟨b2, 3, none⟩ = some (.slice A nums.length ca) := hR.at_ (i := 3) rfl;have hc4 : mc m9 ⟨b2, 4, none⟩ = some (.slice B kids.length cb) := hR.at_ (i := 4) rfl;have hw1 := vC (.mk op who name nums kids);refine tr 1 ?_
 refine Lo 0 yO rfl hcp ?_;refine Cp jP rfl .k0 (fun m' hm he => wZ hp) ?_ ?_
 ·rintro _ _ ⟨h1, rfl⟩;exact pW hl2 ⟨.inr za, rfl⟩
 rintro _ _ ⟨hp1, rfl, rfl⟩;by_cases hwho : who = 0
 ·have hname : name ≠ [] := fun h => hwn ⟨hwho, h⟩;refine vr 5 ?_;refine Lo 0 ze rfl hc0 ?_;refine zF 2 ?_;refine Lo 0 ze rfl hc1 ?_;refine yr 2 ?_;refine Lo 0 yI rfl hc2 ?_;refine zF 2 ?_;refine Cn ye rfl zq ?_ ?_
  ·rintro _ _ ⟨h1, rfl⟩;exact pW hl2 ⟨.inl (YD h6 hwn), rfl⟩
  rintro _ _ ⟨h1, rfl, rfl⟩;cases h1
 ·refine vr 5 ?_;refine Lo 0 ze rfl hc0 ?_;refine zF 2 ?_;refine Lo 0 ze rfl hc1 ?_;refine zF 6 ?_;refine Cn ye rfl zq ?_ ?_
  ·rintro _ _ ⟨h1, rfl⟩;exact pW hl2 ⟨.inl (YD h6 hwn), rfl⟩
  rintro _ _ ⟨h1, rfl, rfl⟩;cases h1
end
section
open Wd Tp Kd
variable {m : Mp} {b d p : Nat}
variable {A B : Oa} {ca cb : Nat} {kids : List zI} {name : Bt} {nums : List zY} {op : Int} {us vs : Lv} {who : Int}
theorem GD (hT : qB m) (hU : xU m) (hma : nums.length <= 9223372036854775807) (hmb : kids.length <= 9223372036854775807) (hnm : name.length <= 140737488355328) (hra : Rd m A vs) (hva : vs.length = nums.length * 4) (hka : ∀ (i : Nat) (hi : i < nums.length), xr m ((vs.drop (i * 4)).take 4) nums[i]) (hrb : Rd m B us) (hvb : us.length = kids.length * 5) (hkb : ∀ (i : Nat) (hi : i < kids.length), yP m ((us.drop (i * 5)).take 5) kids[i]) (ih : ∀ (i : Nat) (hi : i < kids.length), xg m b ((us.drop (i * 5)).take 5) kids[i]) (hwho : who = 0) (hname : name = []) (h3 : op = 3) : xg m b (c5 op who name A nums.length ca B kids.length cb) (.mk op who name nums kids) := by
 intro m0 hm0 p d hp hd;skip;refine ym [.tmp 4] Tryz.func136 rfl rfl rfl ?_;refine tr 2 ?_;refine Bx 0 rfl fun b1 => ?_;refine Bx 4 rfl fun b2 => ?_;refine zG .here (fun ns hi _ hd1 => ?_);refine zG .here (fun ns2 hi2 _ hd2 => ?_)
 have hR : Rd (yj (yj m0 ns) ns2) (some ⟨b2, 0, none⟩) (c5 op who name A nums.length ca B kids.length cb) := ((Rd.blk hi).mono (yq hd1)).mono (zU _ _);have hR1 : Rd (yj (yj m0 ns) ns2) (some ⟨b1, 0, none⟩) [zS b] := (Rd.blk hi2).mono (yq hd2);have hl2 : Le m0 (yj (yj m0 ns) ns2) := (zU _ _).trans (zU _ _);clear hi hd1 hi2 hd2;generalize yj (yj m0 ns) ns2 = m9 at hR hR1 hl2
 have hl9 := hm0.trans hl2;have hT := hT.mono hl9;have hU := hU.mono hl9;have hat : At m9 ⟨b2, 0, none⟩ (c5 op who name A nums.length ca B kids.length cb) := fun i u hi => hR.at_ hi;have hcp : mc m9 ⟨b1, 0, none⟩ = some (zS b) := hR1.at_ (i := 0) rfl;have hc0 : mc m9 ⟨b2, 0, none⟩ = some (.int .i8 op) := hR.at_ (i := 0) rfl
 have hc1 : mc m9 ⟨b2, 1, none⟩ = some (.int .i8 who) := hR.at_ (i := 1) rfl;have hc2 : mc m9 ⟨b2, 2, none⟩ = some (.string (bs name)) := hR.at_ (i := 2) rfl;have hc3 : mc m9 ⟨b2, 3, none⟩ = some (.slice A nums.length ca) := hR.at_ (i := 3) rfl;have hc4 : mc m9 ⟨b2, 4, none⟩ = some (.slice B kids.length cb) := hR.at_ (i := 4) rfl;have hw1 := vC (.mk op who name nums kids);refine tr 1 ?_
 refine Lo 0 yO rfl hcp ?_;refine Cp jP rfl .k0 (fun m' hm he => wZ hp) ?_ ?_
 ·rintro _ _ ⟨h1, rfl⟩;exact pW hl2 ⟨.inr za, rfl⟩
 rintro _ _ ⟨hp1, rfl, rfl⟩;subst hwho hname;subst h3;by_cases hna : nums.length = 0
 ·by_cases hnk : kids.length = 1
  ·refine vr 5 ?_;refine Lo 0 ze rfl hc0 ?_;refine zH 2 ?_;refine Lo 0 ze rfl hc1 ?_;refine xf 2 ?_;refine Lo 0 yI rfl hc2 ?_;refine xf 2 ?_;refine Cn ye rfl zq ?_ ?_
   ·rintro _ _ ⟨h1, rfl⟩;exact absurd rfl h1
   rintro _ _ ⟨h1, rfl, rfl⟩;refine vr 12 ?_;refine Lo 6 ze rfl hc0 ?_;refine zH 6 ?_;refine zH 5 ?_;refine zH 6 ?_;refine xf 12 ?_;refine Lo 2 xO rfl hc3 ?_;refine y4 2 ?_;refine Lo 2 wT rfl hc4 ?_;refine y4 1 ?_;refine Cn ye rfl zq ?_ ?_
   ·rintro _ _ ⟨h1, rfl⟩;exact absurd rfl h1
   rintro _ _ ⟨h1, rfl, rfl⟩;have hn0 := List.eq_nil_of_length_eq_zero hna;obtain ⟨k1, rfl⟩ := List.length_eq_one_iff.1 hnk;subst hn0;rw [bR, <- PY, Uy];have hA : B.isSome = true := hrb.isSome (by rw [hvb]; simp);have f1 : yP m ((us.drop (0 * 5)).take 5) k1 := hkb 0 yA;have i1 : xg m9 b ((us.drop (0 * 5)).take 5) k1 := (ih 0 yA).mono hl9
   have ha1 := (hrb.elem (0 * 5) 5).mono hl9;obtain ⟨w1, nm1, A1, la1, ca1, B1, lb1, cb1, e1⟩ := yP.formO f1;rw [e1] at ha1 i1;have ho1 : mc m9 ((sa B).add (0 * 5)) = some (.int .i8 (qd k1)) := ha1.at0;clear f1 e1;refine vr 6 ?_;refine Lo 5 ze rfl hc0 ?_;refine zH 6 ?_;refine xf 7 ?_;refine Lo 0 wT rfl hc4 ?_;refine pe 0 (zQ jy rfl rfl hA za za) ?_
   refine La 0 xP ha1 ?_;refine Al 0 gr fun b3 => ?_;refine Sg 3 xP .here ?_;refine zG .here (fun ns3 hi3 _ hd3 => ?_);have hR3 : Rd (yj m9 ns3) (some ⟨b3, 0, none⟩) (c5 (qd k1) w1 nm1 A1 la1 ca1 B1 lb1 cb1) := (Rd.blk hi3).mono (yq hd3);have hl3 : Le m9 (yj m9 ns3) := zU _ _;have hcp := xv hl3 hcp;clear hi3 hd3;generalize yj m9 ns3 = m8 at hR3 hl3 hcp
   have hl2 := hl2.trans hl3;refine tr 1 ?_;refine Lo 1 yO rfl hcp ?_
   refine Cp KC rfl .k0 (fun m' hm he => eA (r := fun d => (jW (decide (qd k1 = 4) || decide (qd k1 = 5)) d (yx k1)).map fun s => el ++ vy ++ s) (q := [zS b1, zS b3]) hd EZ (fun h8 m2 hm2 => Th rfl (hR1.mono (hl3.trans (hm.trans hm2))) (hR3.mono (hm.trans hm2)) (i1.mono (hl3.trans (hm.trans hm2))) hp1 h8)) ?_ ?_
   ·rintro _ _ ⟨h3, rfl⟩;exact pW hl2 ⟨h3.imp id (fun h => by omega), rfl⟩
   rintro _ _ ⟨t, h3, h4, rfl, rfl⟩;refine vr 6 ?_;rw [show p + 1 + zX k1 = p + (1 + zX k1) by omega];exact z6 hl2 [_] zj [_] .p0 ⟨t, h3, by omega, rfl, rfl⟩
  ·refine vr 5 ?_;refine Lo 0 ze rfl hc0 ?_;refine zH 2 ?_;refine Lo 0 ze rfl hc1 ?_;refine xf 2 ?_;refine Lo 0 yI rfl hc2 ?_;refine xf 2 ?_;refine Cn ye rfl zq ?_ ?_
   ·rintro _ _ ⟨h1, rfl⟩;exact absurd rfl h1
   rintro _ _ ⟨h1, rfl, rfl⟩;refine vr 12 ?_;refine Lo 6 ze rfl hc0 ?_;refine zH 6 ?_;refine zH 5 ?_;refine zH 6 ?_;refine xf 12 ?_;refine Lo 2 xO rfl hc3 ?_;refine y4 2 ?_;refine Lo 2 wT rfl hc4 ?_;refine zH 1 ?_;refine Cn ye rfl zq ?_ ?_
   ·rintro _ _ ⟨h1, rfl⟩;exact pW hl2 ⟨.inl (xk (fun h => by unfold up at h; omega)), rfl⟩
   rintro _ _ ⟨h1, rfl, rfl⟩;cases h1
 ·refine vr 5 ?_;refine Lo 0 ze rfl hc0 ?_;refine zH 2 ?_;refine Lo 0 ze rfl hc1 ?_;refine xf 2 ?_;refine Lo 0 yI rfl hc2 ?_;refine xf 2 ?_;refine Cn ye rfl zq ?_ ?_
  ·rintro _ _ ⟨h1, rfl⟩;exact absurd rfl h1
  rintro _ _ ⟨h1, rfl, rfl⟩;refine vr 12 ?_;refine Lo 6 ze rfl hc0 ?_;refine zH 6 ?_;refine zH 5 ?_;refine zH 6 ?_;refine xf 12 ?_;refine Lo 2 xO rfl hc3 ?_;refine zH 7 ?_;refine Cn ye rfl zq ?_ ?_
  ·rintro _ _ ⟨h1, rfl⟩;exact pW hl2 ⟨.inl (xk (fun h => by unfold up at h; omega)), rfl⟩
  rintro _ _ ⟨h1, rfl, rfl⟩;cases h1
theorem HQ (hT : qB m) (hU : xU m) (hma : nums.length <= 9223372036854775807) (hmb : kids.length <= 9223372036854775807) (hnm : name.length <= 140737488355328) (hra : Rd m A vs) (hva : vs.length = nums.length * 4) (hka : ∀ (i : Nat) (hi : i < nums.length), xr m ((vs.drop (i * 4)).take 4) nums[i]) (hrb : Rd m B us) (hvb : us.length = kids.length * 5) (hkb : ∀ (i : Nat) (hi : i < kids.length), yP m ((us.drop (i * 5)).take 5) kids[i]) (ih : ∀ (i : Nat) (hi : i < kids.length), xg m b ((us.drop (i * 5)).take 5) kids[i]) (hwho : who = 0) (hname : name = []) (h5 : op = 5) : xg m b (c5 op who name A nums.length ca B kids.length cb) (.mk op who name nums kids) := by
 intro m0 hm0 p d hp hd;skip;refine ym [.tmp 4] Tryz.func136 rfl rfl rfl ?_;refine tr 2 ?_;refine Bx 0 rfl fun b1 => ?_;refine Bx 4 rfl fun b2 => ?_;refine zG .here (fun ns hi _ hd1 => ?_);refine zG .here (fun ns2 hi2 _ hd2 => ?_)
 have hR : Rd (yj (yj m0 ns) ns2) (some ⟨b2, 0, none⟩) (c5 op who name A nums.length ca B kids.length cb) := ((Rd.blk hi).mono (yq hd1)).mono (zU _ _);have hR1 : Rd (yj (yj m0 ns) ns2) (some ⟨b1, 0, none⟩) [zS b] := (Rd.blk hi2).mono (yq hd2);have hl2 : Le m0 (yj (yj m0 ns) ns2) := (zU _ _).trans (zU _ _);clear hi hd1 hi2 hd2;generalize yj (yj m0 ns) ns2 = m9 at hR hR1 hl2
 have hl9 := hm0.trans hl2;have hT := hT.mono hl9;have hU := hU.mono hl9;have hat : At m9 ⟨b2, 0, none⟩ (c5 op who name A nums.length ca B kids.length cb) := fun i u hi => hR.at_ hi;have hcp : mc m9 ⟨b1, 0, none⟩ = some (zS b) := hR1.at_ (i := 0) rfl;have hc0 : mc m9 ⟨b2, 0, none⟩ = some (.int .i8 op) := hR.at_ (i := 0) rfl
 have hc1 : mc m9 ⟨b2, 1, none⟩ = some (.int .i8 who) := hR.at_ (i := 1) rfl;have hc2 : mc m9 ⟨b2, 2, none⟩ = some (.string (bs name)) := hR.at_ (i := 2) rfl;have hc3 : mc m9 ⟨b2, 3, none⟩ = some (.slice A nums.length ca) := hR.at_ (i := 3) rfl;have hc4 : mc m9 ⟨b2, 4, none⟩ = some (.slice B kids.length cb) := hR.at_ (i := 4) rfl;have hw1 := vC (.mk op who name nums kids);refine tr 1 ?_
 refine Lo 0 yO rfl hcp ?_;refine Cp jP rfl .k0 (fun m' hm he => wZ hp) ?_ ?_
 ·rintro _ _ ⟨h1, rfl⟩;exact pW hl2 ⟨.inr za, rfl⟩
 rintro _ _ ⟨hp1, rfl, rfl⟩;subst hwho hname;subst h5;by_cases hna : nums.length = 0
 ·by_cases hnk : kids.length = 2
  ·refine vr 5 ?_;refine Lo 0 ze rfl hc0 ?_;refine zH 2 ?_;refine Lo 0 ze rfl hc1 ?_;refine xf 2 ?_;refine Lo 0 yI rfl hc2 ?_;refine xf 2 ?_;refine Cn ye rfl zq ?_ ?_
   ·rintro _ _ ⟨h1, rfl⟩;exact absurd rfl h1
   rintro _ _ ⟨h1, rfl, rfl⟩;refine vr 12 ?_;refine Lo 6 ze rfl hc0 ?_;refine zH 6 ?_;refine zH 5 ?_;refine zH 6 ?_;refine zH 7 ?_;refine zH 5 ?_;refine xf 12 ?_;refine Lo 2 xO rfl hc3 ?_;refine y4 2 ?_;refine Lo 2 wT rfl hc4 ?_;refine y4 1 ?_;refine Cn ye rfl zq ?_ ?_
   ·rintro _ _ ⟨h1, rfl⟩;exact absurd rfl h1
   rintro _ _ ⟨h1, rfl, rfl⟩;have hn0 := List.eq_nil_of_length_eq_zero hna;obtain ⟨k1, k2, rfl⟩ := aJ hnk;subst hn0;have hA : B.isSome = true := hrb.isSome (by rw [hvb]; simp);have f1 : yP m ((us.drop (0 * 5)).take 5) k1 := hkb 0 yA;have i1 : xg m9 b ((us.drop (0 * 5)).take 5) k1 := (ih 0 yA).mono hl9;have ha1 := (hrb.elem (0 * 5) 5).mono hl9
   obtain ⟨w1, nm1, A1, la1, ca1, B1, lb1, cb1, e1⟩ := yP.formO f1;rw [e1] at ha1 i1;have ho1 : mc m9 ((sa B).add (0 * 5)) = some (.int .i8 (qd k1)) := ha1.at0;clear f1 e1;have f2 : yP m ((us.drop (1 * 5)).take 5) k2 := hkb 1 yA;have i2 : xg m9 b ((us.drop (1 * 5)).take 5) k2 := (ih 1 yA).mono hl9;have ha2 := (hrb.elem (1 * 5) 5).mono hl9
   obtain ⟨w2, nm2, A2, la2, ca2, B2, lb2, cb2, e2⟩ := yP.formO f2;rw [e2] at ha2 i2;have ho2 : mc m9 ((sa B).add (1 * 5)) = some (.int .i8 (qd k2)) := ha2.at0;clear f2 e2;rw [ZR, bO];refine vr 6 ?_;refine Lo 5 ze rfl hc0 ?_;refine zH 6 ?_;refine zH 6 ?_;refine xf 5 ?_;refine Db (sq [0, 1, 2, 3, 4, 105, 6] .done) ?_;refine Vr 1 rfl (zl yO rfl hcp) ?_
   refine Vr 0 rfl (zl wT rfl hc4) ?_;refine Vb 0 rfl (zQ jy rfl rfl hA za za) ?_;refine Vr 0 rfl (zO xP rfl rfl ha1) ?_;refine zf rfl ((z8 f0 rfl .k0 (fun m' hm he => qg (br := false) (i1.mono hm) hp1 hd) rfl ?_ ?_)) rfl
   ·rintro _ _ ⟨h1, rfl⟩;exact pW hl2 ⟨(kV h1 (v := zX k2)).imp id (fun h => by omega), rfl⟩
   rintro _ _ ⟨s, h1, h2, rfl, rfl⟩;have hsl := qh (br := false)  h1 h2;by_cases h25 : qd k2 = 5
   ·rw [decide_eq_true h25];refine vB 1 ?_;refine Vn 2 ?_;refine Db (sq [0, 1, 2, 3, 4, 5, 6, 7, 8, 9, 10, 11, 12, 113, 14, 15] .done) ?_;refine vB 1 ?_;refine Vs 0 rfl ?_;refine Vr 1 rfl (zl yO rfl hcp) ?_;refine Vr 0 rfl (zl wT rfl hc4) ?_;refine Vb 0 rfl (zQ jy rfl rfl hA za za) ?_;refine Vr 1 rfl (zO xP rfl rfl ha2) ?_
    refine Vr 0 rfl (zl wT rfl hc4) ?_;refine Vb 1 rfl (zQ jy rfl rfl hA za za) ?_;refine Vr 0 rfl (zl ze rfl ho2) ?_;refine Vb 0 rfl (dt (y3 rfl rfl) xi) ?_;refine zf rfl ((z8 f0 rfl .k0 (fun m' hm he => qg (br := true) (i2.mono hm) h2 hd) rfl ?_ ?_)) rfl
    ·rintro _ _ ⟨h3, rfl⟩;exact pW hl2 ⟨wq h3 |>.imp id (fun h => by omega), rfl⟩
    rintro _ _ ⟨t, h3, h4, rfl, rfl⟩;have htl := qh h3 h4;refine Vs 1 rfl ?_;refine Vn 4 ?_;have e2 : s ++ [32, 111, 114, 32] ++ t = xe JF s t := by simp [xe]
    rw [e2, show p + 1 + zX k1 + zX k2 = p + (1 + zX k1 + zX k2) by omega];exact z6 hl2 [_] zj [_] .p0 ⟨_, vE h1 h3, by omega, rfl, rfl⟩
   ·rw [decide_eq_false h25];refine vB 1 ?_;refine Vn 2 ?_;refine Db (sq [0, 1, 2, 3, 4, 5, 6, 7, 8, 9, 10, 11, 12, 113, 14, 15] .done) ?_;refine vB 1 ?_;refine Vs 0 rfl ?_;refine Vr 1 rfl (zl yO rfl hcp) ?_;refine Vr 0 rfl (zl wT rfl hc4) ?_;refine Vb 0 rfl (zQ jy rfl rfl hA za za) ?_;refine Vr 1 rfl (zO xP rfl rfl ha2) ?_
    refine Vr 0 rfl (zl wT rfl hc4) ?_;refine Vb 1 rfl (zQ jy rfl rfl hA za za) ?_;refine Vr 0 rfl (zl ze rfl ho2) ?_;refine Vb 0 rfl (df (y3 rfl rfl) xi) ?_;refine zf rfl ((z8 f0 rfl .k0 (fun m' hm he => qg (br := false) (i2.mono hm) h2 hd) rfl ?_ ?_)) rfl
    ·rintro _ _ ⟨h3, rfl⟩;exact pW hl2 ⟨wq h3 |>.imp id (fun h => by omega), rfl⟩
    rintro _ _ ⟨t, h3, h4, rfl, rfl⟩;have htl := qh h3 h4;refine Vs 1 rfl ?_;refine Vn 4 ?_;have e2 : s ++ [32, 111, 114, 32] ++ t = xe JF s t := by simp [xe]
    rw [e2, show p + 1 + zX k1 + zX k2 = p + (1 + zX k1 + zX k2) by omega];exact z6 hl2 [_] zj [_] .p0 ⟨_, vE h1 h3, by omega, rfl, rfl⟩
  ·refine vr 5 ?_;refine Lo 0 ze rfl hc0 ?_;refine zH 2 ?_;refine Lo 0 ze rfl hc1 ?_;refine xf 2 ?_;refine Lo 0 yI rfl hc2 ?_;refine xf 2 ?_;refine Cn ye rfl zq ?_ ?_
   ·rintro _ _ ⟨h1, rfl⟩;exact absurd rfl h1
   rintro _ _ ⟨h1, rfl, rfl⟩;refine vr 12 ?_;refine Lo 6 ze rfl hc0 ?_;refine zH 6 ?_;refine zH 5 ?_;refine zH 6 ?_;refine zH 7 ?_;refine zH 5 ?_;refine xf 12 ?_;refine Lo 2 xO rfl hc3 ?_;refine y4 2 ?_;refine Lo 2 wT rfl hc4 ?_;refine zH 1 ?_;refine Cn ye rfl zq ?_ ?_
   ·rintro _ _ ⟨h1, rfl⟩;exact pW hl2 ⟨.inl (xk (fun h => by unfold up at h; omega)), rfl⟩
   rintro _ _ ⟨h1, rfl, rfl⟩;cases h1
 ·refine vr 5 ?_;refine Lo 0 ze rfl hc0 ?_;refine zH 2 ?_;refine Lo 0 ze rfl hc1 ?_;refine xf 2 ?_;refine Lo 0 yI rfl hc2 ?_;refine xf 2 ?_;refine Cn ye rfl zq ?_ ?_
  ·rintro _ _ ⟨h1, rfl⟩;exact absurd rfl h1
  rintro _ _ ⟨h1, rfl, rfl⟩;refine vr 12 ?_;refine Lo 6 ze rfl hc0 ?_;refine zH 6 ?_;refine zH 5 ?_;refine zH 6 ?_;refine zH 7 ?_;refine zH 5 ?_;refine xf 12 ?_;refine Lo 2 xO rfl hc3 ?_;refine zH 7 ?_;refine Cn ye rfl zq ?_ ?_
  ·rintro _ _ ⟨h1, rfl⟩;exact pW hl2 ⟨.inl (xk (fun h => by unfold up at h; omega)), rfl⟩
  rintro _ _ ⟨h1, rfl, rfl⟩;cases h1
end
section
open Wd Tp Kd
variable {m : Mp} {b d p : Nat}
theorem GE (hT : qB m) (hU : xU m) {op who : Int} {name : Bt} {nums : List zY} {kids : List zI} {A B : Oa} {ca cb : Nat} {vs us : Lv} (hma : nums.length <= 9223372036854775807) (hmb : kids.length <= 9223372036854775807) (hnm : name.length <= 140737488355328)
  (hra : Rd m A vs) (hva : vs.length = nums.length * 4) (hka : ∀ (i : Nat) (hi : i < nums.length), xr m ((vs.drop (i * 4)).take 4) nums[i])
  (hrb : Rd m B us) (hvb : us.length = kids.length * 5) (hkb : ∀ (i : Nat) (hi : i < kids.length), yP m ((us.drop (i * 5)).take 5) kids[i])
  (ih : ∀ (i : Nat) (hi : i < kids.length), xg m b ((us.drop (i * 5)).take 5) kids[i]) (hwho : who = 0) (hname : name = []) (h4 : op = 4) : xg m b (c5 op who name A nums.length ca B kids.length cb) (.mk op who name nums kids) := by
 intro m0 hm0 p d hp hd;skip;refine ym [.tmp 4] Tryz.func136 rfl rfl rfl ?_;refine tr 2 ?_;refine Bx 0 rfl fun b1 => ?_;refine Bx 4 rfl fun b2 => ?_;refine zG .here (fun ns hi _ hd1 => ?_);refine zG .here (fun ns2 hi2 _ hd2 => ?_)
 have hR : Rd (yj (yj m0 ns) ns2) (some ⟨b2, 0, none⟩) (c5 op who name A nums.length ca B kids.length cb) := ((Rd.blk hi).mono (yq hd1)).mono (zU _ _);have hR1 : Rd (yj (yj m0 ns) ns2) (some ⟨b1, 0, none⟩) [zS b] := (Rd.blk hi2).mono (yq hd2);have hl2 : Le m0 (yj (yj m0 ns) ns2) := (zU _ _).trans (zU _ _);clear hi hd1 hi2 hd2;generalize yj (yj m0 ns) ns2 = m9 at hR hR1 hl2
 have hl9 := hm0.trans hl2;have hT := hT.mono hl9;have hU := hU.mono hl9;have hat : At m9 ⟨b2, 0, none⟩ (c5 op who name A nums.length ca B kids.length cb) := fun i u hi => hR.at_ hi;have hcp : mc m9 ⟨b1, 0, none⟩ = some (zS b) := hR1.at_ (i := 0) rfl;have hc0 : mc m9 ⟨b2, 0, none⟩ = some (.int .i8 op) := hR.at_ (i := 0) rfl
 have hc1 : mc m9 ⟨b2, 1, none⟩ = some (.int .i8 who) := hR.at_ (i := 1) rfl;have hc2 : mc m9 ⟨b2, 2, none⟩ = some (.string (bs name)) := hR.at_ (i := 2) rfl;have hc3 : mc m9 ⟨b2, 3, none⟩ = some (.slice A nums.length ca) := hR.at_ (i := 3) rfl;have hc4 : mc m9 ⟨b2, 4, none⟩ = some (.slice B kids.length cb) := hR.at_ (i := 4) rfl;have hw1 := vC (.mk op who name nums kids);refine tr 1 ?_
 refine Lo 0 yO rfl hcp ?_;refine Cp jP rfl .k0 (fun m' hm he => wZ hp) ?_ ?_
 ·rintro _ _ ⟨h1, rfl⟩;exact pW hl2 ⟨.inr za, rfl⟩
 rintro _ _ ⟨hp1, rfl, rfl⟩;subst hwho hname;subst h4;by_cases hna : nums.length = 0
 ·by_cases hnk : kids.length = 2
  ·refine vr 5 ?_;refine Lo 0 ze rfl hc0 ?_;refine zH 2 ?_;refine Lo 0 ze rfl hc1 ?_;refine xf 2 ?_;refine Lo 0 yI rfl hc2 ?_;refine xf 2 ?_;refine Cn ye rfl zq ?_ ?_
   ·rintro _ _ ⟨h1, rfl⟩;exact absurd rfl h1
   rintro _ _ ⟨h1, rfl, rfl⟩;refine vr 12 ?_;refine Lo 6 ze rfl hc0 ?_;refine zH 6 ?_;refine zH 5 ?_;refine zH 6 ?_;refine zH 7 ?_;refine xf 15 ?_;refine Lo 2 xO rfl hc3 ?_;refine y4 2 ?_;refine Lo 2 wT rfl hc4 ?_;refine y4 1 ?_;refine Cn ye rfl zq ?_ ?_
   ·rintro _ _ ⟨h1, rfl⟩;exact absurd rfl h1
   rintro _ _ ⟨h1, rfl, rfl⟩;have hn0 := List.eq_nil_of_length_eq_zero hna;obtain ⟨k1, k2, rfl⟩ := aJ hnk;subst hn0;have hA : B.isSome = true := hrb.isSome (by rw [hvb]; simp);have f1 : yP m ((us.drop (0 * 5)).take 5) k1 := hkb 0 yA;have i1 : xg m9 b ((us.drop (0 * 5)).take 5) k1 := (ih 0 yA).mono hl9;have ha1 := (hrb.elem (0 * 5) 5).mono hl9
   obtain ⟨w1, nm1, A1, la1, ca1, B1, lb1, cb1, e1⟩ := yP.formO f1;rw [e1] at ha1 i1;have ho1 : mc m9 ((sa B).add (0 * 5)) = some (.int .i8 (qd k1)) := ha1.at0;clear f1 e1;have f2 : yP m ((us.drop (1 * 5)).take 5) k2 := hkb 1 yA;have i2 : xg m9 b ((us.drop (1 * 5)).take 5) k2 := (ih 1 yA).mono hl9;have ha2 := (hrb.elem (1 * 5) 5).mono hl9
   obtain ⟨w2, nm2, A2, la2, ca2, B2, lb2, cb2, e2⟩ := yP.formO f2;rw [e2] at ha2 i2;have ho2 : mc m9 ((sa B).add (1 * 5)) = some (.int .i8 (qd k2)) := ha2.at0;clear f2 e2;rw [bS, bO];by_cases h15 : qd k1 = 5
   ·rw [decide_eq_true h15];refine vr 6 ?_;refine Lo 5 ze rfl hc0 ?_;refine zH 6 ?_;refine zH 6 ?_;refine zH 6 ?_;refine xf 5 ?_;refine Db (sq [0, 1, 2, 3, 4, 5, 6, 7, 8, 9, 10, 111, 12] .done) ?_;refine Vr 1 rfl (zl yO rfl hcp) ?_;refine Vr 0 rfl (zl wT rfl hc4) ?_;refine Vb 0 rfl (zQ jy rfl rfl hA za za) ?_
    refine Vr 1 rfl (zO xP rfl rfl ha1) ?_;refine Vr 0 rfl (zl wT rfl hc4) ?_;refine Vb 1 rfl (zQ jy rfl rfl hA za za) ?_;refine Vr 0 rfl (zl ze rfl ho1) ?_;refine Vb 0 rfl (dt (y3 rfl rfl) xi) ?_;refine zf rfl ((z8 f0 rfl .k0 (fun m' hm he => qg (br := true) (i1.mono hm) hp1 hd) rfl ?_ ?_)) rfl
    ·rintro _ _ ⟨h1, rfl⟩;exact pW hl2 ⟨(kV h1 (v := zX k2)).imp id (fun h => by omega), rfl⟩
    rintro _ _ ⟨s, h1, h2, rfl, rfl⟩;have hsl := qh (br := true)  h1 h2;by_cases h25 : qd k2 = 5
    ·rw [decide_eq_true h25, Bool.true_or];refine vB 1 ?_;refine Vn 2 ?_;refine Db (sq [0, 1, 2, 3, 4, 5, 6, 7, 8, 9, 10, 11, 12, 13, 14, 15, 16, 17, 18, 19, 20, 121, 22, 23] .done) ?_;refine vB 1 ?_;refine Vs 0 rfl ?_;refine Vr 1 rfl (zl yO rfl hcp) ?_;refine Vr 0 rfl (zl wT rfl hc4) ?_;refine Vb 0 rfl (zQ jy rfl rfl hA za za) ?_
     refine Vr 1 rfl (zO xP rfl rfl ha2) ?_;refine Vr 0 rfl (zl wT rfl hc4) ?_;refine Vb 1 rfl (zQ jy rfl rfl hA za za) ?_;refine Vr 0 rfl (zl ze rfl ho2) ?_;refine Vb 8 rfl (dt (y3 rfl rfl) xi) ?_;refine zf rfl ((z8 f0 rfl .k0 (fun m' hm he => qg (br := true) (i2.mono hm) h2 hd) rfl ?_ ?_)) rfl
     ·rintro _ _ ⟨h3, rfl⟩;exact pW hl2 ⟨wq h3 |>.imp id (fun h => by omega), rfl⟩
     rintro _ _ ⟨t, h3, h4, rfl, rfl⟩;have htl := qh h3 h4;refine Vs 1 rfl ?_;refine Vn 4 ?_;have e2 : s ++ [32, 97, 110, 100, 32] ++ t = xe gJ s t := by simp [xe]
     rw [e2, show p + 1 + zX k1 + zX k2 = p + (1 + zX k1 + zX k2) by omega];exact z6 hl2 [_] zj [_] .p0 ⟨_, vE h1 h3, by omega, rfl, rfl⟩
    rw [decide_eq_false h25, Bool.false_or];by_cases h24 : qd k2 = 4
    ·rw [decide_eq_true h24];refine vB 1 ?_;refine Vn 2 ?_;refine Db (sq [0, 1, 2, 3, 4, 5, 6, 7, 8, 9, 10, 11, 12, 13, 14, 15, 16, 17, 18, 19, 20, 121, 22, 23] .done) ?_;refine vB 1 ?_;refine Vs 0 rfl ?_;refine Vr 1 rfl (zl yO rfl hcp) ?_;refine Vr 0 rfl (zl wT rfl hc4) ?_;refine Vb 0 rfl (zQ jy rfl rfl hA za za) ?_
     refine Vr 1 rfl (zO xP rfl rfl ha2) ?_;refine Vr 0 rfl (zl wT rfl hc4) ?_;refine Vb 1 rfl (zQ jy rfl rfl hA za za) ?_;refine Vr 0 rfl (zl ze rfl ho2) ?_;refine Vb 2 rfl (df (y3 rfl rfl) xi) ?_;refine Vr 0 rfl (zl wT rfl hc4) ?_;refine Vb 1 rfl (zQ jy rfl rfl hA za za) ?_
     refine Vr 0 rfl (zl ze rfl ho2) ?_;refine Vb 1 rfl (dt (y3 rfl rfl) xi) ?_;refine zf rfl ((z8 f0 rfl .k0 (fun m' hm he => qg (br := true) (i2.mono hm) h2 hd) rfl ?_ ?_)) rfl
     ·rintro _ _ ⟨h3, rfl⟩;exact pW hl2 ⟨wq h3 |>.imp id (fun h => by omega), rfl⟩
     rintro _ _ ⟨t, h3, h4, rfl, rfl⟩;have htl := qh h3 h4;refine Vs 1 rfl ?_;refine Vn 4 ?_;have e2 : s ++ [32, 97, 110, 100, 32] ++ t = xe gJ s t := by simp [xe]
     rw [e2, show p + 1 + zX k1 + zX k2 = p + (1 + zX k1 + zX k2) by omega];exact z6 hl2 [_] zj [_] .p0 ⟨_, vE h1 h3, by omega, rfl, rfl⟩
    ·rw [decide_eq_false h24];refine vB 1 ?_;refine Vn 2 ?_;refine Db (sq [0, 1, 2, 3, 4, 5, 6, 7, 8, 9, 10, 11, 12, 13, 14, 15, 16, 17, 18, 19, 20, 121, 22, 23] .done) ?_;refine vB 1 ?_;refine Vs 0 rfl ?_;refine Vr 1 rfl (zl yO rfl hcp) ?_;refine Vr 0 rfl (zl wT rfl hc4) ?_;refine Vb 0 rfl (zQ jy rfl rfl hA za za) ?_
     refine Vr 1 rfl (zO xP rfl rfl ha2) ?_;refine Vr 0 rfl (zl wT rfl hc4) ?_;refine Vb 1 rfl (zQ jy rfl rfl hA za za) ?_;refine Vr 0 rfl (zl ze rfl ho2) ?_;refine Vb 2 rfl (df (y3 rfl rfl) xi) ?_;refine Vr 0 rfl (zl wT rfl hc4) ?_;refine Vb 1 rfl (zQ jy rfl rfl hA za za) ?_
     refine Vr 0 rfl (zl ze rfl ho2) ?_;refine Vb 1 rfl (df (y3 rfl rfl) xi) ?_;refine zf rfl ((z8 f0 rfl .k0 (fun m' hm he => qg (br := false) (i2.mono hm) h2 hd) rfl ?_ ?_)) rfl
     ·rintro _ _ ⟨h3, rfl⟩;exact pW hl2 ⟨wq h3 |>.imp id (fun h => by omega), rfl⟩
     rintro _ _ ⟨t, h3, h4, rfl, rfl⟩;have htl := qh h3 h4;refine Vs 1 rfl ?_;refine Vn 4 ?_;have e2 : s ++ [32, 97, 110, 100, 32] ++ t = xe gJ s t := by simp [xe]
     rw [e2, show p + 1 + zX k1 + zX k2 = p + (1 + zX k1 + zX k2) by omega];exact z6 hl2 [_] zj [_] .p0 ⟨_, vE h1 h3, by omega, rfl, rfl⟩
   ·rw [decide_eq_false h15];refine vr 6 ?_;refine Lo 5 ze rfl hc0 ?_;refine zH 6 ?_;refine zH 6 ?_;refine zH 6 ?_;refine xf 5 ?_;refine Db (sq [0, 1, 2, 3, 4, 5, 6, 7, 8, 9, 10, 111, 12] .done) ?_;refine Vr 1 rfl (zl yO rfl hcp) ?_;refine Vr 0 rfl (zl wT rfl hc4) ?_;refine Vb 0 rfl (zQ jy rfl rfl hA za za) ?_
    refine Vr 1 rfl (zO xP rfl rfl ha1) ?_;refine Vr 0 rfl (zl wT rfl hc4) ?_;refine Vb 1 rfl (zQ jy rfl rfl hA za za) ?_;refine Vr 0 rfl (zl ze rfl ho1) ?_;refine Vb 0 rfl (df (y3 rfl rfl) xi) ?_;refine zf rfl ((z8 f0 rfl .k0 (fun m' hm he => qg (br := false) (i1.mono hm) hp1 hd) rfl ?_ ?_)) rfl
    ·rintro _ _ ⟨h1, rfl⟩;exact pW hl2 ⟨(kV h1 (v := zX k2)).imp id (fun h => by omega), rfl⟩
    rintro _ _ ⟨s, h1, h2, rfl, rfl⟩;have hsl := qh (br := false)  h1 h2;by_cases h25 : qd k2 = 5
    ·rw [decide_eq_true h25, Bool.true_or];refine vB 1 ?_;refine Vn 2 ?_;refine Db (sq [0, 1, 2, 3, 4, 5, 6, 7, 8, 9, 10, 11, 12, 13, 14, 15, 16, 17, 18, 19, 20, 121, 22, 23] .done) ?_;refine vB 1 ?_;refine Vs 0 rfl ?_;refine Vr 1 rfl (zl yO rfl hcp) ?_;refine Vr 0 rfl (zl wT rfl hc4) ?_;refine Vb 0 rfl (zQ jy rfl rfl hA za za) ?_
     refine Vr 1 rfl (zO xP rfl rfl ha2) ?_;refine Vr 0 rfl (zl wT rfl hc4) ?_;refine Vb 1 rfl (zQ jy rfl rfl hA za za) ?_;refine Vr 0 rfl (zl ze rfl ho2) ?_;refine Vb 8 rfl (dt (y3 rfl rfl) xi) ?_;refine zf rfl ((z8 f0 rfl .k0 (fun m' hm he => qg (br := true) (i2.mono hm) h2 hd) rfl ?_ ?_)) rfl
     ·rintro _ _ ⟨h3, rfl⟩;exact pW hl2 ⟨wq h3 |>.imp id (fun h => by omega), rfl⟩
     rintro _ _ ⟨t, h3, h4, rfl, rfl⟩;have htl := qh h3 h4;refine Vs 1 rfl ?_;refine Vn 4 ?_;have e2 : s ++ [32, 97, 110, 100, 32] ++ t = xe gJ s t := by simp [xe]
     rw [e2, show p + 1 + zX k1 + zX k2 = p + (1 + zX k1 + zX k2) by omega];exact z6 hl2 [_] zj [_] .p0 ⟨_, vE h1 h3, by omega, rfl, rfl⟩
    rw [decide_eq_false h25, Bool.false_or];by_cases h24 : qd k2 = 4
    ·rw [decide_eq_true h24];refine vB 1 ?_;refine Vn 2 ?_;refine Db (sq [0, 1, 2, 3, 4, 5, 6, 7, 8, 9, 10, 11, 12, 13, 14, 15, 16, 17, 18, 19, 20, 121, 22, 23] .done) ?_;refine vB 1 ?_;refine Vs 0 rfl ?_;refine Vr 1 rfl (zl yO rfl hcp) ?_;refine Vr 0 rfl (zl wT rfl hc4) ?_;refine Vb 0 rfl (zQ jy rfl rfl hA za za) ?_
     refine Vr 1 rfl (zO xP rfl rfl ha2) ?_;refine Vr 0 rfl (zl wT rfl hc4) ?_;refine Vb 1 rfl (zQ jy rfl rfl hA za za) ?_;refine Vr 0 rfl (zl ze rfl ho2) ?_;refine Vb 2 rfl (df (y3 rfl rfl) xi) ?_;refine Vr 0 rfl (zl wT rfl hc4) ?_;refine Vb 1 rfl (zQ jy rfl rfl hA za za) ?_
     refine Vr 0 rfl (zl ze rfl ho2) ?_;refine Vb 1 rfl (dt (y3 rfl rfl) xi) ?_;refine zf rfl ((z8 f0 rfl .k0 (fun m' hm he => qg (br := true) (i2.mono hm) h2 hd) rfl ?_ ?_)) rfl
     ·rintro _ _ ⟨h3, rfl⟩;exact pW hl2 ⟨wq h3 |>.imp id (fun h => by omega), rfl⟩
     rintro _ _ ⟨t, h3, h4, rfl, rfl⟩;have htl := qh h3 h4;refine Vs 1 rfl ?_;refine Vn 4 ?_;have e2 : s ++ [32, 97, 110, 100, 32] ++ t = xe gJ s t := by simp [xe]
     rw [e2, show p + 1 + zX k1 + zX k2 = p + (1 + zX k1 + zX k2) by omega];exact z6 hl2 [_] zj [_] .p0 ⟨_, vE h1 h3, by omega, rfl, rfl⟩
    ·rw [decide_eq_false h24];refine vB 1 ?_;refine Vn 2 ?_;refine Db (sq [0, 1, 2, 3, 4, 5, 6, 7, 8, 9, 10, 11, 12, 13, 14, 15, 16, 17, 18, 19, 20, 121, 22, 23] .done) ?_;refine vB 1 ?_;refine Vs 0 rfl ?_;refine Vr 1 rfl (zl yO rfl hcp) ?_;refine Vr 0 rfl (zl wT rfl hc4) ?_;refine Vb 0 rfl (zQ jy rfl rfl hA za za) ?_
     refine Vr 1 rfl (zO xP rfl rfl ha2) ?_;refine Vr 0 rfl (zl wT rfl hc4) ?_;refine Vb 1 rfl (zQ jy rfl rfl hA za za) ?_;refine Vr 0 rfl (zl ze rfl ho2) ?_;refine Vb 2 rfl (df (y3 rfl rfl) xi) ?_;refine Vr 0 rfl (zl wT rfl hc4) ?_;refine Vb 1 rfl (zQ jy rfl rfl hA za za) ?_
     refine Vr 0 rfl (zl ze rfl ho2) ?_;refine Vb 1 rfl (df (y3 rfl rfl) xi) ?_;refine zf rfl ((z8 f0 rfl .k0 (fun m' hm he => qg (br := false) (i2.mono hm) h2 hd) rfl ?_ ?_)) rfl
     ·rintro _ _ ⟨h3, rfl⟩;exact pW hl2 ⟨wq h3 |>.imp id (fun h => by omega), rfl⟩
     rintro _ _ ⟨t, h3, h4, rfl, rfl⟩;have htl := qh h3 h4;refine Vs 1 rfl ?_;refine Vn 4 ?_;have e2 : s ++ [32, 97, 110, 100, 32] ++ t = xe gJ s t := by simp [xe]
     rw [e2, show p + 1 + zX k1 + zX k2 = p + (1 + zX k1 + zX k2) by omega];exact z6 hl2 [_] zj [_] .p0 ⟨_, vE h1 h3, by omega, rfl, rfl⟩
  ·refine vr 5 ?_;refine Lo 0 ze rfl hc0 ?_;refine zH 2 ?_;refine Lo 0 ze rfl hc1 ?_;refine xf 2 ?_;refine Lo 0 yI rfl hc2 ?_;refine xf 2 ?_;refine Cn ye rfl zq ?_ ?_
   ·rintro _ _ ⟨h1, rfl⟩;exact absurd rfl h1
   rintro _ _ ⟨h1, rfl, rfl⟩;refine vr 12 ?_;refine Lo 6 ze rfl hc0 ?_;refine zH 6 ?_;refine zH 5 ?_;refine zH 6 ?_;refine zH 7 ?_;refine xf 15 ?_;refine Lo 2 xO rfl hc3 ?_;refine y4 2 ?_;refine Lo 2 wT rfl hc4 ?_;refine zH 1 ?_;refine Cn ye rfl zq ?_ ?_
   ·rintro _ _ ⟨h1, rfl⟩;exact pW hl2 ⟨.inl (xk (fun h => by unfold up at h; omega)), rfl⟩
   rintro _ _ ⟨h1, rfl, rfl⟩;cases h1
 ·refine vr 5 ?_;refine Lo 0 ze rfl hc0 ?_;refine zH 2 ?_;refine Lo 0 ze rfl hc1 ?_;refine xf 2 ?_;refine Lo 0 yI rfl hc2 ?_;refine xf 2 ?_;refine Cn ye rfl zq ?_ ?_
  ·rintro _ _ ⟨h1, rfl⟩;exact absurd rfl h1
  rintro _ _ ⟨h1, rfl, rfl⟩;refine vr 12 ?_;refine Lo 6 ze rfl hc0 ?_;refine zH 6 ?_;refine zH 5 ?_;refine zH 6 ?_;refine zH 7 ?_;refine xf 15 ?_;refine Lo 2 xO rfl hc3 ?_;refine zH 7 ?_;refine Cn ye rfl zq ?_ ?_
  ·rintro _ _ ⟨h1, rfl⟩;exact pW hl2 ⟨.inl (xk (fun h => by unfold up at h; omega)), rfl⟩
  rintro _ _ ⟨h1, rfl, rfl⟩;cases h1
end
section
open Wd Tp Kd
variable {m : Mp} {b d p : Nat}
theorem JM (hT : qB m) (hU : xU m) {op who : Int} {name : Bt} {nums : List zY} {kids : List zI} {A B : Oa} {ca cb : Nat} {vs us : Lv} (hma : nums.length <= 9223372036854775807) (hmb : kids.length <= 9223372036854775807) (hnm : name.length <= 140737488355328)
  (hra : Rd m A vs) (hva : vs.length = nums.length * 4) (hka : ∀ (i : Nat) (hi : i < nums.length), xr m ((vs.drop (i * 4)).take 4) nums[i])
  (hrb : Rd m B us) (hvb : us.length = kids.length * 5) (hkb : ∀ (i : Nat) (hi : i < kids.length), yP m ((us.drop (i * 5)).take 5) kids[i])
  (ih : ∀ (i : Nat) (hi : i < kids.length), xg m b ((us.drop (i * 5)).take 5) kids[i]) (hwho : who = 0) (hname : name = []) (h0 : op = 0) : xg m b (c5 op who name A nums.length ca B kids.length cb) (.mk op who name nums kids) := by
 intro m0 hm0 p d hp hd;skip;refine ym [.tmp 4] Tryz.func136 rfl rfl rfl ?_;refine tr 2 ?_;refine Bx 0 rfl fun b1 => ?_;refine Bx 4 rfl fun b2 => ?_;refine zG .here (fun ns hi _ hd1 => ?_);refine zG .here (fun ns2 hi2 _ hd2 => ?_)
 have hR : Rd (yj (yj m0 ns) ns2) (some ⟨b2, 0, none⟩) (c5 op who name A nums.length ca B kids.length cb) := ((Rd.blk hi).mono (yq hd1)).mono (zU _ _);have hR1 : Rd (yj (yj m0 ns) ns2) (some ⟨b1, 0, none⟩) [zS b] := (Rd.blk hi2).mono (yq hd2);have hl2 : Le m0 (yj (yj m0 ns) ns2) := (zU _ _).trans (zU _ _);clear hi hd1 hi2 hd2;generalize yj (yj m0 ns) ns2 = m9 at hR hR1 hl2
 have hl9 := hm0.trans hl2;have hT := hT.mono hl9;have hU := hU.mono hl9;have hat : At m9 ⟨b2, 0, none⟩ (c5 op who name A nums.length ca B kids.length cb) := fun i u hi => hR.at_ hi;have hcp : mc m9 ⟨b1, 0, none⟩ = some (zS b) := hR1.at_ (i := 0) rfl;have hc0 : mc m9 ⟨b2, 0, none⟩ = some (.int .i8 op) := hR.at_ (i := 0) rfl
 have hc1 : mc m9 ⟨b2, 1, none⟩ = some (.int .i8 who) := hR.at_ (i := 1) rfl;have hc2 : mc m9 ⟨b2, 2, none⟩ = some (.string (bs name)) := hR.at_ (i := 2) rfl;have hc3 : mc m9 ⟨b2, 3, none⟩ = some (.slice A nums.length ca) := hR.at_ (i := 3) rfl;have hc4 : mc m9 ⟨b2, 4, none⟩ = some (.slice B kids.length cb) := hR.at_ (i := 4) rfl;have hw1 := vC (.mk op who name nums kids);refine tr 1 ?_
 refine Lo 0 yO rfl hcp ?_;refine Cp jP rfl .k0 (fun m' hm he => wZ hp) ?_ ?_
 ·rintro _ _ ⟨h1, rfl⟩;exact pW hl2 ⟨.inr za, rfl⟩
 rintro _ _ ⟨hp1, rfl, rfl⟩;subst hwho hname;subst h0;by_cases hna : nums.length = 2
 ·by_cases hnk : kids.length = 0
  ·refine vr 5 ?_;refine Lo 0 ze rfl hc0 ?_;refine zH 2 ?_;refine Lo 0 ze rfl hc1 ?_;refine xf 2 ?_;refine Lo 0 yI rfl hc2 ?_;refine xf 2 ?_;refine Cn ye rfl zq ?_ ?_
   ·rintro _ _ ⟨h1, rfl⟩;exact absurd rfl h1
   rintro _ _ ⟨h1, rfl, rfl⟩;refine vr 12 ?_;refine Lo 6 ze rfl hc0 ?_;refine xf 15 ?_;refine Lo 2 xO rfl hc3 ?_;refine y4 2 ?_;refine Lo 2 wT rfl hc4 ?_;refine y4 1 ?_;refine Cn ye rfl zq ?_ ?_
   ·rintro _ _ ⟨h1, rfl⟩;exact absurd rfl h1
   rintro _ _ ⟨h1, rfl, rfl⟩;have hk0 := List.eq_nil_of_length_eq_zero hnk;obtain ⟨x1, x2, rfl⟩ := aJ hna;subst hk0;have hA : A.isSome = true := hra.isSome (by rw [hva]; simp);have f1 : xr m ((vs.drop (0 * 4)).take 4) x1 := hka 0 yA;have f2 : xr m ((vs.drop (1 * 4)).take 4) x2 := hka 1 yA;have ha1 := (hra.elem (0 * 4) 4).mono hl9;have ha2 := (hra.elem (1 * 4) 4).mono hl9
   have i1 : vP m9 b _ x1 := jb (b := b) hT (f1.mono hl9);have i2 : vP m9 b _ x2 := jb (b := b) hT (f2.mono hl9);obtain ⟨n1, w1, A1, l1, c1, e1⟩ := xr.formO f1;obtain ⟨n2, w2, A2, l2, c2, e2⟩ := xr.formO f2;rw [e1] at ha1 i1;rw [e2] at ha2 i2;clear f1 f2 e1 e2;rw [c9, bQ];refine vr 6 ?_;refine Lo 5 ze rfl hc0 ?_;refine zH 6 ?_;refine zH 6 ?_;refine zH 6 ?_
   refine zH 8 ?_;refine Db (sq [0, 1, 2, 3, 4, 105, 6] .done) ?_;refine Vr 1 rfl (zl yO rfl hcp) ?_;refine Vr 0 rfl (zl xO rfl hc3) ?_;refine Vb 0 rfl (zQ dc rfl rfl hA za za) ?_;refine Vr 0 rfl (zO zT rfl rfl ha1) ?_;refine zf rfl ((z8 qz rfl .k0 (fun m' hm he => i1 m' hm (p + 1) d hp1 hd) rfl ?_ ?_)) rfl
   ·rintro _ _ ⟨h1, rfl⟩;exact pW hl2 ⟨(kV h1 (v := zV x2)).imp id (fun h => by omega), rfl⟩
   rintro _ _ ⟨s, h1, h2, rfl, rfl⟩;have hsl := ui h1 h2;skip;refine vB 1 ?_;refine Vn 2 ?_;refine Db (sq [0, 2, 3, 4, 8, 9, 10, 11, 12] (.fork (sq [101, 5] (.fork (sq [106, 7, 113, 14, 15] .done) (sq [113, 106, 7, 14, 15] .done))) (sq [113, 101, 5, 106, 7, 14, 15] .done))) ?_;refine vB 2 ?_;refine Vr 0 rfl (zl ze rfl hc0) ?_;refine Vb 0 rfl (bd rfl rfl (DG za za)) ?_
   refine Vr 1 rfl (zl yO rfl hcp) ?_;refine Vr 0 rfl (zl xO rfl hc3) ?_;refine Vb 0 rfl (zQ dc rfl rfl hA za za) ?_;refine Vr 0 rfl (zO zT rfl rfl ha2) ?_;refine xl ?_ ?_;refine zf rfl (yi xH rfl rfl rfl rfl (fun b3 => ?_)) rfl;refine Vb 0 rfl (uQ ql rfl rfl (hR.isSome xz) za za) ?_
   refine xl ?_ ?_
   ·refine Ve 0 rfl ((yE (b := b3) (i := 0) (l := [.string (bs [32, 60, 32]), .string (bs [32, 60, 61, 32]), .string (bs [32, 61, 61, 32])]) yI rfl .here rfl)) ?_;refine Vs 0 rfl ?_;refine zf rfl ((z8 qz rfl .k1 (fun m' hm he => i2 m' hm (p + 1 + zV x1) d h2 hd) rfl ?_ ?_)) rfl
    ·rintro _ _ ⟨h3, rfl⟩;exact pW hl2 ⟨wq h3 |>.imp id (fun h => by omega), rfl⟩
    rintro _ _ ⟨t, h3, h4, rfl, rfl⟩;have htl := ui h3 h4;refine Vs 1 rfl ?_;refine Vn 2 ?_;have e2 : s ++ [32, 60, 32] ++ t = xe X9 s t := by simp [xe]
    rw [e2, show p + 1 + zV x1 + zV x2 = p + (1 + zV x1 + zV x2) by omega];exact z6 hl2 [_] zj [_] .p0 ⟨_, vE h1 h3, by omega, rfl, rfl⟩
   ·skip;refine zf rfl ((z8 qz rfl .k1 (fun m' hm he => i2 m' hm (p + 1 + zV x1) d h2 hd) rfl ?_ ?_)) rfl
    ·rintro _ _ ⟨h3, rfl⟩;exact pW hl2 ⟨wq h3 |>.imp id (fun h => by omega), rfl⟩
    rintro _ _ ⟨t, h3, h4, rfl, rfl⟩;have htl := ui h3 h4;skip;refine Ve 0 rfl ((yE (b := b3) (i := 0) (l := [.string (bs [32, 60, 32]), .string (bs [32, 60, 61, 32]), .string (bs [32, 61, 61, 32])]) yI rfl .h1 rfl)) ?_;refine Vs 0 rfl ?_;refine Vs 1 rfl ?_;refine Vn 2 ?_;have e2 : s ++ [32, 60, 32] ++ t = xe X9 s t := by simp [xe]
    rw [e2, show p + 1 + zV x1 + zV x2 = p + (1 + zV x1 + zV x2) by omega];exact z6 hl2 [_] zj [_] .p0 ⟨_, vE h1 h3, by omega, rfl, rfl⟩
   ·refine zf rfl ((z8 qz rfl .k0 (fun m' hm he => i2 m' hm (p + 1 + zV x1) d h2 hd) rfl ?_ ?_)) rfl
    ·rintro _ _ ⟨h3, rfl⟩;exact pW hl2 ⟨wq h3 |>.imp id (fun h => by omega), rfl⟩
    rintro _ _ ⟨t, h3, h4, rfl, rfl⟩;have htl := ui h3 h4;refine zf rfl (yi xH rfl rfl rfl rfl (fun b3 => ?_)) rfl;refine Vb 0 rfl (uQ ql rfl rfl (hR.isSome xz) za za) ?_
    refine Ve 0 rfl ((yE (b := b3) (i := 0) (l := [.string (bs [32, 60, 32]), .string (bs [32, 60, 61, 32]), .string (bs [32, 61, 61, 32])]) yI rfl .here rfl)) ?_;refine Vs 0 rfl ?_;refine Vs 1 rfl ?_;refine Vn 2 ?_;have e2 : s ++ [32, 60, 32] ++ t = xe X9 s t := by simp [xe]
    rw [e2, show p + 1 + zV x1 + zV x2 = p + (1 + zV x1 + zV x2) by omega];exact z6 hl2 [_] zj [_] .p1 ⟨_, vE h1 h3, by omega, rfl, rfl⟩
  ·refine vr 5 ?_;refine Lo 0 ze rfl hc0 ?_;refine zH 2 ?_;refine Lo 0 ze rfl hc1 ?_;refine xf 2 ?_;refine Lo 0 yI rfl hc2 ?_;refine xf 2 ?_;refine Cn ye rfl zq ?_ ?_
   ·rintro _ _ ⟨h1, rfl⟩;exact absurd rfl h1
   rintro _ _ ⟨h1, rfl, rfl⟩;refine vr 12 ?_;refine Lo 6 ze rfl hc0 ?_;refine xf 15 ?_;refine Lo 2 xO rfl hc3 ?_;refine y4 2 ?_;refine Lo 2 wT rfl hc4 ?_;refine zH 1 ?_;refine Cn ye rfl zq ?_ ?_
   ·rintro _ _ ⟨h1, rfl⟩;exact pW hl2 ⟨.inl (xk (fun h => by unfold up at h; omega)), rfl⟩
   rintro _ _ ⟨h1, rfl, rfl⟩;cases h1
 ·refine vr 5 ?_;refine Lo 0 ze rfl hc0 ?_;refine zH 2 ?_;refine Lo 0 ze rfl hc1 ?_;refine xf 2 ?_;refine Lo 0 yI rfl hc2 ?_;refine xf 2 ?_;refine Cn ye rfl zq ?_ ?_
  ·rintro _ _ ⟨h1, rfl⟩;exact absurd rfl h1
  rintro _ _ ⟨h1, rfl, rfl⟩;refine vr 12 ?_;refine Lo 6 ze rfl hc0 ?_;refine xf 15 ?_;refine Lo 2 xO rfl hc3 ?_;refine zH 7 ?_;refine Cn ye rfl zq ?_ ?_
  ·rintro _ _ ⟨h1, rfl⟩;exact pW hl2 ⟨.inl (xk (fun h => by unfold up at h; omega)), rfl⟩
  rintro _ _ ⟨h1, rfl, rfl⟩;cases h1
end
section
open Wd Tp Kd
variable {m : Mp} {b d p : Nat}
theorem JL (hT : qB m) (hU : xU m) {op who : Int} {name : Bt} {nums : List zY} {kids : List zI} {A B : Oa} {ca cb : Nat} {vs us : Lv} (hma : nums.length <= 9223372036854775807) (hmb : kids.length <= 9223372036854775807) (hnm : name.length <= 140737488355328)
  (hra : Rd m A vs) (hva : vs.length = nums.length * 4) (hka : ∀ (i : Nat) (hi : i < nums.length), xr m ((vs.drop (i * 4)).take 4) nums[i])
  (hrb : Rd m B us) (hvb : us.length = kids.length * 5) (hkb : ∀ (i : Nat) (hi : i < kids.length), yP m ((us.drop (i * 5)).take 5) kids[i])
  (ih : ∀ (i : Nat) (hi : i < kids.length), xg m b ((us.drop (i * 5)).take 5) kids[i]) (hwho : who = 0) (hname : name = []) (h0 : op = 1) : xg m b (c5 op who name A nums.length ca B kids.length cb) (.mk op who name nums kids) := by
 intro m0 hm0 p d hp hd;skip;refine ym [.tmp 4] Tryz.func136 rfl rfl rfl ?_;refine tr 2 ?_;refine Bx 0 rfl fun b1 => ?_;refine Bx 4 rfl fun b2 => ?_;refine zG .here (fun ns hi _ hd1 => ?_);refine zG .here (fun ns2 hi2 _ hd2 => ?_)
 have hR : Rd (yj (yj m0 ns) ns2) (some ⟨b2, 0, none⟩) (c5 op who name A nums.length ca B kids.length cb) := ((Rd.blk hi).mono (yq hd1)).mono (zU _ _);have hR1 : Rd (yj (yj m0 ns) ns2) (some ⟨b1, 0, none⟩) [zS b] := (Rd.blk hi2).mono (yq hd2);have hl2 : Le m0 (yj (yj m0 ns) ns2) := (zU _ _).trans (zU _ _);clear hi hd1 hi2 hd2;generalize yj (yj m0 ns) ns2 = m9 at hR hR1 hl2
 have hl9 := hm0.trans hl2;have hT := hT.mono hl9;have hU := hU.mono hl9;have hat : At m9 ⟨b2, 0, none⟩ (c5 op who name A nums.length ca B kids.length cb) := fun i u hi => hR.at_ hi;have hcp : mc m9 ⟨b1, 0, none⟩ = some (zS b) := hR1.at_ (i := 0) rfl;have hc0 : mc m9 ⟨b2, 0, none⟩ = some (.int .i8 op) := hR.at_ (i := 0) rfl
 have hc1 : mc m9 ⟨b2, 1, none⟩ = some (.int .i8 who) := hR.at_ (i := 1) rfl;have hc2 : mc m9 ⟨b2, 2, none⟩ = some (.string (bs name)) := hR.at_ (i := 2) rfl;have hc3 : mc m9 ⟨b2, 3, none⟩ = some (.slice A nums.length ca) := hR.at_ (i := 3) rfl;have hc4 : mc m9 ⟨b2, 4, none⟩ = some (.slice B kids.length cb) := hR.at_ (i := 4) rfl;have hw1 := vC (.mk op who name nums kids);refine tr 1 ?_
 refine Lo 0 yO rfl hcp ?_;refine Cp jP rfl .k0 (fun m' hm he => wZ hp) ?_ ?_
 ·rintro _ _ ⟨h1, rfl⟩;exact pW hl2 ⟨.inr za, rfl⟩
 rintro _ _ ⟨hp1, rfl, rfl⟩;subst hwho hname;subst h0;by_cases hna : nums.length = 2
 ·by_cases hnk : kids.length = 0
  ·refine vr 5 ?_;refine Lo 0 ze rfl hc0 ?_;refine zH 2 ?_;refine Lo 0 ze rfl hc1 ?_;refine xf 2 ?_;refine Lo 0 yI rfl hc2 ?_;refine xf 2 ?_;refine Cn ye rfl zq ?_ ?_
   ·rintro _ _ ⟨h1, rfl⟩;exact absurd rfl h1
   rintro _ _ ⟨h1, rfl, rfl⟩;refine vr 12 ?_;refine Lo 6 ze rfl hc0 ?_;refine zH 6 ?_;refine xf 15 ?_;refine Lo 2 xO rfl hc3 ?_;refine y4 2 ?_;refine Lo 2 wT rfl hc4 ?_;refine y4 1 ?_;refine Cn ye rfl zq ?_ ?_
   ·rintro _ _ ⟨h1, rfl⟩;exact absurd rfl h1
   rintro _ _ ⟨h1, rfl, rfl⟩;have hk0 := List.eq_nil_of_length_eq_zero hnk;obtain ⟨x1, x2, rfl⟩ := aJ hna;subst hk0;have hA : A.isSome = true := hra.isSome (by rw [hva]; simp);have f1 : xr m ((vs.drop (0 * 4)).take 4) x1 := hka 0 yA;have f2 : xr m ((vs.drop (1 * 4)).take 4) x2 := hka 1 yA;have ha1 := (hra.elem (0 * 4) 4).mono hl9;have ha2 := (hra.elem (1 * 4) 4).mono hl9
   have i1 : vP m9 b _ x1 := jb (b := b) hT (f1.mono hl9);have i2 : vP m9 b _ x2 := jb (b := b) hT (f2.mono hl9);obtain ⟨n1, w1, A1, l1, c1, e1⟩ := xr.formO f1;obtain ⟨n2, w2, A2, l2, c2, e2⟩ := xr.formO f2;rw [e1] at ha1 i1;rw [e2] at ha2 i2;clear f1 f2 e1 e2;rw [c8, bQ];refine vr 6 ?_;refine Lo 5 ze rfl hc0 ?_;refine zH 6 ?_;refine zH 6 ?_;refine zH 6 ?_
   refine zH 8 ?_;refine Db (sq [0, 1, 2, 3, 4, 105, 6] .done) ?_;refine Vr 1 rfl (zl yO rfl hcp) ?_;refine Vr 0 rfl (zl xO rfl hc3) ?_;refine Vb 0 rfl (zQ dc rfl rfl hA za za) ?_;refine Vr 0 rfl (zO zT rfl rfl ha1) ?_;refine zf rfl ((z8 qz rfl .k0 (fun m' hm he => i1 m' hm (p + 1) d hp1 hd) rfl ?_ ?_)) rfl
   ·rintro _ _ ⟨h1, rfl⟩;exact pW hl2 ⟨(kV h1 (v := zV x2)).imp id (fun h => by omega), rfl⟩
   rintro _ _ ⟨s, h1, h2, rfl, rfl⟩;have hsl := ui h1 h2;skip;refine vB 1 ?_;refine Vn 2 ?_;refine Db (sq [0, 2, 3, 4, 8, 9, 10, 11, 12] (.fork (sq [101, 5] (.fork (sq [106, 7, 113, 14, 15] .done) (sq [113, 106, 7, 14, 15] .done))) (sq [113, 101, 5, 106, 7, 14, 15] .done))) ?_;refine vB 2 ?_;refine Vr 0 rfl (zl ze rfl hc0) ?_;refine Vb 0 rfl (bd rfl rfl (DG za za)) ?_
   refine Vr 1 rfl (zl yO rfl hcp) ?_;refine Vr 0 rfl (zl xO rfl hc3) ?_;refine Vb 0 rfl (zQ dc rfl rfl hA za za) ?_;refine Vr 0 rfl (zO zT rfl rfl ha2) ?_;refine xl ?_ ?_;refine zf rfl (yi xH rfl rfl rfl rfl (fun b3 => ?_)) rfl;refine Vb 0 rfl (uQ ql rfl rfl (hR.isSome xz) za za) ?_
   refine xl ?_ ?_
   ·refine Ve 0 rfl ((yE (b := b3) (i := 1) (l := [.string (bs [32, 60, 32]), .string (bs [32, 60, 61, 32]), .string (bs [32, 61, 61, 32])]) yI rfl .here rfl)) ?_;refine Vs 0 rfl ?_;refine zf rfl ((z8 qz rfl .k1 (fun m' hm he => i2 m' hm (p + 1 + zV x1) d h2 hd) rfl ?_ ?_)) rfl
    ·rintro _ _ ⟨h3, rfl⟩;exact pW hl2 ⟨wq h3 |>.imp id (fun h => by omega), rfl⟩
    rintro _ _ ⟨t, h3, h4, rfl, rfl⟩;have htl := ui h3 h4;refine Vs 1 rfl ?_;refine Vn 2 ?_;have e2 : s ++ [32, 60, 61, 32] ++ t = xe Wa s t := by simp [xe]
    rw [e2, show p + 1 + zV x1 + zV x2 = p + (1 + zV x1 + zV x2) by omega];exact z6 hl2 [_] zj [_] .p0 ⟨_, vE h1 h3, by omega, rfl, rfl⟩
   ·skip;refine zf rfl ((z8 qz rfl .k1 (fun m' hm he => i2 m' hm (p + 1 + zV x1) d h2 hd) rfl ?_ ?_)) rfl
    ·rintro _ _ ⟨h3, rfl⟩;exact pW hl2 ⟨wq h3 |>.imp id (fun h => by omega), rfl⟩
    rintro _ _ ⟨t, h3, h4, rfl, rfl⟩;have htl := ui h3 h4;skip;refine Ve 0 rfl ((yE (b := b3) (i := 1) (l := [.string (bs [32, 60, 32]), .string (bs [32, 60, 61, 32]), .string (bs [32, 61, 61, 32])]) yI rfl .h1 rfl)) ?_;refine Vs 0 rfl ?_;refine Vs 1 rfl ?_;refine Vn 2 ?_;have e2 : s ++ [32, 60, 61, 32] ++ t = xe Wa s t := by simp [xe]
    rw [e2, show p + 1 + zV x1 + zV x2 = p + (1 + zV x1 + zV x2) by omega];exact z6 hl2 [_] zj [_] .p0 ⟨_, vE h1 h3, by omega, rfl, rfl⟩
   ·refine zf rfl ((z8 qz rfl .k0 (fun m' hm he => i2 m' hm (p + 1 + zV x1) d h2 hd) rfl ?_ ?_)) rfl
    ·rintro _ _ ⟨h3, rfl⟩;exact pW hl2 ⟨wq h3 |>.imp id (fun h => by omega), rfl⟩
    rintro _ _ ⟨t, h3, h4, rfl, rfl⟩;have htl := ui h3 h4;refine zf rfl (yi xH rfl rfl rfl rfl (fun b3 => ?_)) rfl;refine Vb 0 rfl (uQ ql rfl rfl (hR.isSome xz) za za) ?_
    refine Ve 0 rfl ((yE (b := b3) (i := 1) (l := [.string (bs [32, 60, 32]), .string (bs [32, 60, 61, 32]), .string (bs [32, 61, 61, 32])]) yI rfl .here rfl)) ?_;refine Vs 0 rfl ?_;refine Vs 1 rfl ?_;refine Vn 2 ?_;have e2 : s ++ [32, 60, 61, 32] ++ t = xe Wa s t := by simp [xe]
    rw [e2, show p + 1 + zV x1 + zV x2 = p + (1 + zV x1 + zV x2) by omega];exact z6 hl2 [_] zj [_] .p1 ⟨_, vE h1 h3, by omega, rfl, rfl⟩
  ·refine vr 5 ?_;refine Lo 0 ze rfl hc0 ?_;refine zH 2 ?_;refine Lo 0 ze rfl hc1 ?_;refine xf 2 ?_;refine Lo 0 yI rfl hc2 ?_;refine xf 2 ?_;refine Cn ye rfl zq ?_ ?_
   ·rintro _ _ ⟨h1, rfl⟩;exact absurd rfl h1
   rintro _ _ ⟨h1, rfl, rfl⟩;refine vr 12 ?_;refine Lo 6 ze rfl hc0 ?_;refine zH 6 ?_;refine xf 15 ?_;refine Lo 2 xO rfl hc3 ?_;refine y4 2 ?_;refine Lo 2 wT rfl hc4 ?_;refine zH 1 ?_;refine Cn ye rfl zq ?_ ?_
   ·rintro _ _ ⟨h1, rfl⟩;exact pW hl2 ⟨.inl (xk (fun h => by unfold up at h; omega)), rfl⟩
   rintro _ _ ⟨h1, rfl, rfl⟩;cases h1
 ·refine vr 5 ?_;refine Lo 0 ze rfl hc0 ?_;refine zH 2 ?_;refine Lo 0 ze rfl hc1 ?_;refine xf 2 ?_;refine Lo 0 yI rfl hc2 ?_;refine xf 2 ?_;refine Cn ye rfl zq ?_ ?_
  ·rintro _ _ ⟨h1, rfl⟩;exact absurd rfl h1
  rintro _ _ ⟨h1, rfl, rfl⟩;refine vr 12 ?_;refine Lo 6 ze rfl hc0 ?_;refine zH 6 ?_;refine xf 15 ?_;refine Lo 2 xO rfl hc3 ?_;refine zH 7 ?_;refine Cn ye rfl zq ?_ ?_
  ·rintro _ _ ⟨h1, rfl⟩;exact pW hl2 ⟨.inl (xk (fun h => by unfold up at h; omega)), rfl⟩
  rintro _ _ ⟨h1, rfl, rfl⟩;cases h1
end
section
open Wd Tp Kd
variable {m : Mp} {b d p : Nat}
variable {A B : Oa} {ca cb : Nat} {kids : List zI} {name : Bt} {nums : List zY} {op : Int} {us vs : Lv} {who : Int}
theorem JK (hT : qB m) (hU : xU m) (hma : nums.length <= 9223372036854775807) (hmb : kids.length <= 9223372036854775807) (hnm : name.length <= 140737488355328) (hra : Rd m A vs) (hva : vs.length = nums.length * 4) (hka : ∀ (i : Nat) (hi : i < nums.length), xr m ((vs.drop (i * 4)).take 4) nums[i]) (hrb : Rd m B us) (hvb : us.length = kids.length * 5) (hkb : ∀ (i : Nat) (hi : i < kids.length), yP m ((us.drop (i * 5)).take 5) kids[i]) (ih : ∀ (i : Nat) (hi : i < kids.length), xg m b ((us.drop (i * 5)).take 5) kids[i]) (hwho : who = 0) (hname : name = []) (h0 : op = 2) : xg m b (c5 op who name A nums.length ca B kids.length cb) (.mk op who name nums kids) := by
 intro m0 hm0 p d hp hd;skip;refine ym [.tmp 4] Tryz.func136 rfl rfl rfl ?_;refine tr 2 ?_;refine Bx 0 rfl fun b1 => ?_;refine Bx 4 rfl fun b2 => ?_;refine zG .here (fun ns hi _ hd1 => ?_);refine zG .here (fun ns2 hi2 _ hd2 => ?_)
 have hR : Rd (yj (yj m0 ns) ns2) (some ⟨b2, 0, none⟩) (c5 op who name A nums.length ca B kids.length cb) := ((Rd.blk hi).mono (yq hd1)).mono (zU _ _);have hR1 : Rd (yj (yj m0 ns) ns2) (some ⟨b1, 0, none⟩) [zS b] := (Rd.blk hi2).mono (yq hd2);have hl2 : Le m0 (yj (yj m0 ns) ns2) := (zU _ _).trans (zU _ _);clear hi hd1 hi2 hd2;generalize yj (yj m0 ns) ns2 = m9 at hR hR1 hl2
 have hl9 := hm0.trans hl2;have hT := hT.mono hl9;have hU := hU.mono hl9;have hat : At m9 ⟨b2, 0, none⟩ (c5 op who name A nums.length ca B kids.length cb) := fun i u hi => hR.at_ hi;have hcp : mc m9 ⟨b1, 0, none⟩ = some (zS b) := hR1.at_ (i := 0) rfl;have hc0 : mc m9 ⟨b2, 0, none⟩ = some (.int .i8 op) := hR.at_ (i := 0) rfl
 have hc1 : mc m9 ⟨b2, 1, none⟩ = some (.int .i8 who) := hR.at_ (i := 1) rfl;have hc2 : mc m9 ⟨b2, 2, none⟩ = some (.string (bs name)) := hR.at_ (i := 2) rfl;have hc3 : mc m9 ⟨b2, 3, none⟩ = some (.slice A nums.length ca) := hR.at_ (i := 3) rfl;have hc4 : mc m9 ⟨b2, 4, none⟩ = some (.slice B kids.length cb) := hR.at_ (i := 4) rfl;have hw1 := vC (.mk op who name nums kids);refine tr 1 ?_
 refine Lo 0 yO rfl hcp ?_;refine Cp jP rfl .k0 (fun m' hm he => wZ hp) ?_ ?_
 ·rintro _ _ ⟨h1, rfl⟩;exact pW hl2 ⟨.inr za, rfl⟩
 rintro _ _ ⟨hp1, rfl, rfl⟩;subst hwho hname;subst h0;by_cases hna : nums.length = 2
 ·by_cases hnk : kids.length = 0
  ·refine vr 5 ?_;refine Lo 0 ze rfl hc0 ?_;refine zH 2 ?_;refine Lo 0 ze rfl hc1 ?_;refine xf 2 ?_;refine Lo 0 yI rfl hc2 ?_;refine xf 2 ?_;refine Cn ye rfl zq ?_ ?_
   ·rintro _ _ ⟨h1, rfl⟩;exact absurd rfl h1
   rintro _ _ ⟨h1, rfl, rfl⟩;refine vr 12 ?_;refine Lo 6 ze rfl hc0 ?_;refine zH 6 ?_;refine zH 5 ?_;refine xf 12 ?_;refine Lo 2 xO rfl hc3 ?_;refine y4 2 ?_;refine Lo 2 wT rfl hc4 ?_;refine y4 1 ?_;refine Cn ye rfl zq ?_ ?_
   ·rintro _ _ ⟨h1, rfl⟩;exact absurd rfl h1
   rintro _ _ ⟨h1, rfl, rfl⟩;have hk0 := List.eq_nil_of_length_eq_zero hnk;obtain ⟨x1, x2, rfl⟩ := aJ hna;subst hk0;have hA : A.isSome = true := hra.isSome (by rw [hva]; simp);have f1 : xr m ((vs.drop (0 * 4)).take 4) x1 := hka 0 yA;have f2 : xr m ((vs.drop (1 * 4)).take 4) x2 := hka 1 yA;have ha1 := (hra.elem (0 * 4) 4).mono hl9;have ha2 := (hra.elem (1 * 4) 4).mono hl9
   have i1 : vP m9 b _ x1 := jb (b := b) hT (f1.mono hl9);have i2 : vP m9 b _ x2 := jb (b := b) hT (f2.mono hl9);obtain ⟨n1, w1, A1, l1, c1, e1⟩ := xr.formO f1;obtain ⟨n2, w2, A2, l2, c2, e2⟩ := xr.formO f2;rw [e1] at ha1 i1;rw [e2] at ha2 i2;clear f1 f2 e1 e2;rw [c7, bQ];refine vr 6 ?_;refine Lo 5 ze rfl hc0 ?_;refine zH 6 ?_;refine zH 6 ?_;refine zH 6 ?_
   refine zH 8 ?_;refine Db (sq [0, 1, 2, 3, 4, 105, 6] .done) ?_;refine Vr 1 rfl (zl yO rfl hcp) ?_;refine Vr 0 rfl (zl xO rfl hc3) ?_;refine Vb 0 rfl (zQ dc rfl rfl hA za za) ?_;refine Vr 0 rfl (zO zT rfl rfl ha1) ?_;refine zf rfl ((z8 qz rfl .k0 (fun m' hm he => i1 m' hm (p + 1) d hp1 hd) rfl ?_ ?_)) rfl
   ·rintro _ _ ⟨h1, rfl⟩;exact pW hl2 ⟨(kV h1 (v := zV x2)).imp id (fun h => by omega), rfl⟩
   rintro _ _ ⟨s, h1, h2, rfl, rfl⟩;have hsl := ui h1 h2;skip;refine vB 1 ?_;refine Vn 2 ?_;refine Db (sq [0, 2, 3, 4, 8, 9, 10, 11, 12] (.fork (sq [101, 5] (.fork (sq [106, 7, 113, 14, 15] .done) (sq [113, 106, 7, 14, 15] .done))) (sq [113, 101, 5, 106, 7, 14, 15] .done))) ?_;refine vB 2 ?_;refine Vr 0 rfl (zl ze rfl hc0) ?_;refine Vb 0 rfl (bd rfl rfl (DG za za)) ?_
   refine Vr 1 rfl (zl yO rfl hcp) ?_;refine Vr 0 rfl (zl xO rfl hc3) ?_;refine Vb 0 rfl (zQ dc rfl rfl hA za za) ?_;refine Vr 0 rfl (zO zT rfl rfl ha2) ?_;refine xl ?_ ?_;refine zf rfl (yi xH rfl rfl rfl rfl (fun b3 => ?_)) rfl;refine Vb 0 rfl (uQ ql rfl rfl (hR.isSome xz) za za) ?_
   refine xl ?_ ?_
   ·refine Ve 0 rfl ((yE (b := b3) (i := 2) (l := [.string (bs [32, 60, 32]), .string (bs [32, 60, 61, 32]), .string (bs [32, 61, 61, 32])]) yI rfl .here rfl)) ?_;refine Vs 0 rfl ?_;refine zf rfl ((z8 qz rfl .k1 (fun m' hm he => i2 m' hm (p + 1 + zV x1) d h2 hd) rfl ?_ ?_)) rfl
    ·rintro _ _ ⟨h3, rfl⟩;exact pW hl2 ⟨wq h3 |>.imp id (fun h => by omega), rfl⟩
    rintro _ _ ⟨t, h3, h4, rfl, rfl⟩;have htl := ui h3 h4;refine Vs 1 rfl ?_;refine Vn 2 ?_;have e2 : s ++ [32, 61, 61, 32] ++ t = xe Wb s t := by simp [xe]
    rw [e2, show p + 1 + zV x1 + zV x2 = p + (1 + zV x1 + zV x2) by omega];exact z6 hl2 [_] zj [_] .p0 ⟨_, vE h1 h3, by omega, rfl, rfl⟩
   ·skip;refine zf rfl ((z8 qz rfl .k1 (fun m' hm he => i2 m' hm (p + 1 + zV x1) d h2 hd) rfl ?_ ?_)) rfl
    ·rintro _ _ ⟨h3, rfl⟩;exact pW hl2 ⟨wq h3 |>.imp id (fun h => by omega), rfl⟩
    rintro _ _ ⟨t, h3, h4, rfl, rfl⟩;have htl := ui h3 h4;skip;refine Ve 0 rfl ((yE (b := b3) (i := 2) (l := [.string (bs [32, 60, 32]), .string (bs [32, 60, 61, 32]), .string (bs [32, 61, 61, 32])]) yI rfl .h1 rfl)) ?_;refine Vs 0 rfl ?_;refine Vs 1 rfl ?_;refine Vn 2 ?_;have e2 : s ++ [32, 61, 61, 32] ++ t = xe Wb s t := by simp [xe]
    rw [e2, show p + 1 + zV x1 + zV x2 = p + (1 + zV x1 + zV x2) by omega];exact z6 hl2 [_] zj [_] .p0 ⟨_, vE h1 h3, by omega, rfl, rfl⟩
   ·refine zf rfl ((z8 qz rfl .k0 (fun m' hm he => i2 m' hm (p + 1 + zV x1) d h2 hd) rfl ?_ ?_)) rfl
    ·rintro _ _ ⟨h3, rfl⟩;exact pW hl2 ⟨wq h3 |>.imp id (fun h => by omega), rfl⟩
    rintro _ _ ⟨t, h3, h4, rfl, rfl⟩;have htl := ui h3 h4;refine zf rfl (yi xH rfl rfl rfl rfl (fun b3 => ?_)) rfl;refine Vb 0 rfl (uQ ql rfl rfl (hR.isSome xz) za za) ?_
    refine Ve 0 rfl ((yE (b := b3) (i := 2) (l := [.string (bs [32, 60, 32]), .string (bs [32, 60, 61, 32]), .string (bs [32, 61, 61, 32])]) yI rfl .here rfl)) ?_;refine Vs 0 rfl ?_;refine Vs 1 rfl ?_;refine Vn 2 ?_;have e2 : s ++ [32, 61, 61, 32] ++ t = xe Wb s t := by simp [xe]
    rw [e2, show p + 1 + zV x1 + zV x2 = p + (1 + zV x1 + zV x2) by omega];exact z6 hl2 [_] zj [_] .p1 ⟨_, vE h1 h3, by omega, rfl, rfl⟩
  ·refine vr 5 ?_;refine Lo 0 ze rfl hc0 ?_;refine zH 2 ?_;refine Lo 0 ze rfl hc1 ?_;refine xf 2 ?_;refine Lo 0 yI rfl hc2 ?_;refine xf 2 ?_;refine Cn ye rfl zq ?_ ?_
   ·rintro _ _ ⟨h1, rfl⟩;exact absurd rfl h1
   rintro _ _ ⟨h1, rfl, rfl⟩;refine vr 12 ?_;refine Lo 6 ze rfl hc0 ?_;refine zH 6 ?_;refine zH 5 ?_;refine xf 12 ?_;refine Lo 2 xO rfl hc3 ?_;refine y4 2 ?_;refine Lo 2 wT rfl hc4 ?_;refine zH 1 ?_;refine Cn ye rfl zq ?_ ?_
   ·rintro _ _ ⟨h1, rfl⟩;exact pW hl2 ⟨.inl (xk (fun h => by unfold up at h; omega)), rfl⟩
   rintro _ _ ⟨h1, rfl, rfl⟩;cases h1
 ·refine vr 5 ?_;refine Lo 0 ze rfl hc0 ?_;refine zH 2 ?_;refine Lo 0 ze rfl hc1 ?_;refine xf 2 ?_;refine Lo 0 yI rfl hc2 ?_;refine xf 2 ?_;refine Cn ye rfl zq ?_ ?_
  ·rintro _ _ ⟨h1, rfl⟩;exact absurd rfl h1
  rintro _ _ ⟨h1, rfl, rfl⟩;refine vr 12 ?_;refine Lo 6 ze rfl hc0 ?_;refine zH 6 ?_;refine zH 5 ?_;refine xf 12 ?_;refine Lo 2 xO rfl hc3 ?_;refine zH 7 ?_;refine Cn ye rfl zq ?_ ?_
  ·rintro _ _ ⟨h1, rfl⟩;exact pW hl2 ⟨.inl (xk (fun h => by unfold up at h; omega)), rfl⟩
  rintro _ _ ⟨h1, rfl, rfl⟩;cases h1
theorem JN (hT : qB m) (hU : xU m) (hma : nums.length <= 9223372036854775807) (hmb : kids.length <= 9223372036854775807) (hnm : name.length <= 140737488355328) (hra : Rd m A vs) (hva : vs.length = nums.length * 4) (hka : ∀ (i : Nat) (hi : i < nums.length), xr m ((vs.drop (i * 4)).take 4) nums[i]) (hrb : Rd m B us) (hvb : us.length = kids.length * 5) (hkb : ∀ (i : Nat) (hi : i < kids.length), yP m ((us.drop (i * 5)).take 5) kids[i]) (ih : ∀ (i : Nat) (hi : i < kids.length), xg m b ((us.drop (i * 5)).take 5) kids[i]) (hwho : who = 0) (hname : name = []) (hop : ¬ (0 <= op /\ op <= 6)) : xg m b (c5 op who name A nums.length ca B kids.length cb) (.mk op who name nums kids) := by
 intro m0 hm0 p d hp hd;skip;refine ym [.tmp 4] Tryz.func136 rfl rfl rfl ?_;refine tr 2 ?_;refine Bx 0 rfl fun b1 => ?_;refine Bx 4 rfl fun b2 => ?_;refine zG .here (fun ns hi _ hd1 => ?_);refine zG .here (fun ns2 hi2 _ hd2 => ?_)
 have hR : Rd (yj (yj m0 ns) ns2) (some ⟨b2, 0, none⟩) (c5 op who name A nums.length ca B kids.length cb) := ((Rd.blk hi).mono (yq hd1)).mono (zU _ _);have hR1 : Rd (yj (yj m0 ns) ns2) (some ⟨b1, 0, none⟩) [zS b] := (Rd.blk hi2).mono (yq hd2);have hl2 : Le m0 (yj (yj m0 ns) ns2) := (zU _ _).trans (zU _ _);clear hi hd1 hi2 hd2;generalize yj (yj m0 ns) ns2 = m9 at hR hR1 hl2
 have hl9 := hm0.trans hl2;have hT := hT.mono hl9;have hU := hU.mono hl9;have hat : At m9 ⟨b2, 0, none⟩ (c5 op who name A nums.length ca B kids.length cb) := fun i u hi => hR.at_ hi;have hcp : mc m9 ⟨b1, 0, none⟩ = some (zS b) := hR1.at_ (i := 0) rfl;have hc0 : mc m9 ⟨b2, 0, none⟩ = some (.int .i8 op) := hR.at_ (i := 0) rfl
 have hc1 : mc m9 ⟨b2, 1, none⟩ = some (.int .i8 who) := hR.at_ (i := 1) rfl;have hc2 : mc m9 ⟨b2, 2, none⟩ = some (.string (bs name)) := hR.at_ (i := 2) rfl;have hc3 : mc m9 ⟨b2, 3, none⟩ = some (.slice A nums.length ca) := hR.at_ (i := 3) rfl;have hc4 : mc m9 ⟨b2, 4, none⟩ = some (.slice B kids.length cb) := hR.at_ (i := 4) rfl;have hw1 := vC (.mk op who name nums kids);refine tr 1 ?_
 refine Lo 0 yO rfl hcp ?_;refine Cp jP rfl .k0 (fun m' hm he => wZ hp) ?_ ?_
 ·rintro _ _ ⟨h1, rfl⟩;exact pW hl2 ⟨.inr za, rfl⟩
 rintro _ _ ⟨hp1, rfl, rfl⟩;subst hwho hname;by_cases hneg : op < 0
 ·refine vr 5 ?_;refine Lo 0 ze rfl hc0 ?_;refine zH 2 ?_;refine Lo 0 ze rfl hc1 ?_;refine xf 2 ?_;refine Lo 0 yI rfl hc2 ?_;refine xf 2 ?_;refine Cn ye rfl zq ?_ ?_
  ·rintro _ _ ⟨h1, rfl⟩;exact absurd rfl h1
  rintro _ _ ⟨h1, rfl, rfl⟩;refine vr 12 ?_;refine Lo 6 ze rfl hc0 ?_;refine zH 6 ?_;refine zH 5 ?_;refine zH 6 ?_;refine zH 7 ?_;refine zH 5 ?_;refine zH 6 ?_;refine Lo 0 ze rfl hc0 ?_;refine zH 0 ?_;refine Cn ye rfl zq ?_ ?_
  ·rintro _ _ ⟨h1, rfl⟩;exact pW hl2 ⟨.inl (xk (fun h => by unfold up at h; omega)), rfl⟩
  rintro _ _ ⟨h1, rfl, rfl⟩;cases h1
 ·have hpos : 7 <= op := by omega
  refine vr 5 ?_;refine Lo 0 ze rfl hc0 ?_;refine zH 2 ?_;refine Lo 0 ze rfl hc1 ?_;refine xf 2 ?_;refine Lo 0 yI rfl hc2 ?_;refine xf 2 ?_;refine Cn ye rfl zq ?_ ?_
  ·rintro _ _ ⟨h1, rfl⟩;exact absurd rfl h1
  rintro _ _ ⟨h1, rfl, rfl⟩;refine vr 12 ?_;refine Lo 6 ze rfl hc0 ?_;refine zH 6 ?_;refine zH 5 ?_;refine zH 6 ?_;refine zH 7 ?_;refine zH 5 ?_;refine zH 6 ?_;refine Lo 0 ze rfl hc0 ?_;refine zH 0 ?_;refine Cn ye rfl zq ?_ ?_
  ·rintro _ _ ⟨h1, rfl⟩;exact pW hl2 ⟨.inl (xk (fun h => by unfold up at h; omega)), rfl⟩
  rintro _ _ ⟨h1, rfl, rfl⟩;cases h1
end
section
open Wd Tp Kd
variable {m : Mp} {b : Nat}
theorem kU (hT : qB m) (hU : xU m) {cs : Lv} {x : zI} (hx : yP m cs x) : uv x -> xg m b cs x := by
 induction hx with
 | @mk op who name nums kids A B la ca lb cb vs us ho hw hn hla hma hra hva hka hlb hmb hrb hvb hkb ih =>
 subst hla hlb;intro hsm;have hnm : name.length <= 140737488355328 := by cases hsm; assumption
 have hsk : ∀ k ∈ kids, uv k := by cases hsm; assumption
 have ih := fun (i : Nat) (hi : i < kids.length) => ih i hi (hsk _ (List.getElem_mem hi));by_cases h6 : op = 6
 ·exact U8 hT hU hma hmb hnm hra hva hka hrb hvb hkb ih h6
 by_cases hwn : who = 0 /\ name = []
 rotate_left
 ·exact GC hT hU hma hmb hnm hra hva hka hrb hvb hkb ih h6 hwn
 by_cases h3 : op = 3
 ·exact GD hT hU hma hmb hnm hra hva hka hrb hvb hkb ih hwn.1 hwn.2 h3
 by_cases h4 : op = 4
 ·exact GE hT hU hma hmb hnm hra hva hka hrb hvb hkb ih hwn.1 hwn.2 h4
 by_cases h5 : op = 5
 ·exact HQ hT hU hma hmb hnm hra hva hka hrb hvb hkb ih hwn.1 hwn.2 h5
 by_cases h0 : op = 0
 ·exact JM hT hU hma hmb hnm hra hva hka hrb hvb hkb ih hwn.1 hwn.2 h0
 by_cases h1 : op = 1
 ·exact JL hT hU hma hmb hnm hra hva hka hrb hvb hkb ih hwn.1 hwn.2 h1
 by_cases h2 : op = 2
 ·exact JK hT hU hma hmb hnm hra hva hka hrb hvb hkb ih hwn.1 hwn.2 h2
 ·exact JN hT hU hma hmb hnm hra hva hka hrb hvb hkb ih hwn.1 hwn.2 za
end
namespace Tp
open Go Go.Eng Wd Kd
inductive Xp : zW -> Prop
 | mk {op who : Int} {n : zY} {name : Bt} {c : zI} {t e : List zW} (h : name.length <= 140737488355328) (hc : uv c) (hlt : t.length <= 140737488355328) (hle : e.length <= 140737488355328) (ht : ∀ x ∈ t, Xp x) (he : ∀ x ∈ e, Xp x) : Xp (.mk op who n name c t e)
def Vo (l : List zW) : Prop := ∀ x ∈ l, Xp x
def xS (c : zI) (t e : List zW) : Prop := kX c = true /\ t.length + e.length = 0
instance {c : zI} {t e : List zW} : Decidable (xS c t e) := by unfold xS; infer_instance
variable {c : zI} {e t : List zW}
theorem Oz : (kX c = true /\ t.isEmpty = true /\ e.isEmpty = true) ↔ xS c t e := by
 unfold xS;rw [List.isEmpty_iff, List.isEmpty_iff]
 constructor
 ·rintro ⟨h1, rfl, rfl⟩; exact ⟨h1, rfl⟩
 ·rintro ⟨h1, h2⟩; exact ⟨h1, List.eq_nil_of_length_eq_zero za, List.eq_nil_of_length_eq_zero za⟩
def FJ (s u v : Bt) : Bt := HO ++ vy ++ s ++ vy ++ gp ++ u ++ vy ++ jv ++ vy ++ je ++ vy ++ gp ++ v ++ vy ++ jv
def H3 (c : zI) (t e : List zW) (d : Nat) : Option Bt := (yx c d).bind fun s => (vi t d).bind fun u => (vi e d).bind fun v => some (FJ s u v)
theorem QG (who : Int) (n : zY) (name : Bt) (c : zI) (t e : List zW) (d : Nat) : vG (.mk 8 who n name c t e) d = if who = 0 /\ name = [] /\ ux n = true then fX d (H3 c t e) else none := by rw [vG]; rfl
variable {d : Nat} {n : zY} {name : Bt} {op who : Int}
theorem v7 (h8 : op ≠ 8) : vG (.mk op who n name c t e) d =
  if ¬ xS c t e then none
  else if op = 7 then (if who = 0 /\ ux n = true /\ yL name = true then kp jn (some name) else none)
  else if ¬ name = [] then none
  else if op = 0 then fV Zk (gY who) (yC n d)
  else if op = 1 then fV Zj (gY who) (yC n d)
  else if op = 2 then fV Y3 (xA who) (yC n d)
  else if op = 3 then (if who = 0 then kp Y1 (yC n d) else none)
  else if op = 5 then (if who = 0 then kp YY (yC n d) else none)
  else if op = 4 then (if ux n = true then kp Y2 (xA who) else none)
  else if op = 6 then (if ux n = true then kp YX (xA who) else none)
  else none := by
 rw [vG, if_neg h8];simp only [Oz]
theorem xy (h8 : op ≠ 8) (h : ¬ xS c t e) : vG (.mk op who n name c t e) d = none := by rw [v7 h8, if_pos h]
theorem qa (h8 : op ≠ 8) (h7 : op ≠ 7) (h : name ≠ []) : vG (.mk op who n name c t e) d = none := by
 rw [v7 h8, if_neg h7, if_pos h, ite_self]
theorem eS (hop : op = 3 \/ op = 5 \/ op = 7) (h : who ≠ 0) : vG (.mk op who n name c t e) d = none := by
 rw [v7 za]
 split
 ·rfl
 rcases hop with rfl | rfl | rfl
 ·simp [h]
 ·simp [h]
 ·rw [if_pos rfl, if_neg (fun h2 => h h2.1)]
theorem eT (hop : op = 4 \/ op = 6 \/ op = 7) (h : ux n = false) : vG (.mk op who n name c t e) d = none := by
 rw [v7 za]
 split
 ·rfl
 rcases hop with rfl | rfl | rfl
 ·simp [h]
 ·simp [h]
 ·rw [if_pos rfl, if_neg (fun h2 => by rw [h] at h2; exact absurd h2.2.1 zb)]
theorem Yy (hop : ¬ (0 <= op /\ op <= 8)) : vG (.mk op who n name c t e) d = none := by
 have h0 : op ≠ 0 /\ op ≠ 1 /\ op ≠ 2 /\ op ≠ 3 /\ op ≠ 4 /\ op ≠ 5 /\ op ≠ 6 /\ op ≠ 7 /\ op ≠ 8 := by omega
 obtain ⟨h0, h1, h2, h3, h4, h5, h6, h7, h8⟩ := h0;rw [v7 h8]
 simp [h0, h1, h2, h3, h4, h5, h6, h7]
section
variable {who : Int} {n : zY} {c : zI} {t e : List zW} {d : Nat} (hb : xS c t e)
include hb
theorem bM : vG (.mk 0 who n [] c t e) d = fV Zk (gY who) (yC n d) := by rw [v7 zb, if_neg (fun h => h hb)]; rfl
theorem bL : vG (.mk 1 who n [] c t e) d = fV Zj (gY who) (yC n d) := by rw [v7 zb, if_neg (fun h => h hb)]; rfl
theorem YA : vG (.mk 2 who n [] c t e) d = fV Y3 (xA who) (yC n d) := by rw [v7 zb, if_neg (fun h => h hb)]; rfl
theorem Yx : vG (.mk 3 0 n [] c t e) d = kp Y1 (yC n d) := by rw [v7 zb, if_neg (fun h => h hb)]; rfl
theorem Yw : vG (.mk 5 0 n [] c t e) d = kp YY (yC n d) := by rw [v7 zb, if_neg (fun h => h hb)]; rfl
theorem Yz (hz : ux n = true) : vG (.mk 4 who n [] c t e) d = kp Y2 (xA who) := by
 rw [v7 zb, if_neg (fun h => h hb), if_neg zb, if_neg yA, if_neg zb, if_neg zb, if_neg zb, if_neg zb, if_neg zb, if_pos rfl, if_pos hz]
theorem Yv (hz : ux n = true) : vG (.mk 6 who n [] c t e) d = kp YX (xA who) := by
 rw [v7 zb, if_neg (fun h => h hb), if_neg zb, if_neg yA, if_neg zb, if_neg zb, if_neg zb, if_neg zb, if_neg zb, if_neg zb, if_pos rfl, if_pos hz]
theorem aS {name : Bt} (hz : ux n = true) (hn : yL name = true) : vG (.mk 7 0 n name c t e) d = some (jn ++ vy ++ name ++ yg) := by
 rw [v7 zb, if_neg (fun h => h hb), if_pos rfl, if_pos ⟨rfl, hz, hn⟩]; rfl
end
variable {c : zI} {d : Nat} {e : List zW} {n : zY} {name : Bt} {t : List zW} {who : Int}
theorem Xf (h : yL name = false) : vG (.mk 7 who n name c t e) d = none := by
 rw [v7 zb]
 simp [h]
variable {op : Int}
theorem WW (hop : op = 0 \/ op = 1) (h : gY who = none) : vG (.mk op who n name c t e) d = none := by
 rw [v7 za];rcases hop with rfl | rfl <;> simp [fV, uf, h]
theorem aT (hop : op = 2 \/ op = 4 \/ op = 6) (h : xA who = none) : vG (.mk op who n name c t e) d = none := by
 rw [v7 za];rcases hop with rfl | rfl | rfl <;> simp [fV, kp, uf, h]
theorem jz (hop : op = 0 \/ op = 1 \/ op = 2 \/ op = 3 \/ op = 5) (h : yC n d = none) : vG (.mk op who n name c t e) d = none := by
 have hx : ∀ a : Option Bt, a.bind (fun _ => (none : Option Bt)) = none := fun a => by cases a <;> rfl
 rw [v7 za];rcases hop with rfl | rfl | rfl | rfl | rfl <;> simp [fV, kp, uf, h]
theorem fz (h : op = 0 \/ op = 1 \/ op = 2 \/ op = 3 \/ op = 5) : vA (.mk op who n name c t e) = 1 + zV n := by
 have : yU op = true := by simpa [yU, or_assoc] using h
 rw [gL, this, if_pos rfl, if_neg (show ¬ op = 8 by omega), Nat.add_zero]
theorem eR (h : ¬ (op = 0 \/ op = 1 \/ op = 2 \/ op = 3 \/ op = 5)) (h8 : op ≠ 8) : vA (.mk op who n name c t e) = 1 := by
 have : yU op = false := by
  cases hc : yU op with
  | false => rfl
  | true => exact absurd (by simpa [yU, or_assoc] using hc) h
 rw [gL, this, if_neg zb, if_neg h8]
theorem QF : vA (.mk 8 who n name c t e) = 1 + (zX c + yM t + yM e) := by
 have : yU 8 = false := by decide
 rw [gL, this, if_neg zb, if_pos rfl]
 rfl
theorem WV (x : zW) (l : List zW) : yM (x :: l) = vA x + yM l := by simp [yM]
theorem ci (d : Nat) : vi [] d = some [] := by rw [vi]
theorem kH (x : zW) (l : List zW) (d : Nat) : vi (x :: l) d = (vG x d).bind fun s => (vi l d).bind fun u => some (vy ++ s ++ u) := by rw [vi]
inductive LW : zW -> Nat -> Bt -> Prop
 | line {op who : Int} {n : zY} {c : zI} {t e : List zW} {d : Nat} {w u v : Bt} (hop : (op = 0 /\ w = Zk /\ gY who = some u) \/ (op = 1 /\ w = Zj /\ gY who = some u) \/ (op = 2 /\ w = Y3 /\ xA who = some u)) (hb : xS c t e) (hn : yC n d = some v) :
   LW (.mk op who n [] c t e) d (w ++ vy ++ u ++ vy ++ v ++ yg)
 | num {op : Int} {n : zY} {c : zI} {t e : List zW} {d : Nat} {w v : Bt} (hop : (op = 3 /\ w = Y1) \/ (op = 5 /\ w = YY)) (hb : xS c t e) (hn : yC n d = some v) : LW (.mk op 0 n [] c t e) d (w ++ vy ++ v ++ yg)
 | side {op who : Int} {n : zY} {c : zI} {t e : List zW} {d : Nat} {w u : Bt} (hop : (op = 4 /\ w = Y2) \/ (op = 6 /\ w = YX)) (hb : xS c t e) (hz : ux n = true) (hs : xA who = some u) : LW (.mk op who n [] c t e) d (w ++ vy ++ u ++ yg)
 | summon {n : zY} {name : Bt} {c : zI} {t e : List zW} {d : Nat} (hb : xS c t e) (hz : ux n = true) (hn : yL name = true) : LW (.mk 7 0 n name c t e) d (jn ++ vy ++ name ++ yg)
 | iff {n : zY} {c : zI} {t e : List zW} {d : Nat} {s u v : Bt} (hz : ux n = true) (hd : d + 1 <= 8) (hc : yx c (d + 1) = some s) (ht : vi t (d + 1) = some u) (he : vi e (d + 1) = some v) : LW (.mk 8 0 n [] c t e) d (FJ s u v)
variable {a : Option Bt} {s w : Bt}
theorem dS {b : Option Bt} (h : fV w a b = some s) : ∃ u v, a = some u /\ b = some v /\ s = w ++ vy ++ u ++ vy ++ v ++ yg := y2 h
theorem cS (h : kp w a = some s) : ∃ u, a = some u /\ s = w ++ vy ++ u ++ yg := by
 cases a with
 | none => cases h
 | some u => exact ⟨u, rfl, (Option.some.inj h).symm⟩
variable {x : zW}
theorem bJ (h : vG x d = some s) : LW x d s := by
 obtain ⟨op, who, n, name, c, t, e⟩ := x;by_cases h8 : op = 8
 ·subst h8;rw [QG] at h
  split at h
  ·rename_i h0
   obtain ⟨rfl, rfl, hz⟩ := h0;obtain ⟨hd, h⟩ := wD h;unfold H3 at h;cases hc : yx c (d + 1) with
   | none => rw [hc] at h; cases h
   | some s1 =>
     rw [hc] at h;cases ht : vi t (d + 1) with
     | none => rw [ht] at h; cases h
     | some u =>
       rw [ht] at h;cases he : vi e (d + 1) with
       | none => rw [he] at h; cases h
       | some v =>
         rw [he] at h;cases h;exact .iff hz hd hc ht he
  ·cases h
 by_cases hb : xS c t e
 rotate_left
 ·rw [xy h8 hb] at h; cases h
 by_cases h7 : op = 7
 ·subst h7;by_cases hw : who = 0
  rotate_left
  ·rw [eS (.inr (.inr rfl)) hw] at h; cases h
  subst hw;cases hz : ux n with
  | false => rw [eT (.inr (.inr rfl)) hz] at h; cases h
  | true =>
    cases hn : yL name with
    | false => rw [Xf hn] at h; cases h
    | true =>
      rw [aS hb hz hn] at h;cases h;exact .summon hb hz hn
 by_cases hname : name = []
 rotate_left
 ·rw [qa h8 h7 hname] at h; cases h
 subst hname;by_cases h0 : op = 0
 ·subst h0;rw [bM hb] at h;obtain ⟨u, v, h1, h2, rfl⟩ := dS h;exact .line (.inl ⟨rfl, rfl, h1⟩) hb h2
 by_cases h1 : op = 1
 ·subst h1;rw [bL hb] at h;obtain ⟨u, v, h1, h2, rfl⟩ := dS h;exact .line (.inr (.inl ⟨rfl, rfl, h1⟩)) hb h2
 by_cases h2 : op = 2
 ·subst h2;rw [YA hb] at h;obtain ⟨u, v, h1, h2, rfl⟩ := dS h;exact .line (.inr (.inr ⟨rfl, rfl, h1⟩)) hb h2
 by_cases h3 : op = 3
 ·subst h3;by_cases hw : who = 0
  rotate_left
  ·rw [eS (.inl rfl) hw] at h; cases h
  subst hw;rw [Yx hb] at h;obtain ⟨u, h1, rfl⟩ := cS h;exact .num (.inl ⟨rfl, rfl⟩) hb h1
 by_cases h5 : op = 5
 ·subst h5;by_cases hw : who = 0
  rotate_left
  ·rw [eS (.inr (.inl rfl)) hw] at h; cases h
  subst hw;rw [Yw hb] at h;obtain ⟨u, h1, rfl⟩ := cS h;exact .num (.inr ⟨rfl, rfl⟩) hb h1
 by_cases h4 : op = 4
 ·subst h4;cases hz : ux n with
  | false => rw [eT (.inl rfl) hz] at h; cases h
  | true =>
    rw [Yz hb hz] at h;obtain ⟨u, h1, rfl⟩ := cS h;exact .side (.inl ⟨rfl, rfl⟩) hb hz h1
 by_cases h6 : op = 6
 ·subst h6;cases hz : ux n with
  | false => rw [eT (.inr (.inl rfl)) hz] at h; cases h
  | true =>
    rw [Yv hb hz] at h;obtain ⟨u, h1, rfl⟩ := cS h;exact .side (.inr ⟨rfl, rfl⟩) hb hz h1
 ·rw [Yy za] at h; cases h
theorem VU {w : Int} (h : gY w = some s) : s.length <= 6 := by
 unfold gY at h
 split at h
 ·cases h; decide
 ·have := wd h; omega
theorem bind_some {α β : Type} {a : Option α} {f : α -> Option β} {y : β} (h : a.bind f = some y) : ∃ x, a = some x /\ f x = some y := by
 cases a with
 | none => cases h
 | some x => exact ⟨x, rfl, h⟩
theorem LD {l : List zW} (h : vi (x :: l) d = some s) : ∃ u v, vG x d = some u /\ vi l d = some v /\ s = vy ++ u ++ v := by
 rw [kH] at h;obtain ⟨u, h1, h⟩ := bind_some h;obtain ⟨v, h2, h⟩ := bind_some h;exact ⟨u, v, h1, h2, (Option.some.inj h).symm⟩
mutual
theorem Uq : ∀ {x : zW} {d : Nat} {s : Bt}, vG x d = some s -> s.length + 1 <= 100 * vA x
 | .mk op who n name c t e, d, s, h => by
   have h := bJ h;cases h with
   | line hop hb hn =>
     rw [fz za];have h1 := qM hn
     rename_i w u v
     have h2 : w.length <= 5 /\ u.length <= 6 := by
      rcases hop with ⟨-, rfl, hu⟩ | ⟨-, rfl, hu⟩ | ⟨-, rfl, hu⟩
      ·exact ⟨by decide, VU hu⟩
      ·exact ⟨by decide, VU hu⟩
      ·exact ⟨by decide, by have := wd hu; omega⟩
     simp only [List.length_append, List.length_cons, List.length_nil];omega
   | num hop hb hn =>
     rw [fz za];have h1 := qM hn
     rename_i w v
     have h2 : w.length <= 5 := by
      rcases hop with ⟨-, rfl⟩ | ⟨-, rfl⟩ <;> decide
     simp only [List.length_append, List.length_cons, List.length_nil];omega
   | side hop hb hz hs =>
     rw [eR za za];have h1 := wd hs
     rename_i w u
     have h2 : w.length <= 5 := by
      rcases hop with ⟨-, rfl⟩ | ⟨-, rfl⟩ <;> decide
     simp only [List.length_append, List.length_cons, List.length_nil];omega
   | summon hb hz hn =>
     rw [eR za za];have h1 := xG hn;simp only [List.length_append, List.length_cons, List.length_nil];omega
   | iff hz hd hc ht he =>
     rw [QF];have h1 := cZ hc;have h2 := wy ht;have h3 := wy he;simp only [FJ, List.length_append, List.length_cons, List.length_nil];omega
termination_by x => SizeOf.sizeOf x
theorem wy : ∀ {l : List zW} {d : Nat} {s : Bt}, vi l d = some s -> s.length <= 100 * yM l
 | [], d, s, h => by
   rw [ci] at h;cases h;exact Nat.zero_le _
 | x :: l, d, s, h => by
   obtain ⟨u, v, h1, h2, rfl⟩ := LD h;have h3 := Uq h1;have h4 := wy h2;rw [WV];simp only [List.length_append, List.length_cons, List.length_nil];omega
termination_by l => SizeOf.sizeOf l
end
end Tp
section
open Wd Tp Kd
variable {m : Mp} {b d p : Nat}
variable {A B K : Oa} {ca cb k kc la lb : Nat} {n op who : Int}
theorem JO {cop cwho : Int} {cname : Bt} (hk : k <= 9223372036854775807) (hla : la <= 9223372036854775807) (hlb : lb <= 9223372036854775807) :
  CS Tryz.prog 133 [.agg (n4 op n who K k kc).toArray, .agg (c5 cop cwho cname A la ca B lb cb).toArray] m [] (vQ (.bool (decide (op = 0 /\ n = 0 /\ who = 0 /\ k = 0 /\ cop = 0 /\ cwho = 0 /\ cname = [] /\ la = 0 /\ lb = 0)))) := by
 refine yQ [.tmp 4] Tryz.func133 rfl rfl rfl ?_;by_cases h0 : op = 0
 rotate_left
 ·rw [decide_eq_false (fun h => h0 h.1)];refine tr 2 ?_;refine Bx 0 rfl fun b1 => ?_;refine Bx 6 rfl fun b2 => ?_;refine Lb 0 ze .h1 ?_;refine zF 47 ?_;exact xE zj ⟨rfl, rfl⟩
 by_cases h1 : n = 0
 rotate_left
 ·rw [decide_eq_false (fun h => h1 h.2.1)];refine tr 2 ?_;refine Bx 0 rfl fun b1 => ?_;refine Bx 6 rfl fun b2 => ?_;refine Lb 0 ze .h1 ?_;refine yr 2 ?_;refine Lb 0 yl .h1 ?_;refine zF 43 ?_;exact xE zj ⟨rfl, rfl⟩
 by_cases h2 : who = 0
 rotate_left
 ·rw [decide_eq_false (fun h => h2 h.2.2.1)];refine tr 2 ?_;refine Bx 0 rfl fun b1 => ?_;refine Bx 6 rfl fun b2 => ?_;refine Lb 0 ze .h1 ?_;refine yr 2 ?_;refine Lb 0 yl .h1 ?_;refine yr 3 ?_;refine Lb 0 ze .h1 ?_;refine zF 38 ?_;exact xE zj ⟨rfl, rfl⟩
 by_cases h3 : k = 0
 rotate_left
 ·rw [decide_eq_false (fun h => h3 h.2.2.2.1)];refine tr 2 ?_;refine Bx 0 rfl fun b1 => ?_;refine Bx 6 rfl fun b2 => ?_;refine Lb 0 ze .h1 ?_;refine yr 2 ?_;refine Lb 0 yl .h1 ?_;refine yr 3 ?_;refine Lb 0 ze .h1 ?_;refine yr 3 ?_;refine Lb 1 xO .h1 ?_;refine zH 32 ?_;exact xE zj ⟨rfl, rfl⟩
 by_cases h4 : cop = 0
 rotate_left
 ·rw [decide_eq_false (fun h => h4 h.2.2.2.2.1)];refine tr 2 ?_;refine Bx 0 rfl fun b1 => ?_;refine Bx 6 rfl fun b2 => ?_;refine Lb 0 ze .h1 ?_;refine yr 2 ?_;refine Lb 0 yl .h1 ?_;refine yr 3 ?_;refine Lb 0 ze .h1 ?_;refine yr 3 ?_;refine Lb 1 xO .h1 ?_;refine y4 3 ?_;refine Lb 0 ze .here ?_;refine zF 27 ?_;exact xE zj ⟨rfl, rfl⟩
 by_cases h5 : cwho = 0
 rotate_left
 ·rw [decide_eq_false (fun h => h5 h.2.2.2.2.2.1)];refine tr 2 ?_;refine Bx 0 rfl fun b1 => ?_;refine Bx 6 rfl fun b2 => ?_;refine Lb 0 ze .h1 ?_;refine yr 2 ?_;refine Lb 0 yl .h1 ?_;refine yr 3 ?_;refine Lb 0 ze .h1 ?_;refine yr 3 ?_;refine Lb 1 xO .h1 ?_;refine y4 3 ?_;refine Lb 0 ze .here ?_;refine yr 3 ?_;refine Lb 0 ze .here ?_;refine zF 22 ?_
  exact xE zj ⟨rfl, rfl⟩
 by_cases h6 : cname = []
 rotate_left
 ·rw [decide_eq_false (fun h => h6 h.2.2.2.2.2.2.1)];refine tr 2 ?_;refine Bx 0 rfl fun b1 => ?_;refine Bx 6 rfl fun b2 => ?_;refine Lb 0 ze .h1 ?_;refine yr 2 ?_;refine Lb 0 yl .h1 ?_;refine yr 3 ?_;refine Lb 0 ze .h1 ?_;refine yr 3 ?_;refine Lb 1 xO .h1 ?_;refine y4 3 ?_;refine Lb 0 ze .here ?_;refine yr 3 ?_;refine Lb 0 ze .here ?_;refine yr 3 ?_;refine Lb 0 yI .here ?_
  refine zF 17 ?_;exact xE zj ⟨rfl, rfl⟩
 by_cases h7 : la = 0
 rotate_left
 ·rw [decide_eq_false (fun h => h7 h.2.2.2.2.2.2.2.1)];refine tr 2 ?_;refine Bx 0 rfl fun b1 => ?_;refine Bx 6 rfl fun b2 => ?_;refine Lb 0 ze .h1 ?_;refine yr 2 ?_;refine Lb 0 yl .h1 ?_;refine yr 3 ?_;refine Lb 0 ze .h1 ?_;refine yr 3 ?_;refine Lb 1 xO .h1 ?_;refine y4 3 ?_;refine Lb 0 ze .here ?_;refine yr 3 ?_;refine Lb 0 ze .here ?_;refine yr 3 ?_;refine Lb 0 yI .here ?_
  refine yr 3 ?_;refine Lb 1 xO .here ?_;refine zH 11 ?_;exact xE zj ⟨rfl, rfl⟩
 by_cases h8 : lb = 0
 rotate_left
 ·rw [decide_eq_false (fun h => h8 h.2.2.2.2.2.2.2.2)];refine tr 2 ?_;refine Bx 0 rfl fun b1 => ?_;refine Bx 6 rfl fun b2 => ?_;refine Lb 0 ze .h1 ?_;refine yr 2 ?_;refine Lb 0 yl .h1 ?_;refine yr 3 ?_;refine Lb 0 ze .h1 ?_;refine yr 3 ?_;refine Lb 1 xO .h1 ?_;refine y4 3 ?_;refine Lb 0 ze .here ?_;refine yr 3 ?_;refine Lb 0 ze .here ?_;refine yr 3 ?_;refine Lb 0 yI .here ?_
  refine yr 3 ?_;refine Lb 1 xO .here ?_;refine y4 3 ?_;refine Lb 1 wT .here ?_;refine zH 5 ?_;exact xE zj ⟨rfl, rfl⟩
 rw [decide_eq_true ⟨h0, h1, h2, h3, h4, h5, h6, h7, h8⟩];refine tr 2 ?_;refine Bx 0 rfl fun b1 => ?_;refine Bx 6 rfl fun b2 => ?_;refine Lb 0 ze .h1 ?_;refine yr 2 ?_;refine Lb 0 yl .h1 ?_;refine yr 3 ?_;refine Lb 0 ze .h1 ?_;refine yr 3 ?_;refine Lb 1 xO .h1 ?_;refine y4 3 ?_;refine Lb 0 ze .here ?_;refine yr 3 ?_;refine Lb 0 ze .here ?_;refine yr 3 ?_;refine Lb 0 yI .here ?_
 refine yr 3 ?_;refine Lb 1 xO .here ?_;refine y4 3 ?_;refine Lb 1 wT .here ?_;refine y4 5 ?_;exact xE zj ⟨rfl, rfl⟩
variable {x : zY}
theorem xr.cells (h : xr m (n4 op n who K k kc) x) : ∃ kids, x = .mk op n who kids /\ kids.length = k /\ k <= 9223372036854775807 := by
 cases h with
 | mk ho hl hm hr hv hk => exact ⟨_, rfl, hl, hm⟩
variable {name : Bt}
theorem yP.cells {x : zI} (h : yP m (c5 op who name A la ca B lb cb) x) : ∃ ns ks, x = .mk op who name ns ks /\ ns.length = la /\ ks.length = lb /\ la <= 9223372036854775807 /\ lb <= 9223372036854775807 := by
 generalize hv : c5 op who name A la ca B lb cb = vs at h;cases h with
 | mk ho hw hn hla hma hra hva hka hlb hmb hrb hvb hkb =>
   injection hv with h1 hv
   injection hv with h2 hv
   injection hv with h3 hv
   injection hv with h4 hv
   injection hv with h5 hv
   injection h1 with _ h1
   injection h2 with _ h2
   injection h3 with h3
   injection h4 with h4 h4' h4''
   injection h5 with h5 h5' h5''
   have hn := congrArg (fun x : ByteArray => x.data.toList) h3;dsimp only [bs] at hn;subst h1 h2 hn h4' h5';exact ⟨_, _, rfl, hla, hlb, hma, hmb⟩
theorem aO {α : Type} (l : List α) : l.isEmpty = decide (l.length = 0) := by cases l <;> rfl
variable {m2 : Mp}
theorem u9 {op who : Int} {x : zI} (h : yP m (c5 op who name A la ca B lb cb) x) :
  CS Tryz.prog 133 [.agg [.int .i8 0, .int .i64 0, .int .i8 0, .slice none 0 0].toArray, .agg (c5 op who name A la ca B lb cb).toArray] m2 [] (vQ (.bool (kX x))) := by
 obtain ⟨ns, ks, rfl, hns, hks, h1, h2⟩ := yP.cells h
 have e : kX (.mk op who name ns ks) = decide ((0 : Int) = 0 /\ (0 : Int) = 0 /\ (0 : Int) = 0 /\ (0 : Nat) = 0 /\ op = 0 /\ who = 0 /\ name = [] /\ la = 0 /\ lb = 0) := by
  show (decide (op = 0) && decide (who = 0) && name.isEmpty && ns.isEmpty && ks.isEmpty) = _;rw [aO ns, aO ks, hns, hks];have e1 : name.isEmpty = decide (name = []) := by cases name <;> rfl
  rw [e1]
  simp [Bool.and_assoc]
 rw [e];exact JO (op := 0) (n := 0) (who := 0) (K := none) (k := 0) (kc := 0) zb h1 h2
theorem bz (h : xr m (n4 op n who K k kc) x) :
  CS Tryz.prog 133 [.agg (n4 op n who K k kc).toArray, .agg (c5 0 0 [] none 0 0 none 0 0).toArray] m2 [] (vQ (.bool (ux x))) := by
 obtain ⟨ks, rfl, hks, h1⟩ := xr.cells h
 have e : ux (.mk op n who ks) = decide (op = 0 /\ n = 0 /\ who = 0 /\ k = 0 /\ (0 : Int) = 0 /\ (0 : Int) = 0 /\ ([] : Bt) = [] /\ (0 : Nat) = 0 /\ (0 : Nat) = 0) := by
  show (decide (op = 0) && decide (n = 0) && decide (who = 0) && ks.isEmpty) = _;rw [aO ks, hks]
  simp [Bool.and_assoc]
 rw [e];exact JO h1 zb zb
def fJ (m : Mp) (b : Nat) (cs : Lv) (x : zW) : Prop := ∀ m', Le m m' -> ∀ (p d : Nat), p <= 200 -> d <= 8 -> Ih 103 [zS b, .agg cs.toArray] m' b p d (vG x d) (vA x)
def vx (m : Mp) (b : Nat) (A : Oa) (len cap : Nat) (l : List zW) : Prop := ∀ m', Le m m' -> ∀ (p d : Nat), p <= 200 -> d <= 8 -> Ih 62 [zS b, .slice A len cap] m' b p d (vi l d) (yM l)
variable {m' : Mp}
theorem fJ.mono {cs : Lv} {x : zW} (h : fJ m b cs x) (hl : Le m m') : fJ m' b cs x := fun m2 h2 => h m2 (hl.trans h2)
theorem vx.mono {len cap : Nat} {l : List zW} (h : vx m b A len cap l) (hl : Le m m') : vx m' b A len cap l := fun m2 h2 => h m2 (hl.trans h2)
end
section
open Wd Tp Kd
variable {m : Mp} {b d p : Nat}
theorem Gx (hT : qB m) (hU : xU m) {op who nop nn nwho : Int} {nA : Oa} {nl nc : Nat} {name : Bt} {cop cwho : Int} {cname : Bt} {cA : Oa} {cla cca : Nat} {cB : Oa} {clb ccb : Nat} {TA : Oa} {la ca : Nat} {EB : Oa} {lb cb : Nat} {n : zY} {cond : zI} {thn els : List zW}
  (hn : xr m (n4 nop nn nwho nA nl nc) n) (hc : yP m (c5 cop cwho cname cA cla cca cB clb ccb) cond) (hcs : uv cond) (hnm : name.length <= 140737488355328) (hla : thn.length = la) (hlb : els.length = lb) (hla2 : la <= 140737488355328) (hlb2 : lb <= 140737488355328)
  (hbt : vx m b TA la ca thn) (hbe : vx m b EB lb cb els) (hop : op = 0) : fJ m b (Vq op who nop nn nwho nA nl nc name cop cwho cname cA cla cca cB clb ccb TA la ca EB lb cb) (.mk op who n name cond thn els) := by
 subst hop;intro m0 hm0 p d hp hd;skip;refine ym [.tmp 4] Tryz.func103 rfl rfl rfl ?_;refine tr 2 ?_;refine Bx 0 rfl fun b1 => ?_;refine Bx 4 rfl fun b2 => ?_;refine zG .here (fun ns hi _ hd1 => ?_);refine zG .here (fun ns2 hi2 _ hd2 => ?_)
 have hR : Rd (yj (yj m0 ns) ns2) (some ⟨b2, 0, none⟩) (Vq 0 who nop nn nwho nA nl nc name cop cwho cname cA cla cca cB clb ccb TA la ca EB lb cb) := ((Rd.blk hi).mono (yq hd1)).mono (zU _ _);have haN : At (yj (yj m0 ns) ns2) ⟨b2, 2, none⟩ (n4 nop nn nwho nA nl nc) := ((At.blkO (o := 2) (k := 4) hi).mono (yq hd1)).mono (zU _ _)
 have haC : At (yj (yj m0 ns) ns2) ⟨b2, 7, none⟩ (c5 cop cwho cname cA cla cca cB clb ccb) := ((At.blkO (o := 7) (k := 5) hi).mono (yq hd1)).mono (zU _ _);have hR1 : Rd (yj (yj m0 ns) ns2) (some ⟨b1, 0, none⟩) [zS b] := (Rd.blk hi2).mono (yq hd2);have hl2 : Le m0 (yj (yj m0 ns) ns2) := (zU _ _).trans (zU _ _);clear hi hd1 hi2 hd2
 generalize yj (yj m0 ns) ns2 = m9 at hR hR1 hl2 haN haC;have hl9 := hm0.trans hl2;have hT := hT.mono hl9;have hU := hU.mono hl9;have hn := hn.mono hl9;have hc := hc.mono hl9;have hbt := hbt.mono hl9;have hbe := hbe.mono hl9;have iN : vP m9 b _ n := jb (b := b) hT hn;have iC : xg m9 b _ cond := kU (b := b) hT hU hc hcs
 have hcp : mc m9 ⟨b1, 0, none⟩ = some (zS b) := hR1.at_ (i := 0) rfl;have hc0 : mc m9 ⟨b2, 0, none⟩ = some (.int .i8 0) := hR.at_ (i := 0) rfl;have hc1 : mc m9 ⟨b2, 1, none⟩ = some (.int .i8 who) := hR.at_ (i := 1) rfl;have hc6 : mc m9 ⟨b2, 6, none⟩ = some (.string (bs name)) := hR.at_ (i := 6) rfl;have hc12 : mc m9 ⟨b2, 12, none⟩ = some (.slice TA la ca) := hR.at_ (i := 12) rfl
 have hc13 : mc m9 ⟨b2, 13, none⟩ = some (.slice EB lb cb) := hR.at_ (i := 13) rfl;have hw1 := uY (.mk 0 who n name cond thn els);refine tr 1 ?_;refine Lo 0 yO rfl hcp ?_;refine Cp jP rfl .k0 (fun m' hm he => wZ hp) ?_ ?_
 ·rintro _ _ ⟨h1, rfl⟩;exact pW hl2 ⟨.inr za, rfl⟩
 rintro _ _ ⟨hp1, rfl, rfl⟩;rw [fz zb];by_cases hw2 : who = 2
 ·have hwho : gY who = some xX := by unfold gY; rw [if_pos hw2]
  refine vr 5 ?_;refine Lo 0 ze rfl hc0 ?_;refine pe 0 (zA qn dO rfl rfl) ?_;refine Al 0 qn fun b3 => ?_;refine Sg 11 wF .here ?_;refine Lo 6 ze rfl hc0 ?_;refine xf 16 ?_;refine Lo 0 ze rfl hc0 ?_;refine xf 11 ?_;refine Lo 0 ze rfl hc1 ?_;refine yr 5 ?_;refine Ps 6 ?_;refine Lo 1 yO rfl hcp ?_;refine La 0 zT haN ?_
  refine Cp qz rfl .k1 (fun m' hm he => iN m' hm (p + 1) d hp1 hd) ?_ ?_
  ·rintro _ _ ⟨h3, rfl⟩;exact pW hl2 ⟨h3.imp (jz zb) (fun h => by omega), rfl⟩
  rintro _ _ ⟨v, h3, h4, rfl, rfl⟩;have hvl := ui h3 h4;by_cases hname : name = []
  rotate_left
  ·refine Ps 3 ?_;refine Db (sq [0, 1, 2, 3, 4, 105, 6, 107] .done) ?_;refine vB 1 ?_;refine Vr 1 rfl (zl ze rfl hc1) ?_;refine Vr 1 rfl (zO zT rfl rfl haN) ?_;refine zf rfl (xn qy rfl rfl rfl .h1 .h1 ?_) rfl;refine vB 1 ?_;refine zf rfl (yu zT rfl rfl rfl .h1 (.there (.there (.cons (.cons (.cons (.cons .nil)))))) rfl ?_) rfl;refine Vn 5 ?_
   refine Lo 1 ze rfl hc1 ?_;refine Lb 0 ze .h1 ?_;refine xf 2 ?_;refine Lo 1 yI rfl hc6 ?_;refine Lb 0 yI .h1 ?_;refine zF 17 ?_;refine Cn ye rfl zq ?_ ?_
   ·rintro _ _ ⟨h1, rfl⟩;exact pW hl2 ⟨.inl (qa zb zb hname), rfl⟩
   rintro _ _ ⟨h1, rfl, rfl⟩;cases h1
  subst hname;by_cases hle : la + lb = 0
  rotate_left
  ·have hnb : ¬ xS cond thn els := fun h => hle (by have := h.2; omega);refine Ps 3 ?_;refine Db (sq [0, 1, 2, 3, 4, 105, 6, 107] .done) ?_;refine vB 1 ?_;refine Vr 1 rfl (zl ze rfl hc1) ?_;refine Vr 1 rfl (zO zT rfl rfl haN) ?_;refine zf rfl (xn qy rfl rfl rfl .h1 .h1 ?_) rfl;refine vB 1 ?_
   refine zf rfl (yu zT rfl rfl rfl .h1 (.there (.there (.cons (.cons (.cons (.cons .nil)))))) rfl ?_) rfl;refine Vn 5 ?_;refine Lo 1 ze rfl hc1 ?_;refine Lb 0 ze .h1 ?_;refine xf 2 ?_;refine Lo 1 yI rfl hc6 ?_;refine Lb 0 yI .h1 ?_;refine xf 3 ?_;refine Lo 2 y8 rfl hc12 ?_;refine Lo 1 y8 rfl hc13 ?_;refine pe 0 (xK rfl rfl za) ?_;refine zH 7 ?_
   refine Cn ye rfl zq ?_ ?_
   ·rintro _ _ ⟨h1, rfl⟩;exact pW hl2 ⟨.inl (xy zb hnb), rfl⟩
   rintro _ _ ⟨h1, rfl, rfl⟩;cases h1
  refine Ps 3 ?_;refine Db (sq [0, 1, 2, 3, 4, 105, 6, 107] .done) ?_;refine vB 1 ?_;refine Vr 1 rfl (zl ze rfl hc1) ?_;refine Vr 1 rfl (zO zT rfl rfl haN) ?_;refine zf rfl (xn qy rfl rfl rfl .h1 .h1 ?_) rfl;refine vB 1 ?_;refine zf rfl (yu zT rfl rfl rfl .h1 (.there (.there (.cons (.cons (.cons (.cons .nil)))))) rfl ?_) rfl;refine Vn 5 ?_
  refine Lo 1 ze rfl hc1 ?_;refine Lb 0 ze .h1 ?_;refine xf 2 ?_;refine Lo 1 yI rfl hc6 ?_;refine Lb 0 yI .h1 ?_;refine xf 3 ?_;refine Lo 2 y8 rfl hc12 ?_;refine Lo 1 y8 rfl hc13 ?_;refine pe 0 (xK rfl rfl za) ?_;refine y4 2 ?_;refine pe 1 (zA uw da rfl rfl) ?_;refine La 0 xP haC ?_;refine Cr f3 rfl (fun m' hm he => (u9 hc)) ?_;rintro _ rfl
  cases hzc : kX cond with
  | false =>
    have hnb : ¬ xS cond thn els := fun h => absurd (hzc.symm.trans h.1) zb;refine vr 1 ?_;refine Cn ye rfl zq ?_ ?_
    ·rintro _ _ ⟨h1, rfl⟩;exact pW hl2 ⟨.inl (xy zb hnb), rfl⟩
    rintro _ _ ⟨h1, rfl, rfl⟩;cases h1
  | true =>
    have hbr : xS cond thn els := ⟨hzc, by omega⟩;refine vr 1 ?_;refine Cn ye rfl zq ?_ ?_
    ·rintro _ _ ⟨h1, rfl⟩;exact absurd rfl h1
    rintro _ _ ⟨h1, rfl, rfl⟩;refine vr 6 ?_;refine Lo 0 ze rfl hc0 ?_;refine zH 2 ?_;refine Lo 0 ze rfl hc0 ?_;refine zH 3 ?_;refine Lo 0 ze rfl hc0 ?_;refine zH 9 ?_;refine Ps 4 ?_;rw [show p + 1 + zV n = p + (1 + zV n) by omega]
    exact z6 hl2 [_] zj [_] .p0 ⟨Zk ++ vy ++ xX ++ vy ++ v ++ yg, by rw [bM hbr, hwho, h3]; rfl, by omega, congrArg (fun t => Value.string (bs t)) yA, rfl⟩
 ·have hws : gY who = xA who := by unfold gY; rw [if_neg hw2]
  refine vr 5 ?_;refine Lo 0 ze rfl hc0 ?_;refine pe 0 (zA qn dO rfl rfl) ?_;refine Al 0 qn fun b3 => ?_;refine Sg 11 wF .here ?_;refine Lo 6 ze rfl hc0 ?_;refine xf 16 ?_;refine Lo 0 ze rfl hc0 ?_;refine xf 11 ?_;refine Lo 0 ze rfl hc1 ?_;refine zF 6 ?_;refine Lo 0 ze rfl hc1 ?_;refine Cn dp rfl kO ?_ ?_
  ·rintro _ _ ⟨h1, rfl⟩;exact pW hl2 ⟨.inl (WW zb (hws.trans h1)), rfl⟩
  rintro _ _ ⟨u, hu, rfl, rfl⟩;have hul := wd hu;have hwho := hws.trans hu;refine Ps 0 ?_;refine Ps 6 ?_;refine Lo 1 yO rfl hcp ?_;refine La 0 zT haN ?_;refine Cp qz rfl .k1 (fun m' hm he => iN m' hm (p + 1) d hp1 hd) ?_ ?_
  ·rintro _ _ ⟨h3, rfl⟩;exact pW hl2 ⟨h3.imp (jz zb) (fun h => by omega), rfl⟩
  rintro _ _ ⟨v, h3, h4, rfl, rfl⟩;have hvl := ui h3 h4;by_cases hname : name = []
  rotate_left
  ·refine Ps 3 ?_;refine Db (sq [0, 1, 2, 3, 4, 105, 6, 107] .done) ?_;refine vB 1 ?_;refine Vr 1 rfl (zl ze rfl hc1) ?_;refine Vr 1 rfl (zO zT rfl rfl haN) ?_;refine zf rfl (xn qy rfl rfl rfl .h1 .h1 ?_) rfl;refine vB 1 ?_;refine zf rfl (yu zT rfl rfl rfl .h1 (.there (.there (.cons (.cons (.cons (.cons .nil)))))) rfl ?_) rfl;refine Vn 5 ?_
   refine Lo 1 ze rfl hc1 ?_;refine Lb 0 ze .h1 ?_;refine xf 2 ?_;refine Lo 1 yI rfl hc6 ?_;refine Lb 0 yI .h1 ?_;refine zF 17 ?_;refine Cn ye rfl zq ?_ ?_
   ·rintro _ _ ⟨h1, rfl⟩;exact pW hl2 ⟨.inl (qa zb zb hname), rfl⟩
   rintro _ _ ⟨h1, rfl, rfl⟩;cases h1
  subst hname;by_cases hle : la + lb = 0
  rotate_left
  ·have hnb : ¬ xS cond thn els := fun h => hle (by have := h.2; omega);refine Ps 3 ?_;refine Db (sq [0, 1, 2, 3, 4, 105, 6, 107] .done) ?_;refine vB 1 ?_;refine Vr 1 rfl (zl ze rfl hc1) ?_;refine Vr 1 rfl (zO zT rfl rfl haN) ?_;refine zf rfl (xn qy rfl rfl rfl .h1 .h1 ?_) rfl;refine vB 1 ?_
   refine zf rfl (yu zT rfl rfl rfl .h1 (.there (.there (.cons (.cons (.cons (.cons .nil)))))) rfl ?_) rfl;refine Vn 5 ?_;refine Lo 1 ze rfl hc1 ?_;refine Lb 0 ze .h1 ?_;refine xf 2 ?_;refine Lo 1 yI rfl hc6 ?_;refine Lb 0 yI .h1 ?_;refine xf 3 ?_;refine Lo 2 y8 rfl hc12 ?_;refine Lo 1 y8 rfl hc13 ?_;refine pe 0 (xK rfl rfl za) ?_;refine zH 7 ?_
   refine Cn ye rfl zq ?_ ?_
   ·rintro _ _ ⟨h1, rfl⟩;exact pW hl2 ⟨.inl (xy zb hnb), rfl⟩
   rintro _ _ ⟨h1, rfl, rfl⟩;cases h1
  refine Ps 3 ?_;refine Db (sq [0, 1, 2, 3, 4, 105, 6, 107] .done) ?_;refine vB 1 ?_;refine Vr 1 rfl (zl ze rfl hc1) ?_;refine Vr 1 rfl (zO zT rfl rfl haN) ?_;refine zf rfl (xn qy rfl rfl rfl .h1 .h1 ?_) rfl;refine vB 1 ?_;refine zf rfl (yu zT rfl rfl rfl .h1 (.there (.there (.cons (.cons (.cons (.cons .nil)))))) rfl ?_) rfl;refine Vn 5 ?_
  refine Lo 1 ze rfl hc1 ?_;refine Lb 0 ze .h1 ?_;refine xf 2 ?_;refine Lo 1 yI rfl hc6 ?_;refine Lb 0 yI .h1 ?_;refine xf 3 ?_;refine Lo 2 y8 rfl hc12 ?_;refine Lo 1 y8 rfl hc13 ?_;refine pe 0 (xK rfl rfl za) ?_;refine y4 2 ?_;refine pe 1 (zA uw da rfl rfl) ?_;refine La 0 xP haC ?_;refine Cr f3 rfl (fun m' hm he => (u9 hc)) ?_;rintro _ rfl
  cases hzc : kX cond with
  | false =>
    have hnb : ¬ xS cond thn els := fun h => absurd (hzc.symm.trans h.1) zb;refine vr 1 ?_;refine Cn ye rfl zq ?_ ?_
    ·rintro _ _ ⟨h1, rfl⟩;exact pW hl2 ⟨.inl (xy zb hnb), rfl⟩
    rintro _ _ ⟨h1, rfl, rfl⟩;cases h1
  | true =>
    have hbr : xS cond thn els := ⟨hzc, by omega⟩;refine vr 1 ?_;refine Cn ye rfl zq ?_ ?_
    ·rintro _ _ ⟨h1, rfl⟩;exact absurd rfl h1
    rintro _ _ ⟨h1, rfl, rfl⟩;refine vr 6 ?_;refine Lo 0 ze rfl hc0 ?_;refine zH 2 ?_;refine Lo 0 ze rfl hc0 ?_;refine zH 3 ?_;refine Lo 0 ze rfl hc0 ?_;refine zH 9 ?_;refine Ps 4 ?_;rw [show p + 1 + zV n = p + (1 + zV n) by omega]
    exact z6 hl2 [_] zj [_] .p0 ⟨Zk ++ vy ++ u ++ vy ++ v ++ yg, by rw [bM hbr, hwho, h3]; rfl, by omega, congrArg (fun t => Value.string (bs t)) yA, rfl⟩
end
section
open Wd Tp Kd
variable {m : Mp} {b d p : Nat}
theorem Gv (hT : qB m) (hU : xU m) {op who nop nn nwho : Int} {nA : Oa} {nl nc : Nat} {name : Bt} {cop cwho : Int} {cname : Bt} {cA : Oa} {cla cca : Nat} {cB : Oa} {clb ccb : Nat} {TA : Oa} {la ca : Nat} {EB : Oa} {lb cb : Nat} {n : zY} {cond : zI} {thn els : List zW}
  (hn : xr m (n4 nop nn nwho nA nl nc) n) (hc : yP m (c5 cop cwho cname cA cla cca cB clb ccb) cond) (hcs : uv cond) (hnm : name.length <= 140737488355328) (hla : thn.length = la) (hlb : els.length = lb) (hla2 : la <= 140737488355328) (hlb2 : lb <= 140737488355328)
  (hbt : vx m b TA la ca thn) (hbe : vx m b EB lb cb els) (hop : op = 1) : fJ m b (Vq op who nop nn nwho nA nl nc name cop cwho cname cA cla cca cB clb ccb TA la ca EB lb cb) (.mk op who n name cond thn els) := by
 subst hop;intro m0 hm0 p d hp hd;skip;refine ym [.tmp 4] Tryz.func103 rfl rfl rfl ?_;refine tr 2 ?_;refine Bx 0 rfl fun b1 => ?_;refine Bx 4 rfl fun b2 => ?_;refine zG .here (fun ns hi _ hd1 => ?_);refine zG .here (fun ns2 hi2 _ hd2 => ?_)
 have hR : Rd (yj (yj m0 ns) ns2) (some ⟨b2, 0, none⟩) (Vq 1 who nop nn nwho nA nl nc name cop cwho cname cA cla cca cB clb ccb TA la ca EB lb cb) := ((Rd.blk hi).mono (yq hd1)).mono (zU _ _);have haN : At (yj (yj m0 ns) ns2) ⟨b2, 2, none⟩ (n4 nop nn nwho nA nl nc) := ((At.blkO (o := 2) (k := 4) hi).mono (yq hd1)).mono (zU _ _)
 have haC : At (yj (yj m0 ns) ns2) ⟨b2, 7, none⟩ (c5 cop cwho cname cA cla cca cB clb ccb) := ((At.blkO (o := 7) (k := 5) hi).mono (yq hd1)).mono (zU _ _);have hR1 : Rd (yj (yj m0 ns) ns2) (some ⟨b1, 0, none⟩) [zS b] := (Rd.blk hi2).mono (yq hd2);have hl2 : Le m0 (yj (yj m0 ns) ns2) := (zU _ _).trans (zU _ _);clear hi hd1 hi2 hd2
 generalize yj (yj m0 ns) ns2 = m9 at hR hR1 hl2 haN haC;have hl9 := hm0.trans hl2;have hT := hT.mono hl9;have hU := hU.mono hl9;have hn := hn.mono hl9;have hc := hc.mono hl9;have hbt := hbt.mono hl9;have hbe := hbe.mono hl9;have iN : vP m9 b _ n := jb (b := b) hT hn;have iC : xg m9 b _ cond := kU (b := b) hT hU hc hcs
 have hcp : mc m9 ⟨b1, 0, none⟩ = some (zS b) := hR1.at_ (i := 0) rfl;have hc0 : mc m9 ⟨b2, 0, none⟩ = some (.int .i8 1) := hR.at_ (i := 0) rfl;have hc1 : mc m9 ⟨b2, 1, none⟩ = some (.int .i8 who) := hR.at_ (i := 1) rfl;have hc6 : mc m9 ⟨b2, 6, none⟩ = some (.string (bs name)) := hR.at_ (i := 6) rfl;have hc12 : mc m9 ⟨b2, 12, none⟩ = some (.slice TA la ca) := hR.at_ (i := 12) rfl
 have hc13 : mc m9 ⟨b2, 13, none⟩ = some (.slice EB lb cb) := hR.at_ (i := 13) rfl;have hw1 := uY (.mk 1 who n name cond thn els);refine tr 1 ?_;refine Lo 0 yO rfl hcp ?_;refine Cp jP rfl .k0 (fun m' hm he => wZ hp) ?_ ?_
 ·rintro _ _ ⟨h1, rfl⟩;exact pW hl2 ⟨.inr za, rfl⟩
 rintro _ _ ⟨hp1, rfl, rfl⟩;rw [fz zb];by_cases hw2 : who = 2
 ·have hwho : gY who = some xX := by unfold gY; rw [if_pos hw2]
  refine vr 5 ?_;refine Lo 0 ze rfl hc0 ?_;refine pe 0 (zA qn dO rfl rfl) ?_;refine Al 0 qn fun b3 => ?_;refine Sg 11 wF .here ?_;refine Lo 6 ze rfl hc0 ?_;refine zH 5 ?_;refine xf 13 ?_;refine Lo 0 ze rfl hc0 ?_;refine zH 9 ?_;refine Lo 0 ze rfl hc1 ?_;refine yr 5 ?_;refine Ps 6 ?_;refine Lo 1 yO rfl hcp ?_;refine La 0 zT haN ?_
  refine Cp qz rfl .k1 (fun m' hm he => iN m' hm (p + 1) d hp1 hd) ?_ ?_
  ·rintro _ _ ⟨h3, rfl⟩;exact pW hl2 ⟨h3.imp (jz zb) (fun h => by omega), rfl⟩
  rintro _ _ ⟨v, h3, h4, rfl, rfl⟩;have hvl := ui h3 h4;by_cases hname : name = []
  rotate_left
  ·refine Ps 3 ?_;refine Db (sq [0, 1, 2, 3, 4, 105, 6, 107] .done) ?_;refine vB 1 ?_;refine Vr 1 rfl (zl ze rfl hc1) ?_;refine Vr 1 rfl (zO zT rfl rfl haN) ?_;refine zf rfl (xn qy rfl rfl rfl .h1 .h1 ?_) rfl;refine vB 1 ?_;refine zf rfl (yu zT rfl rfl rfl .h1 (.there (.there (.cons (.cons (.cons (.cons .nil)))))) rfl ?_) rfl;refine Vn 5 ?_
   refine Lo 1 ze rfl hc1 ?_;refine Lb 0 ze .h1 ?_;refine xf 2 ?_;refine Lo 1 yI rfl hc6 ?_;refine Lb 0 yI .h1 ?_;refine zF 17 ?_;refine Cn ye rfl zq ?_ ?_
   ·rintro _ _ ⟨h1, rfl⟩;exact pW hl2 ⟨.inl (qa zb zb hname), rfl⟩
   rintro _ _ ⟨h1, rfl, rfl⟩;cases h1
  subst hname;by_cases hle : la + lb = 0
  rotate_left
  ·have hnb : ¬ xS cond thn els := fun h => hle (by have := h.2; omega);refine Ps 3 ?_;refine Db (sq [0, 1, 2, 3, 4, 105, 6, 107] .done) ?_;refine vB 1 ?_;refine Vr 1 rfl (zl ze rfl hc1) ?_;refine Vr 1 rfl (zO zT rfl rfl haN) ?_;refine zf rfl (xn qy rfl rfl rfl .h1 .h1 ?_) rfl;refine vB 1 ?_
   refine zf rfl (yu zT rfl rfl rfl .h1 (.there (.there (.cons (.cons (.cons (.cons .nil)))))) rfl ?_) rfl;refine Vn 5 ?_;refine Lo 1 ze rfl hc1 ?_;refine Lb 0 ze .h1 ?_;refine xf 2 ?_;refine Lo 1 yI rfl hc6 ?_;refine Lb 0 yI .h1 ?_;refine xf 3 ?_;refine Lo 2 y8 rfl hc12 ?_;refine Lo 1 y8 rfl hc13 ?_;refine pe 0 (xK rfl rfl za) ?_;refine zH 7 ?_
   refine Cn ye rfl zq ?_ ?_
   ·rintro _ _ ⟨h1, rfl⟩;exact pW hl2 ⟨.inl (xy zb hnb), rfl⟩
   rintro _ _ ⟨h1, rfl, rfl⟩;cases h1
  refine Ps 3 ?_;refine Db (sq [0, 1, 2, 3, 4, 105, 6, 107] .done) ?_;refine vB 1 ?_;refine Vr 1 rfl (zl ze rfl hc1) ?_;refine Vr 1 rfl (zO zT rfl rfl haN) ?_;refine zf rfl (xn qy rfl rfl rfl .h1 .h1 ?_) rfl;refine vB 1 ?_;refine zf rfl (yu zT rfl rfl rfl .h1 (.there (.there (.cons (.cons (.cons (.cons .nil)))))) rfl ?_) rfl;refine Vn 5 ?_
  refine Lo 1 ze rfl hc1 ?_;refine Lb 0 ze .h1 ?_;refine xf 2 ?_;refine Lo 1 yI rfl hc6 ?_;refine Lb 0 yI .h1 ?_;refine xf 3 ?_;refine Lo 2 y8 rfl hc12 ?_;refine Lo 1 y8 rfl hc13 ?_;refine pe 0 (xK rfl rfl za) ?_;refine y4 2 ?_;refine pe 1 (zA uw da rfl rfl) ?_;refine La 0 xP haC ?_;refine Cr f3 rfl (fun m' hm he => (u9 hc)) ?_;rintro _ rfl
  cases hzc : kX cond with
  | false =>
    have hnb : ¬ xS cond thn els := fun h => absurd (hzc.symm.trans h.1) zb;refine vr 1 ?_;refine Cn ye rfl zq ?_ ?_
    ·rintro _ _ ⟨h1, rfl⟩;exact pW hl2 ⟨.inl (xy zb hnb), rfl⟩
    rintro _ _ ⟨h1, rfl, rfl⟩;cases h1
  | true =>
    have hbr : xS cond thn els := ⟨hzc, by omega⟩;refine vr 1 ?_;refine Cn ye rfl zq ?_ ?_
    ·rintro _ _ ⟨h1, rfl⟩;exact absurd rfl h1
    rintro _ _ ⟨h1, rfl, rfl⟩;refine vr 6 ?_;refine Lo 0 ze rfl hc0 ?_;refine zH 2 ?_;refine Lo 0 ze rfl hc0 ?_;refine zH 3 ?_;refine Lo 0 ze rfl hc0 ?_;refine zH 9 ?_;refine Ps 4 ?_;rw [show p + 1 + zV n = p + (1 + zV n) by omega]
    exact z6 hl2 [_] zj [_] .p0 ⟨Zj ++ vy ++ xX ++ vy ++ v ++ yg, by rw [bL hbr, hwho, h3]; rfl, by omega, congrArg (fun t => Value.string (bs t)) yA, rfl⟩
 ·have hws : gY who = xA who := by unfold gY; rw [if_neg hw2]
  refine vr 5 ?_;refine Lo 0 ze rfl hc0 ?_;refine pe 0 (zA qn dO rfl rfl) ?_;refine Al 0 qn fun b3 => ?_;refine Sg 11 wF .here ?_;refine Lo 6 ze rfl hc0 ?_;refine zH 5 ?_;refine xf 13 ?_;refine Lo 0 ze rfl hc0 ?_;refine zH 9 ?_;refine Lo 0 ze rfl hc1 ?_;refine zF 6 ?_;refine Lo 0 ze rfl hc1 ?_;refine Cn dp rfl kO ?_ ?_
  ·rintro _ _ ⟨h1, rfl⟩;exact pW hl2 ⟨.inl (WW zb (hws.trans h1)), rfl⟩
  rintro _ _ ⟨u, hu, rfl, rfl⟩;have hul := wd hu;have hwho := hws.trans hu;refine Ps 0 ?_;refine Ps 6 ?_;refine Lo 1 yO rfl hcp ?_;refine La 0 zT haN ?_;refine Cp qz rfl .k1 (fun m' hm he => iN m' hm (p + 1) d hp1 hd) ?_ ?_
  ·rintro _ _ ⟨h3, rfl⟩;exact pW hl2 ⟨h3.imp (jz zb) (fun h => by omega), rfl⟩
  rintro _ _ ⟨v, h3, h4, rfl, rfl⟩;have hvl := ui h3 h4;by_cases hname : name = []
  rotate_left
  ·refine Ps 3 ?_;refine Db (sq [0, 1, 2, 3, 4, 105, 6, 107] .done) ?_;refine vB 1 ?_;refine Vr 1 rfl (zl ze rfl hc1) ?_;refine Vr 1 rfl (zO zT rfl rfl haN) ?_;refine zf rfl (xn qy rfl rfl rfl .h1 .h1 ?_) rfl;refine vB 1 ?_;refine zf rfl (yu zT rfl rfl rfl .h1 (.there (.there (.cons (.cons (.cons (.cons .nil)))))) rfl ?_) rfl;refine Vn 5 ?_
   refine Lo 1 ze rfl hc1 ?_;refine Lb 0 ze .h1 ?_;refine xf 2 ?_;refine Lo 1 yI rfl hc6 ?_;refine Lb 0 yI .h1 ?_;refine zF 17 ?_;refine Cn ye rfl zq ?_ ?_
   ·rintro _ _ ⟨h1, rfl⟩;exact pW hl2 ⟨.inl (qa zb zb hname), rfl⟩
   rintro _ _ ⟨h1, rfl, rfl⟩;cases h1
  subst hname;by_cases hle : la + lb = 0
  rotate_left
  ·have hnb : ¬ xS cond thn els := fun h => hle (by have := h.2; omega);refine Ps 3 ?_;refine Db (sq [0, 1, 2, 3, 4, 105, 6, 107] .done) ?_;refine vB 1 ?_;refine Vr 1 rfl (zl ze rfl hc1) ?_;refine Vr 1 rfl (zO zT rfl rfl haN) ?_;refine zf rfl (xn qy rfl rfl rfl .h1 .h1 ?_) rfl;refine vB 1 ?_
   refine zf rfl (yu zT rfl rfl rfl .h1 (.there (.there (.cons (.cons (.cons (.cons .nil)))))) rfl ?_) rfl;refine Vn 5 ?_;refine Lo 1 ze rfl hc1 ?_;refine Lb 0 ze .h1 ?_;refine xf 2 ?_;refine Lo 1 yI rfl hc6 ?_;refine Lb 0 yI .h1 ?_;refine xf 3 ?_;refine Lo 2 y8 rfl hc12 ?_;refine Lo 1 y8 rfl hc13 ?_;refine pe 0 (xK rfl rfl za) ?_;refine zH 7 ?_
   refine Cn ye rfl zq ?_ ?_
   ·rintro _ _ ⟨h1, rfl⟩;exact pW hl2 ⟨.inl (xy zb hnb), rfl⟩
   rintro _ _ ⟨h1, rfl, rfl⟩;cases h1
  refine Ps 3 ?_;refine Db (sq [0, 1, 2, 3, 4, 105, 6, 107] .done) ?_;refine vB 1 ?_;refine Vr 1 rfl (zl ze rfl hc1) ?_;refine Vr 1 rfl (zO zT rfl rfl haN) ?_;refine zf rfl (xn qy rfl rfl rfl .h1 .h1 ?_) rfl;refine vB 1 ?_;refine zf rfl (yu zT rfl rfl rfl .h1 (.there (.there (.cons (.cons (.cons (.cons .nil)))))) rfl ?_) rfl;refine Vn 5 ?_
  refine Lo 1 ze rfl hc1 ?_;refine Lb 0 ze .h1 ?_;refine xf 2 ?_;refine Lo 1 yI rfl hc6 ?_;refine Lb 0 yI .h1 ?_;refine xf 3 ?_;refine Lo 2 y8 rfl hc12 ?_;refine Lo 1 y8 rfl hc13 ?_;refine pe 0 (xK rfl rfl za) ?_;refine y4 2 ?_;refine pe 1 (zA uw da rfl rfl) ?_;refine La 0 xP haC ?_;refine Cr f3 rfl (fun m' hm he => (u9 hc)) ?_;rintro _ rfl
  cases hzc : kX cond with
  | false =>
    have hnb : ¬ xS cond thn els := fun h => absurd (hzc.symm.trans h.1) zb;refine vr 1 ?_;refine Cn ye rfl zq ?_ ?_
    ·rintro _ _ ⟨h1, rfl⟩;exact pW hl2 ⟨.inl (xy zb hnb), rfl⟩
    rintro _ _ ⟨h1, rfl, rfl⟩;cases h1
  | true =>
    have hbr : xS cond thn els := ⟨hzc, by omega⟩;refine vr 1 ?_;refine Cn ye rfl zq ?_ ?_
    ·rintro _ _ ⟨h1, rfl⟩;exact absurd rfl h1
    rintro _ _ ⟨h1, rfl, rfl⟩;refine vr 6 ?_;refine Lo 0 ze rfl hc0 ?_;refine zH 2 ?_;refine Lo 0 ze rfl hc0 ?_;refine zH 3 ?_;refine Lo 0 ze rfl hc0 ?_;refine zH 9 ?_;refine Ps 4 ?_;rw [show p + 1 + zV n = p + (1 + zV n) by omega]
    exact z6 hl2 [_] zj [_] .p0 ⟨Zj ++ vy ++ u ++ vy ++ v ++ yg, by rw [bL hbr, hwho, h3]; rfl, by omega, congrArg (fun t => Value.string (bs t)) yA, rfl⟩
end
section
open Wd Tp Kd
variable {m : Mp} {b d p : Nat}
theorem GB (hT : qB m) (hU : xU m) {op who nop nn nwho : Int} {nA : Oa} {nl nc : Nat} {name : Bt} {cop cwho : Int} {cname : Bt} {cA : Oa} {cla cca : Nat} {cB : Oa} {clb ccb : Nat} {TA : Oa} {la ca : Nat} {EB : Oa} {lb cb : Nat} {n : zY} {cond : zI} {thn els : List zW}
  (hn : xr m (n4 nop nn nwho nA nl nc) n) (hc : yP m (c5 cop cwho cname cA cla cca cB clb ccb) cond) (hcs : uv cond) (hnm : name.length <= 140737488355328) (hla : thn.length = la) (hlb : els.length = lb) (hla2 : la <= 140737488355328) (hlb2 : lb <= 140737488355328)
  (hbt : vx m b TA la ca thn) (hbe : vx m b EB lb cb els) (hop : op = 2) : fJ m b (Vq op who nop nn nwho nA nl nc name cop cwho cname cA cla cca cB clb ccb TA la ca EB lb cb) (.mk op who n name cond thn els) := by
 subst hop;intro m0 hm0 p d hp hd;skip;refine ym [.tmp 4] Tryz.func103 rfl rfl rfl ?_;refine tr 2 ?_;refine Bx 0 rfl fun b1 => ?_;refine Bx 4 rfl fun b2 => ?_;refine zG .here (fun ns hi _ hd1 => ?_);refine zG .here (fun ns2 hi2 _ hd2 => ?_)
 have hR : Rd (yj (yj m0 ns) ns2) (some ⟨b2, 0, none⟩) (Vq 2 who nop nn nwho nA nl nc name cop cwho cname cA cla cca cB clb ccb TA la ca EB lb cb) := ((Rd.blk hi).mono (yq hd1)).mono (zU _ _);have haN : At (yj (yj m0 ns) ns2) ⟨b2, 2, none⟩ (n4 nop nn nwho nA nl nc) := ((At.blkO (o := 2) (k := 4) hi).mono (yq hd1)).mono (zU _ _)
 have haC : At (yj (yj m0 ns) ns2) ⟨b2, 7, none⟩ (c5 cop cwho cname cA cla cca cB clb ccb) := ((At.blkO (o := 7) (k := 5) hi).mono (yq hd1)).mono (zU _ _);have hR1 : Rd (yj (yj m0 ns) ns2) (some ⟨b1, 0, none⟩) [zS b] := (Rd.blk hi2).mono (yq hd2);have hl2 : Le m0 (yj (yj m0 ns) ns2) := (zU _ _).trans (zU _ _);clear hi hd1 hi2 hd2
 generalize yj (yj m0 ns) ns2 = m9 at hR hR1 hl2 haN haC;have hl9 := hm0.trans hl2;have hT := hT.mono hl9;have hU := hU.mono hl9;have hn := hn.mono hl9;have hc := hc.mono hl9;have hbt := hbt.mono hl9;have hbe := hbe.mono hl9;have iN : vP m9 b _ n := jb (b := b) hT hn;have iC : xg m9 b _ cond := kU (b := b) hT hU hc hcs
 have hcp : mc m9 ⟨b1, 0, none⟩ = some (zS b) := hR1.at_ (i := 0) rfl;have hc0 : mc m9 ⟨b2, 0, none⟩ = some (.int .i8 2) := hR.at_ (i := 0) rfl;have hc1 : mc m9 ⟨b2, 1, none⟩ = some (.int .i8 who) := hR.at_ (i := 1) rfl;have hc6 : mc m9 ⟨b2, 6, none⟩ = some (.string (bs name)) := hR.at_ (i := 6) rfl;have hc12 : mc m9 ⟨b2, 12, none⟩ = some (.slice TA la ca) := hR.at_ (i := 12) rfl
 have hc13 : mc m9 ⟨b2, 13, none⟩ = some (.slice EB lb cb) := hR.at_ (i := 13) rfl;have hw1 := uY (.mk 2 who n name cond thn els);refine tr 1 ?_;refine Lo 0 yO rfl hcp ?_;refine Cp jP rfl .k0 (fun m' hm he => wZ hp) ?_ ?_
 ·rintro _ _ ⟨h1, rfl⟩;exact pW hl2 ⟨.inr za, rfl⟩
 rintro _ _ ⟨hp1, rfl, rfl⟩;rw [fz zb];refine vr 5 ?_;refine Lo 0 ze rfl hc0 ?_;refine pe 0 (zA qn dO rfl rfl) ?_;refine Al 0 qn fun b3 => ?_;refine Sg 11 wF .here ?_;refine Lo 6 ze rfl hc0 ?_;refine zH 5 ?_;refine zH 6 ?_;refine xf 5 ?_;refine Db (sq [0, 1, 5, 6, 7, 102, 3, 4, 108, 9, 10] .done) ?_;refine vB 1 ?_;refine Vr 0 rfl (zl ze rfl hc1) ?_
 refine Vr 1 rfl (zl yO rfl hcp) ?_;refine Vr 0 rfl (zO zT rfl rfl haN) ?_;refine zf rfl ((z8 dp rfl .nil (fun m' hm he => kO) rfl ?_ ?_)) rfl
 ·rintro _ _ ⟨h1, rfl⟩;exact pW hl2 ⟨.inl (aT zb h1), rfl⟩
 rintro _ _ ⟨u, hu, rfl, rfl⟩;have hul := wd hu;refine Vs 0 rfl ?_;refine Vs 0 rfl ?_;refine zf rfl ((z8 qz rfl .k1 (fun m' hm he => iN m' hm (p + 1) d hp1 hd) rfl ?_ ?_)) rfl
 ·rintro _ _ ⟨h3, rfl⟩;exact pW hl2 ⟨h3.imp (jz zb) (fun h => by omega), rfl⟩
 rintro _ _ ⟨v, h3, h4, rfl, rfl⟩;have hvl := ui h3 h4;by_cases hname : name = []
 rotate_left
 ·refine Vs 1 rfl ?_;refine Vn 1 ?_;refine Db (sq [0, 1, 2, 3, 4, 105, 6, 107] .done) ?_;refine vB 1 ?_;refine Vr 1 rfl (zl ze rfl hc1) ?_;refine Vr 1 rfl (zO zT rfl rfl haN) ?_;refine zf rfl (xn qy rfl rfl rfl .h1 .h1 ?_) rfl;refine vB 1 ?_;refine zf rfl (yu zT rfl rfl rfl .h1 (.there (.there (.cons (.cons (.cons (.cons .nil)))))) rfl ?_) rfl
  refine Vn 5 ?_;refine Lo 1 ze rfl hc1 ?_;refine Lb 0 ze .h1 ?_;refine xf 2 ?_;refine Lo 1 yI rfl hc6 ?_;refine Lb 0 yI .h1 ?_;refine zF 17 ?_;refine Cn ye rfl zq ?_ ?_
  ·rintro _ _ ⟨h1, rfl⟩;exact pW hl2 ⟨.inl (qa zb zb hname), rfl⟩
  rintro _ _ ⟨h1, rfl, rfl⟩;cases h1
 subst hname;by_cases hle : la + lb = 0
 rotate_left
 ·have hnb : ¬ xS cond thn els := fun h => hle (by have := h.2; omega);refine Vs 1 rfl ?_;refine Vn 1 ?_;refine Db (sq [0, 1, 2, 3, 4, 105, 6, 107] .done) ?_;refine vB 1 ?_;refine Vr 1 rfl (zl ze rfl hc1) ?_;refine Vr 1 rfl (zO zT rfl rfl haN) ?_;refine zf rfl (xn qy rfl rfl rfl .h1 .h1 ?_) rfl;refine vB 1 ?_
  refine zf rfl (yu zT rfl rfl rfl .h1 (.there (.there (.cons (.cons (.cons (.cons .nil)))))) rfl ?_) rfl;refine Vn 5 ?_;refine Lo 1 ze rfl hc1 ?_;refine Lb 0 ze .h1 ?_;refine xf 2 ?_;refine Lo 1 yI rfl hc6 ?_;refine Lb 0 yI .h1 ?_;refine xf 3 ?_;refine Lo 2 y8 rfl hc12 ?_;refine Lo 1 y8 rfl hc13 ?_;refine pe 0 (xK rfl rfl za) ?_;refine zH 7 ?_
  refine Cn ye rfl zq ?_ ?_
  ·rintro _ _ ⟨h1, rfl⟩;exact pW hl2 ⟨.inl (xy zb hnb), rfl⟩
  rintro _ _ ⟨h1, rfl, rfl⟩;cases h1
 refine Vs 1 rfl ?_;refine Vn 1 ?_;refine Db (sq [0, 1, 2, 3, 4, 105, 6, 107] .done) ?_;refine vB 1 ?_;refine Vr 1 rfl (zl ze rfl hc1) ?_;refine Vr 1 rfl (zO zT rfl rfl haN) ?_;refine zf rfl (xn qy rfl rfl rfl .h1 .h1 ?_) rfl;refine vB 1 ?_;refine zf rfl (yu zT rfl rfl rfl .h1 (.there (.there (.cons (.cons (.cons (.cons .nil)))))) rfl ?_) rfl
 refine Vn 5 ?_;refine Lo 1 ze rfl hc1 ?_;refine Lb 0 ze .h1 ?_;refine xf 2 ?_;refine Lo 1 yI rfl hc6 ?_;refine Lb 0 yI .h1 ?_;refine xf 3 ?_;refine Lo 2 y8 rfl hc12 ?_;refine Lo 1 y8 rfl hc13 ?_;refine pe 0 (xK rfl rfl za) ?_;refine y4 2 ?_;refine pe 1 (zA uw da rfl rfl) ?_;refine La 0 xP haC ?_;refine Cr f3 rfl (fun m' hm he => (u9 hc)) ?_
 rintro _ rfl;cases hzc : kX cond with
 | false =>
   have hnb : ¬ xS cond thn els := fun h => absurd (hzc.symm.trans h.1) zb;refine vr 1 ?_;refine Cn ye rfl zq ?_ ?_
   ·rintro _ _ ⟨h1, rfl⟩;exact pW hl2 ⟨.inl (xy zb hnb), rfl⟩
   rintro _ _ ⟨h1, rfl, rfl⟩;cases h1
 | true =>
   have hbr : xS cond thn els := ⟨hzc, by omega⟩;refine vr 1 ?_;refine Cn ye rfl zq ?_ ?_
   ·rintro _ _ ⟨h1, rfl⟩;exact absurd rfl h1
   rintro _ _ ⟨h1, rfl, rfl⟩;refine vr 6 ?_;refine Lo 0 ze rfl hc0 ?_;refine zH 2 ?_;refine Lo 0 ze rfl hc0 ?_;refine zH 3 ?_;refine Lo 0 ze rfl hc0 ?_;refine zH 9 ?_;refine Ps 4 ?_;rw [show p + 1 + zV n = p + (1 + zV n) by omega]
   exact z6 hl2 [_] zj [_] .p0 ⟨Y3 ++ vy ++ u ++ vy ++ v ++ yg, by rw [YA hbr, hu, h3]; rfl, by omega, congrArg (fun t => Value.string (bs t)) yA, rfl⟩
end
section
open Wd Tp Kd
variable {m : Mp} {b d p : Nat}
variable {EB TA cA cB : Oa} {ca cb cca ccb cla clb : Nat} {cname : Bt} {cond : zI} {cop cwho : Int} {els : List zW} {la lb : Nat} {n : zY} {nA : Oa} {name : Bt} {nc nl : Nat} {nn nop nwho op : Int} {thn : List zW} {who : Int}
theorem Gy (hT : qB m) (hU : xU m) (hn : xr m (n4 nop nn nwho nA nl nc) n) (hc : yP m (c5 cop cwho cname cA cla cca cB clb ccb) cond) (hcs : uv cond) (hnm : name.length <= 140737488355328) (hla : thn.length = la) (hlb : els.length = lb) (hla2 : la <= 140737488355328) (hlb2 : lb <= 140737488355328) (hbt : vx m b TA la ca thn) (hbe : vx m b EB lb cb els) (hop : op = 3) : fJ m b (Vq op who nop nn nwho nA nl nc name cop cwho cname cA cla cca cB clb ccb TA la ca EB lb cb) (.mk op who n name cond thn els) := by
 subst hop;intro m0 hm0 p d hp hd;skip;refine ym [.tmp 4] Tryz.func103 rfl rfl rfl ?_;refine tr 2 ?_;refine Bx 0 rfl fun b1 => ?_;refine Bx 4 rfl fun b2 => ?_;refine zG .here (fun ns hi _ hd1 => ?_);refine zG .here (fun ns2 hi2 _ hd2 => ?_)
 have hR : Rd (yj (yj m0 ns) ns2) (some ⟨b2, 0, none⟩) (Vq 3 who nop nn nwho nA nl nc name cop cwho cname cA cla cca cB clb ccb TA la ca EB lb cb) := ((Rd.blk hi).mono (yq hd1)).mono (zU _ _);have haN : At (yj (yj m0 ns) ns2) ⟨b2, 2, none⟩ (n4 nop nn nwho nA nl nc) := ((At.blkO (o := 2) (k := 4) hi).mono (yq hd1)).mono (zU _ _)
 have haC : At (yj (yj m0 ns) ns2) ⟨b2, 7, none⟩ (c5 cop cwho cname cA cla cca cB clb ccb) := ((At.blkO (o := 7) (k := 5) hi).mono (yq hd1)).mono (zU _ _);have hR1 : Rd (yj (yj m0 ns) ns2) (some ⟨b1, 0, none⟩) [zS b] := (Rd.blk hi2).mono (yq hd2);have hl2 : Le m0 (yj (yj m0 ns) ns2) := (zU _ _).trans (zU _ _);clear hi hd1 hi2 hd2
 generalize yj (yj m0 ns) ns2 = m9 at hR hR1 hl2 haN haC;have hl9 := hm0.trans hl2;have hT := hT.mono hl9;have hU := hU.mono hl9;have hn := hn.mono hl9;have hc := hc.mono hl9;have hbt := hbt.mono hl9;have hbe := hbe.mono hl9;have iN : vP m9 b _ n := jb (b := b) hT hn;have iC : xg m9 b _ cond := kU (b := b) hT hU hc hcs
 have hcp : mc m9 ⟨b1, 0, none⟩ = some (zS b) := hR1.at_ (i := 0) rfl;have hc0 : mc m9 ⟨b2, 0, none⟩ = some (.int .i8 3) := hR.at_ (i := 0) rfl;have hc1 : mc m9 ⟨b2, 1, none⟩ = some (.int .i8 who) := hR.at_ (i := 1) rfl;have hc6 : mc m9 ⟨b2, 6, none⟩ = some (.string (bs name)) := hR.at_ (i := 6) rfl;have hc12 : mc m9 ⟨b2, 12, none⟩ = some (.slice TA la ca) := hR.at_ (i := 12) rfl
 have hc13 : mc m9 ⟨b2, 13, none⟩ = some (.slice EB lb cb) := hR.at_ (i := 13) rfl;have hw1 := uY (.mk 3 who n name cond thn els);refine tr 1 ?_;refine Lo 0 yO rfl hcp ?_;refine Cp jP rfl .k0 (fun m' hm he => wZ hp) ?_ ?_
 ·rintro _ _ ⟨h1, rfl⟩;exact pW hl2 ⟨.inr za, rfl⟩
 rintro _ _ ⟨hp1, rfl, rfl⟩;rw [fz zb];refine vr 5 ?_;refine Lo 0 ze rfl hc0 ?_;refine pe 0 (zA qn dO rfl rfl) ?_;refine Al 0 qn fun b3 => ?_;refine Sg 11 wF .here ?_;refine Lo 6 ze rfl hc0 ?_;refine zH 5 ?_;refine zH 6 ?_;refine zH 6 ?_;refine xf 6 ?_;refine Lo 1 yO rfl hcp ?_;refine La 0 zT haN ?_
 refine Cp qz rfl .k1 (fun m' hm he => iN m' hm (p + 1) d hp1 hd) ?_ ?_
 ·rintro _ _ ⟨h3, rfl⟩;exact pW hl2 ⟨h3.imp (jz zb) (fun h => by omega), rfl⟩
 rintro _ _ ⟨v, h3, h4, rfl, rfl⟩;have hvl := ui h3 h4;by_cases hwho : who = 0
 rotate_left
 ·refine Ps 5 ?_;refine La 1 zT haN ?_;refine zg (yu zT rfl rfl rfl .h1 (.there (.there (.cons (.cons (.cons (.cons .nil)))))) rfl ?_) rfl;refine vr 6 ?_;refine Lo 1 ze rfl hc1 ?_;refine Lb 0 ze .h1 ?_;refine zF 23 ?_;refine Cn ye rfl zq ?_ ?_
  ·rintro _ _ ⟨h1, rfl⟩;exact pW hl2 ⟨.inl (eS zb hwho), rfl⟩
  rintro _ _ ⟨h1, rfl, rfl⟩;cases h1
 subst hwho;by_cases hname : name = []
 rotate_left
 ·refine Ps 5 ?_;refine La 1 zT haN ?_;refine zg (yu zT rfl rfl rfl .h1 (.there (.there (.cons (.cons (.cons (.cons .nil)))))) rfl ?_) rfl;refine vr 6 ?_;refine Lo 1 ze rfl hc1 ?_;refine Lb 0 ze .h1 ?_;refine xf 2 ?_;refine Lo 1 yI rfl hc6 ?_;refine Lb 0 yI .h1 ?_;refine zF 17 ?_;refine Cn ye rfl zq ?_ ?_
  ·rintro _ _ ⟨h1, rfl⟩;exact pW hl2 ⟨.inl (qa zb zb hname), rfl⟩
  rintro _ _ ⟨h1, rfl, rfl⟩;cases h1
 subst hname;by_cases hle : la + lb = 0
 rotate_left
 ·have hnb : ¬ xS cond thn els := fun h => hle (by have := h.2; omega);refine Ps 5 ?_;refine La 1 zT haN ?_;refine zg (yu zT rfl rfl rfl .h1 (.there (.there (.cons (.cons (.cons (.cons .nil)))))) rfl ?_) rfl;refine vr 6 ?_;refine Lo 1 ze rfl hc1 ?_;refine Lb 0 ze .h1 ?_;refine xf 2 ?_;refine Lo 1 yI rfl hc6 ?_;refine Lb 0 yI .h1 ?_;refine xf 3 ?_
  refine Lo 2 y8 rfl hc12 ?_;refine Lo 1 y8 rfl hc13 ?_;refine pe 0 (xK rfl rfl za) ?_;refine zH 7 ?_;refine Cn ye rfl zq ?_ ?_
  ·rintro _ _ ⟨h1, rfl⟩;exact pW hl2 ⟨.inl (xy zb hnb), rfl⟩
  rintro _ _ ⟨h1, rfl, rfl⟩;cases h1
 refine Ps 5 ?_;refine La 1 zT haN ?_;refine zg (yu zT rfl rfl rfl .h1 (.there (.there (.cons (.cons (.cons (.cons .nil)))))) rfl ?_) rfl;refine vr 6 ?_;refine Lo 1 ze rfl hc1 ?_;refine Lb 0 ze .h1 ?_;refine xf 2 ?_;refine Lo 1 yI rfl hc6 ?_;refine Lb 0 yI .h1 ?_;refine xf 3 ?_;refine Lo 2 y8 rfl hc12 ?_;refine Lo 1 y8 rfl hc13 ?_
 refine pe 0 (xK rfl rfl za) ?_;refine y4 2 ?_;refine pe 1 (zA uw da rfl rfl) ?_;refine La 0 xP haC ?_;refine Cr f3 rfl (fun m' hm he => (u9 hc)) ?_;rintro _ rfl;cases hzc : kX cond with
 | false =>
   have hnb : ¬ xS cond thn els := fun h => absurd (hzc.symm.trans h.1) zb;refine vr 1 ?_;refine Cn ye rfl zq ?_ ?_
   ·rintro _ _ ⟨h1, rfl⟩;exact pW hl2 ⟨.inl (xy zb hnb), rfl⟩
   rintro _ _ ⟨h1, rfl, rfl⟩;cases h1
 | true =>
   have hbr : xS cond thn els := ⟨hzc, by omega⟩;refine vr 1 ?_;refine Cn ye rfl zq ?_ ?_
   ·rintro _ _ ⟨h1, rfl⟩;exact absurd rfl h1
   rintro _ _ ⟨h1, rfl, rfl⟩;refine vr 6 ?_;refine Lo 0 ze rfl hc0 ?_;refine zH 2 ?_;refine Lo 0 ze rfl hc0 ?_;refine zH 3 ?_;refine Lo 0 ze rfl hc0 ?_;refine zH 9 ?_;refine Ps 4 ?_;rw [show p + 1 + zV n = p + (1 + zV n) by omega]
   exact z6 hl2 [_] zj [_] .p0 ⟨Y1 ++ vy ++ v ++ yg, by rw [Yx hbr, h3]; rfl, by omega, congrArg (fun t => Value.string (bs t)) yA, rfl⟩
theorem Gw (hT : qB m) (hU : xU m) (hn : xr m (n4 nop nn nwho nA nl nc) n) (hc : yP m (c5 cop cwho cname cA cla cca cB clb ccb) cond) (hcs : uv cond) (hnm : name.length <= 140737488355328) (hla : thn.length = la) (hlb : els.length = lb) (hla2 : la <= 140737488355328) (hlb2 : lb <= 140737488355328) (hbt : vx m b TA la ca thn) (hbe : vx m b EB lb cb els) (hop : op = 5) : fJ m b (Vq op who nop nn nwho nA nl nc name cop cwho cname cA cla cca cB clb ccb TA la ca EB lb cb) (.mk op who n name cond thn els) := by
 subst hop;intro m0 hm0 p d hp hd;skip;refine ym [.tmp 4] Tryz.func103 rfl rfl rfl ?_;refine tr 2 ?_;refine Bx 0 rfl fun b1 => ?_;refine Bx 4 rfl fun b2 => ?_;refine zG .here (fun ns hi _ hd1 => ?_);refine zG .here (fun ns2 hi2 _ hd2 => ?_)
 have hR : Rd (yj (yj m0 ns) ns2) (some ⟨b2, 0, none⟩) (Vq 5 who nop nn nwho nA nl nc name cop cwho cname cA cla cca cB clb ccb TA la ca EB lb cb) := ((Rd.blk hi).mono (yq hd1)).mono (zU _ _);have haN : At (yj (yj m0 ns) ns2) ⟨b2, 2, none⟩ (n4 nop nn nwho nA nl nc) := ((At.blkO (o := 2) (k := 4) hi).mono (yq hd1)).mono (zU _ _)
 have haC : At (yj (yj m0 ns) ns2) ⟨b2, 7, none⟩ (c5 cop cwho cname cA cla cca cB clb ccb) := ((At.blkO (o := 7) (k := 5) hi).mono (yq hd1)).mono (zU _ _);have hR1 : Rd (yj (yj m0 ns) ns2) (some ⟨b1, 0, none⟩) [zS b] := (Rd.blk hi2).mono (yq hd2);have hl2 : Le m0 (yj (yj m0 ns) ns2) := (zU _ _).trans (zU _ _);clear hi hd1 hi2 hd2
 generalize yj (yj m0 ns) ns2 = m9 at hR hR1 hl2 haN haC;have hl9 := hm0.trans hl2;have hT := hT.mono hl9;have hU := hU.mono hl9;have hn := hn.mono hl9;have hc := hc.mono hl9;have hbt := hbt.mono hl9;have hbe := hbe.mono hl9;have iN : vP m9 b _ n := jb (b := b) hT hn;have iC : xg m9 b _ cond := kU (b := b) hT hU hc hcs
 have hcp : mc m9 ⟨b1, 0, none⟩ = some (zS b) := hR1.at_ (i := 0) rfl;have hc0 : mc m9 ⟨b2, 0, none⟩ = some (.int .i8 5) := hR.at_ (i := 0) rfl;have hc1 : mc m9 ⟨b2, 1, none⟩ = some (.int .i8 who) := hR.at_ (i := 1) rfl;have hc6 : mc m9 ⟨b2, 6, none⟩ = some (.string (bs name)) := hR.at_ (i := 6) rfl;have hc12 : mc m9 ⟨b2, 12, none⟩ = some (.slice TA la ca) := hR.at_ (i := 12) rfl
 have hc13 : mc m9 ⟨b2, 13, none⟩ = some (.slice EB lb cb) := hR.at_ (i := 13) rfl;have hw1 := uY (.mk 5 who n name cond thn els);refine tr 1 ?_;refine Lo 0 yO rfl hcp ?_;refine Cp jP rfl .k0 (fun m' hm he => wZ hp) ?_ ?_
 ·rintro _ _ ⟨h1, rfl⟩;exact pW hl2 ⟨.inr za, rfl⟩
 rintro _ _ ⟨hp1, rfl, rfl⟩;rw [fz zb];refine vr 5 ?_;refine Lo 0 ze rfl hc0 ?_;refine pe 0 (zA qn dO rfl rfl) ?_;refine Al 0 qn fun b3 => ?_;refine Sg 11 wF .here ?_;refine Lo 6 ze rfl hc0 ?_;refine zH 5 ?_;refine zH 6 ?_;refine zH 6 ?_;refine zH 6 ?_;refine xf 6 ?_;refine Lo 1 yO rfl hcp ?_;refine La 0 zT haN ?_
 refine Cp qz rfl .k1 (fun m' hm he => iN m' hm (p + 1) d hp1 hd) ?_ ?_
 ·rintro _ _ ⟨h3, rfl⟩;exact pW hl2 ⟨h3.imp (jz zb) (fun h => by omega), rfl⟩
 rintro _ _ ⟨v, h3, h4, rfl, rfl⟩;have hvl := ui h3 h4;by_cases hwho : who = 0
 rotate_left
 ·refine Ps 5 ?_;refine La 1 zT haN ?_;refine zg (yu zT rfl rfl rfl .h1 (.there (.there (.cons (.cons (.cons (.cons .nil)))))) rfl ?_) rfl;refine vr 6 ?_;refine Lo 1 ze rfl hc1 ?_;refine Lb 0 ze .h1 ?_;refine zF 23 ?_;refine Cn ye rfl zq ?_ ?_
  ·rintro _ _ ⟨h1, rfl⟩;exact pW hl2 ⟨.inl (eS zb hwho), rfl⟩
  rintro _ _ ⟨h1, rfl, rfl⟩;cases h1
 subst hwho;by_cases hname : name = []
 rotate_left
 ·refine Ps 5 ?_;refine La 1 zT haN ?_;refine zg (yu zT rfl rfl rfl .h1 (.there (.there (.cons (.cons (.cons (.cons .nil)))))) rfl ?_) rfl;refine vr 6 ?_;refine Lo 1 ze rfl hc1 ?_;refine Lb 0 ze .h1 ?_;refine xf 2 ?_;refine Lo 1 yI rfl hc6 ?_;refine Lb 0 yI .h1 ?_;refine zF 17 ?_;refine Cn ye rfl zq ?_ ?_
  ·rintro _ _ ⟨h1, rfl⟩;exact pW hl2 ⟨.inl (qa zb zb hname), rfl⟩
  rintro _ _ ⟨h1, rfl, rfl⟩;cases h1
 subst hname;by_cases hle : la + lb = 0
 rotate_left
 ·have hnb : ¬ xS cond thn els := fun h => hle (by have := h.2; omega);refine Ps 5 ?_;refine La 1 zT haN ?_;refine zg (yu zT rfl rfl rfl .h1 (.there (.there (.cons (.cons (.cons (.cons .nil)))))) rfl ?_) rfl;refine vr 6 ?_;refine Lo 1 ze rfl hc1 ?_;refine Lb 0 ze .h1 ?_;refine xf 2 ?_;refine Lo 1 yI rfl hc6 ?_;refine Lb 0 yI .h1 ?_;refine xf 3 ?_
  refine Lo 2 y8 rfl hc12 ?_;refine Lo 1 y8 rfl hc13 ?_;refine pe 0 (xK rfl rfl za) ?_;refine zH 7 ?_;refine Cn ye rfl zq ?_ ?_
  ·rintro _ _ ⟨h1, rfl⟩;exact pW hl2 ⟨.inl (xy zb hnb), rfl⟩
  rintro _ _ ⟨h1, rfl, rfl⟩;cases h1
 refine Ps 5 ?_;refine La 1 zT haN ?_;refine zg (yu zT rfl rfl rfl .h1 (.there (.there (.cons (.cons (.cons (.cons .nil)))))) rfl ?_) rfl;refine vr 6 ?_;refine Lo 1 ze rfl hc1 ?_;refine Lb 0 ze .h1 ?_;refine xf 2 ?_;refine Lo 1 yI rfl hc6 ?_;refine Lb 0 yI .h1 ?_;refine xf 3 ?_;refine Lo 2 y8 rfl hc12 ?_;refine Lo 1 y8 rfl hc13 ?_
 refine pe 0 (xK rfl rfl za) ?_;refine y4 2 ?_;refine pe 1 (zA uw da rfl rfl) ?_;refine La 0 xP haC ?_;refine Cr f3 rfl (fun m' hm he => (u9 hc)) ?_;rintro _ rfl;cases hzc : kX cond with
 | false =>
   have hnb : ¬ xS cond thn els := fun h => absurd (hzc.symm.trans h.1) zb;refine vr 1 ?_;refine Cn ye rfl zq ?_ ?_
   ·rintro _ _ ⟨h1, rfl⟩;exact pW hl2 ⟨.inl (xy zb hnb), rfl⟩
   rintro _ _ ⟨h1, rfl, rfl⟩;cases h1
 | true =>
   have hbr : xS cond thn els := ⟨hzc, by omega⟩;refine vr 1 ?_;refine Cn ye rfl zq ?_ ?_
   ·rintro _ _ ⟨h1, rfl⟩;exact absurd rfl h1
   rintro _ _ ⟨h1, rfl, rfl⟩;refine vr 6 ?_;refine Lo 0 ze rfl hc0 ?_;refine zH 2 ?_;refine Lo 0 ze rfl hc0 ?_;refine zH 3 ?_;refine Lo 0 ze rfl hc0 ?_;refine zH 9 ?_;refine Ps 4 ?_;rw [show p + 1 + zV n = p + (1 + zV n) by omega]
   exact z6 hl2 [_] zj [_] .p0 ⟨YY ++ vy ++ v ++ yg, by rw [Yw hbr, h3]; rfl, by omega, congrArg (fun t => Value.string (bs t)) yA, rfl⟩
end
section
open Wd Tp Kd
variable {m : Mp} {b d p : Nat}
variable {EB TA cA cB : Oa} {ca cb cca ccb cla clb : Nat} {cname : Bt} {cond : zI} {cop cwho : Int} {els : List zW} {la lb : Nat} {n : zY} {nA : Oa} {name : Bt} {nc nl : Nat} {nn nop nwho op : Int} {thn : List zW} {who : Int}
theorem GA (hT : qB m) (hU : xU m) (hn : xr m (n4 nop nn nwho nA nl nc) n) (hc : yP m (c5 cop cwho cname cA cla cca cB clb ccb) cond) (hcs : uv cond) (hnm : name.length <= 140737488355328) (hla : thn.length = la) (hlb : els.length = lb) (hla2 : la <= 140737488355328) (hlb2 : lb <= 140737488355328) (hbt : vx m b TA la ca thn) (hbe : vx m b EB lb cb els) (hop : op = 4) : fJ m b (Vq op who nop nn nwho nA nl nc name cop cwho cname cA cla cca cB clb ccb TA la ca EB lb cb) (.mk op who n name cond thn els) := by
 subst hop;intro m0 hm0 p d hp hd;skip;refine ym [.tmp 4] Tryz.func103 rfl rfl rfl ?_;refine tr 2 ?_;refine Bx 0 rfl fun b1 => ?_;refine Bx 4 rfl fun b2 => ?_;refine zG .here (fun ns hi _ hd1 => ?_);refine zG .here (fun ns2 hi2 _ hd2 => ?_)
 have hR : Rd (yj (yj m0 ns) ns2) (some ⟨b2, 0, none⟩) (Vq 4 who nop nn nwho nA nl nc name cop cwho cname cA cla cca cB clb ccb TA la ca EB lb cb) := ((Rd.blk hi).mono (yq hd1)).mono (zU _ _);have haN : At (yj (yj m0 ns) ns2) ⟨b2, 2, none⟩ (n4 nop nn nwho nA nl nc) := ((At.blkO (o := 2) (k := 4) hi).mono (yq hd1)).mono (zU _ _)
 have haC : At (yj (yj m0 ns) ns2) ⟨b2, 7, none⟩ (c5 cop cwho cname cA cla cca cB clb ccb) := ((At.blkO (o := 7) (k := 5) hi).mono (yq hd1)).mono (zU _ _);have hR1 : Rd (yj (yj m0 ns) ns2) (some ⟨b1, 0, none⟩) [zS b] := (Rd.blk hi2).mono (yq hd2);have hl2 : Le m0 (yj (yj m0 ns) ns2) := (zU _ _).trans (zU _ _);clear hi hd1 hi2 hd2
 generalize yj (yj m0 ns) ns2 = m9 at hR hR1 hl2 haN haC;have hl9 := hm0.trans hl2;have hT := hT.mono hl9;have hU := hU.mono hl9;have hn := hn.mono hl9;have hc := hc.mono hl9;have hbt := hbt.mono hl9;have hbe := hbe.mono hl9;have iN : vP m9 b _ n := jb (b := b) hT hn;have iC : xg m9 b _ cond := kU (b := b) hT hU hc hcs
 have hcp : mc m9 ⟨b1, 0, none⟩ = some (zS b) := hR1.at_ (i := 0) rfl;have hc0 : mc m9 ⟨b2, 0, none⟩ = some (.int .i8 4) := hR.at_ (i := 0) rfl;have hc1 : mc m9 ⟨b2, 1, none⟩ = some (.int .i8 who) := hR.at_ (i := 1) rfl;have hc6 : mc m9 ⟨b2, 6, none⟩ = some (.string (bs name)) := hR.at_ (i := 6) rfl;have hc12 : mc m9 ⟨b2, 12, none⟩ = some (.slice TA la ca) := hR.at_ (i := 12) rfl
 have hc13 : mc m9 ⟨b2, 13, none⟩ = some (.slice EB lb cb) := hR.at_ (i := 13) rfl;have hw1 := uY (.mk 4 who n name cond thn els);refine tr 1 ?_;refine Lo 0 yO rfl hcp ?_;refine Cp jP rfl .k0 (fun m' hm he => wZ hp) ?_ ?_
 ·rintro _ _ ⟨h1, rfl⟩;exact pW hl2 ⟨.inr za, rfl⟩
 rintro _ _ ⟨hp1, rfl, rfl⟩;rw [eR zb zb];refine vr 5 ?_;refine Lo 0 ze rfl hc0 ?_;refine pe 0 (zA qn dO rfl rfl) ?_;refine Al 0 qn fun b3 => ?_;refine Sg 11 wF .here ?_;refine Lo 6 ze rfl hc0 ?_;refine zH 5 ?_;refine zH 6 ?_;refine zH 6 ?_;refine zH 6 ?_;refine zH 6 ?_;refine xf 7 ?_;refine Lo 0 ze rfl hc1 ?_;refine Cn dp rfl kO ?_ ?_
 ·rintro _ _ ⟨h1, rfl⟩;exact pW hl2 ⟨.inl (aT zb h1), rfl⟩
 rintro _ _ ⟨u, hu, rfl, rfl⟩;have hul := wd hu;by_cases hname : name = []
 rotate_left
 ·refine Ps 5 ?_;refine Lo 1 ze rfl hc1 ?_;refine Sr 6 qy .here .h1 ?_;refine Lo 1 ze rfl hc1 ?_;refine Lb 0 ze .here ?_;refine xf 2 ?_;refine Lo 1 yI rfl hc6 ?_;refine Lb 0 yI .here ?_;refine zF 17 ?_;refine Cn ye rfl zq ?_ ?_
  ·rintro _ _ ⟨h1, rfl⟩;exact pW hl2 ⟨.inl (qa zb zb hname), rfl⟩
  rintro _ _ ⟨h1, rfl, rfl⟩;cases h1
 subst hname;by_cases hle : la + lb = 0
 rotate_left
 ·have hnb : ¬ xS cond thn els := fun h => hle (by have := h.2; omega);refine Ps 5 ?_;refine Lo 1 ze rfl hc1 ?_;refine Sr 6 qy .here .h1 ?_;refine Lo 1 ze rfl hc1 ?_;refine Lb 0 ze .here ?_;refine xf 2 ?_;refine Lo 1 yI rfl hc6 ?_;refine Lb 0 yI .here ?_;refine xf 3 ?_;refine Lo 2 y8 rfl hc12 ?_;refine Lo 1 y8 rfl hc13 ?_;refine pe 0 (xK rfl rfl za) ?_;refine zH 7 ?_
  refine Cn ye rfl zq ?_ ?_
  ·rintro _ _ ⟨h1, rfl⟩;exact pW hl2 ⟨.inl (xy zb hnb), rfl⟩
  rintro _ _ ⟨h1, rfl, rfl⟩;cases h1
 refine Ps 5 ?_;refine Lo 1 ze rfl hc1 ?_;refine Sr 6 qy .here .h1 ?_;refine Lo 1 ze rfl hc1 ?_;refine Lb 0 ze .here ?_;refine xf 2 ?_;refine Lo 1 yI rfl hc6 ?_;refine Lb 0 yI .here ?_;refine xf 3 ?_;refine Lo 2 y8 rfl hc12 ?_;refine Lo 1 y8 rfl hc13 ?_;refine pe 0 (xK rfl rfl za) ?_;refine y4 2 ?_;refine pe 1 (zA uw da rfl rfl) ?_;refine La 0 xP haC ?_
 refine Cr f3 rfl (fun m' hm he => (u9 hc)) ?_;rintro _ rfl;cases hzc : kX cond with
 | false =>
   have hnb : ¬ xS cond thn els := fun h => absurd (hzc.symm.trans h.1) zb;refine vr 1 ?_;refine Cn ye rfl zq ?_ ?_
   ·rintro _ _ ⟨h1, rfl⟩;exact pW hl2 ⟨.inl (xy zb hnb), rfl⟩
   rintro _ _ ⟨h1, rfl, rfl⟩;cases h1
 | true =>
   have hbr : xS cond thn els := ⟨hzc, by omega⟩;refine vr 1 ?_;refine Cn ye rfl zq ?_ ?_
   ·rintro _ _ ⟨h1, rfl⟩;exact absurd rfl h1
   rintro _ _ ⟨h1, rfl, rfl⟩;refine vr 6 ?_;refine Lo 0 ze rfl hc0 ?_;refine xf 15 ?_;refine La 0 zT haN ?_;refine pe 0 (zA gr VB rfl rfl) ?_;refine Cr f3 rfl (fun m' hm he => (bz hn)) ?_;rintro _ rfl;cases hzn : ux n with
   | false =>
     skip;refine Cn ye rfl zq ?_ ?_
     ·rintro _ _ ⟨h1, rfl⟩;exact pW hl2 ⟨.inl (eT zb hzn), rfl⟩
     rintro _ _ ⟨h1, rfl, rfl⟩;cases h1
   | true =>
     skip;refine Cn ye rfl zq ?_ ?_
     ·rintro _ _ ⟨h1, rfl⟩;exact absurd rfl h1
     rintro _ _ ⟨h1, rfl, rfl⟩;refine vr 5 ?_;refine Ps 4 ?_;exact z6 hl2 [_] zj [_] .p1 ⟨Y2 ++ vy ++ u ++ yg, by rw [Yz hbr hzn, hu]; rfl, by omega, congrArg (fun t => Value.string (bs t)) yA, rfl⟩
theorem Gu (hT : qB m) (hU : xU m) (hn : xr m (n4 nop nn nwho nA nl nc) n) (hc : yP m (c5 cop cwho cname cA cla cca cB clb ccb) cond) (hcs : uv cond) (hnm : name.length <= 140737488355328) (hla : thn.length = la) (hlb : els.length = lb) (hla2 : la <= 140737488355328) (hlb2 : lb <= 140737488355328) (hbt : vx m b TA la ca thn) (hbe : vx m b EB lb cb els) (hop : op = 6) : fJ m b (Vq op who nop nn nwho nA nl nc name cop cwho cname cA cla cca cB clb ccb TA la ca EB lb cb) (.mk op who n name cond thn els) := by
 subst hop;intro m0 hm0 p d hp hd;skip;refine ym [.tmp 4] Tryz.func103 rfl rfl rfl ?_;refine tr 2 ?_;refine Bx 0 rfl fun b1 => ?_;refine Bx 4 rfl fun b2 => ?_;refine zG .here (fun ns hi _ hd1 => ?_);refine zG .here (fun ns2 hi2 _ hd2 => ?_)
 have hR : Rd (yj (yj m0 ns) ns2) (some ⟨b2, 0, none⟩) (Vq 6 who nop nn nwho nA nl nc name cop cwho cname cA cla cca cB clb ccb TA la ca EB lb cb) := ((Rd.blk hi).mono (yq hd1)).mono (zU _ _);have haN : At (yj (yj m0 ns) ns2) ⟨b2, 2, none⟩ (n4 nop nn nwho nA nl nc) := ((At.blkO (o := 2) (k := 4) hi).mono (yq hd1)).mono (zU _ _)
 have haC : At (yj (yj m0 ns) ns2) ⟨b2, 7, none⟩ (c5 cop cwho cname cA cla cca cB clb ccb) := ((At.blkO (o := 7) (k := 5) hi).mono (yq hd1)).mono (zU _ _);have hR1 : Rd (yj (yj m0 ns) ns2) (some ⟨b1, 0, none⟩) [zS b] := (Rd.blk hi2).mono (yq hd2);have hl2 : Le m0 (yj (yj m0 ns) ns2) := (zU _ _).trans (zU _ _);clear hi hd1 hi2 hd2
 generalize yj (yj m0 ns) ns2 = m9 at hR hR1 hl2 haN haC;have hl9 := hm0.trans hl2;have hT := hT.mono hl9;have hU := hU.mono hl9;have hn := hn.mono hl9;have hc := hc.mono hl9;have hbt := hbt.mono hl9;have hbe := hbe.mono hl9;have iN : vP m9 b _ n := jb (b := b) hT hn;have iC : xg m9 b _ cond := kU (b := b) hT hU hc hcs
 have hcp : mc m9 ⟨b1, 0, none⟩ = some (zS b) := hR1.at_ (i := 0) rfl;have hc0 : mc m9 ⟨b2, 0, none⟩ = some (.int .i8 6) := hR.at_ (i := 0) rfl;have hc1 : mc m9 ⟨b2, 1, none⟩ = some (.int .i8 who) := hR.at_ (i := 1) rfl;have hc6 : mc m9 ⟨b2, 6, none⟩ = some (.string (bs name)) := hR.at_ (i := 6) rfl;have hc12 : mc m9 ⟨b2, 12, none⟩ = some (.slice TA la ca) := hR.at_ (i := 12) rfl
 have hc13 : mc m9 ⟨b2, 13, none⟩ = some (.slice EB lb cb) := hR.at_ (i := 13) rfl;have hw1 := uY (.mk 6 who n name cond thn els);refine tr 1 ?_;refine Lo 0 yO rfl hcp ?_;refine Cp jP rfl .k0 (fun m' hm he => wZ hp) ?_ ?_
 ·rintro _ _ ⟨h1, rfl⟩;exact pW hl2 ⟨.inr za, rfl⟩
 rintro _ _ ⟨hp1, rfl, rfl⟩;rw [eR zb zb];refine vr 5 ?_;refine Lo 0 ze rfl hc0 ?_;refine pe 0 (zA qn dO rfl rfl) ?_;refine Al 0 qn fun b3 => ?_;refine Sg 11 wF .here ?_;refine Lo 6 ze rfl hc0 ?_;refine zH 5 ?_;refine zH 6 ?_;refine zH 6 ?_;refine zH 6 ?_;refine zH 6 ?_;refine zH 6 ?_;refine xf 7 ?_;refine Lo 0 ze rfl hc1 ?_
 refine Cn dp rfl kO ?_ ?_
 ·rintro _ _ ⟨h1, rfl⟩;exact pW hl2 ⟨.inl (aT zb h1), rfl⟩
 rintro _ _ ⟨u, hu, rfl, rfl⟩;have hul := wd hu;by_cases hname : name = []
 rotate_left
 ·refine Ps 5 ?_;refine Lo 1 ze rfl hc1 ?_;refine Sr 6 qy .here .h1 ?_;refine Lo 1 ze rfl hc1 ?_;refine Lb 0 ze .here ?_;refine xf 2 ?_;refine Lo 1 yI rfl hc6 ?_;refine Lb 0 yI .here ?_;refine zF 17 ?_;refine Cn ye rfl zq ?_ ?_
  ·rintro _ _ ⟨h1, rfl⟩;exact pW hl2 ⟨.inl (qa zb zb hname), rfl⟩
  rintro _ _ ⟨h1, rfl, rfl⟩;cases h1
 subst hname;by_cases hle : la + lb = 0
 rotate_left
 ·have hnb : ¬ xS cond thn els := fun h => hle (by have := h.2; omega);refine Ps 5 ?_;refine Lo 1 ze rfl hc1 ?_;refine Sr 6 qy .here .h1 ?_;refine Lo 1 ze rfl hc1 ?_;refine Lb 0 ze .here ?_;refine xf 2 ?_;refine Lo 1 yI rfl hc6 ?_;refine Lb 0 yI .here ?_;refine xf 3 ?_;refine Lo 2 y8 rfl hc12 ?_;refine Lo 1 y8 rfl hc13 ?_;refine pe 0 (xK rfl rfl za) ?_;refine zH 7 ?_
  refine Cn ye rfl zq ?_ ?_
  ·rintro _ _ ⟨h1, rfl⟩;exact pW hl2 ⟨.inl (xy zb hnb), rfl⟩
  rintro _ _ ⟨h1, rfl, rfl⟩;cases h1
 refine Ps 5 ?_;refine Lo 1 ze rfl hc1 ?_;refine Sr 6 qy .here .h1 ?_;refine Lo 1 ze rfl hc1 ?_;refine Lb 0 ze .here ?_;refine xf 2 ?_;refine Lo 1 yI rfl hc6 ?_;refine Lb 0 yI .here ?_;refine xf 3 ?_;refine Lo 2 y8 rfl hc12 ?_;refine Lo 1 y8 rfl hc13 ?_;refine pe 0 (xK rfl rfl za) ?_;refine y4 2 ?_;refine pe 1 (zA uw da rfl rfl) ?_;refine La 0 xP haC ?_
 refine Cr f3 rfl (fun m' hm he => (u9 hc)) ?_;rintro _ rfl;cases hzc : kX cond with
 | false =>
   have hnb : ¬ xS cond thn els := fun h => absurd (hzc.symm.trans h.1) zb;refine vr 1 ?_;refine Cn ye rfl zq ?_ ?_
   ·rintro _ _ ⟨h1, rfl⟩;exact pW hl2 ⟨.inl (xy zb hnb), rfl⟩
   rintro _ _ ⟨h1, rfl, rfl⟩;cases h1
 | true =>
   have hbr : xS cond thn els := ⟨hzc, by omega⟩;refine vr 1 ?_;refine Cn ye rfl zq ?_ ?_
   ·rintro _ _ ⟨h1, rfl⟩;exact absurd rfl h1
   rintro _ _ ⟨h1, rfl, rfl⟩;refine vr 6 ?_;refine Lo 0 ze rfl hc0 ?_;refine zH 2 ?_;refine Lo 0 ze rfl hc0 ?_;refine xf 11 ?_;refine La 0 zT haN ?_;refine pe 0 (zA gr VB rfl rfl) ?_;refine Cr f3 rfl (fun m' hm he => (bz hn)) ?_;rintro _ rfl;cases hzn : ux n with
   | false =>
     skip;refine Cn ye rfl zq ?_ ?_
     ·rintro _ _ ⟨h1, rfl⟩;exact pW hl2 ⟨.inl (eT zb hzn), rfl⟩
     rintro _ _ ⟨h1, rfl, rfl⟩;cases h1
   | true =>
     skip;refine Cn ye rfl zq ?_ ?_
     ·rintro _ _ ⟨h1, rfl⟩;exact absurd rfl h1
     rintro _ _ ⟨h1, rfl, rfl⟩;refine vr 5 ?_;refine Ps 4 ?_;exact z6 hl2 [_] zj [_] .p1 ⟨YX ++ vy ++ u ++ yg, by rw [Yv hbr hzn, hu]; rfl, by omega, congrArg (fun t => Value.string (bs t)) yA, rfl⟩
end
section
open Wd Tp Kd
variable {m : Mp} {b d p : Nat}
theorem U7 (hT : qB m) (hU : xU m) {op who nop nn nwho : Int} {nA : Oa} {nl nc : Nat} {name : Bt} {cop cwho : Int} {cname : Bt} {cA : Oa} {cla cca : Nat} {cB : Oa} {clb ccb : Nat} {TA : Oa} {la ca : Nat} {EB : Oa} {lb cb : Nat} {n : zY} {cond : zI} {thn els : List zW}
  (hn : xr m (n4 nop nn nwho nA nl nc) n) (hc : yP m (c5 cop cwho cname cA cla cca cB clb ccb) cond) (hcs : uv cond) (hnm : name.length <= 140737488355328) (hla : thn.length = la) (hlb : els.length = lb) (hla2 : la <= 140737488355328) (hlb2 : lb <= 140737488355328)
  (hbt : vx m b TA la ca thn) (hbe : vx m b EB lb cb els) (hop : op = 7) : fJ m b (Vq op who nop nn nwho nA nl nc name cop cwho cname cA cla cca cB clb ccb TA la ca EB lb cb) (.mk op who n name cond thn els) := by
 subst hop;intro m0 hm0 p d hp hd;skip;refine ym [.tmp 4] Tryz.func103 rfl rfl rfl ?_;refine tr 2 ?_;refine Bx 0 rfl fun b1 => ?_;refine Bx 4 rfl fun b2 => ?_;refine zG .here (fun ns hi _ hd1 => ?_);refine zG .here (fun ns2 hi2 _ hd2 => ?_)
 have hR : Rd (yj (yj m0 ns) ns2) (some ⟨b2, 0, none⟩) (Vq 7 who nop nn nwho nA nl nc name cop cwho cname cA cla cca cB clb ccb TA la ca EB lb cb) := ((Rd.blk hi).mono (yq hd1)).mono (zU _ _);have haN : At (yj (yj m0 ns) ns2) ⟨b2, 2, none⟩ (n4 nop nn nwho nA nl nc) := ((At.blkO (o := 2) (k := 4) hi).mono (yq hd1)).mono (zU _ _)
 have haC : At (yj (yj m0 ns) ns2) ⟨b2, 7, none⟩ (c5 cop cwho cname cA cla cca cB clb ccb) := ((At.blkO (o := 7) (k := 5) hi).mono (yq hd1)).mono (zU _ _);have hR1 : Rd (yj (yj m0 ns) ns2) (some ⟨b1, 0, none⟩) [zS b] := (Rd.blk hi2).mono (yq hd2);have hl2 : Le m0 (yj (yj m0 ns) ns2) := (zU _ _).trans (zU _ _);clear hi hd1 hi2 hd2
 generalize yj (yj m0 ns) ns2 = m9 at hR hR1 hl2 haN haC;have hl9 := hm0.trans hl2;have hT := hT.mono hl9;have hU := hU.mono hl9;have hn := hn.mono hl9;have hc := hc.mono hl9;have hbt := hbt.mono hl9;have hbe := hbe.mono hl9;have iN : vP m9 b _ n := jb (b := b) hT hn;have iC : xg m9 b _ cond := kU (b := b) hT hU hc hcs
 have hcp : mc m9 ⟨b1, 0, none⟩ = some (zS b) := hR1.at_ (i := 0) rfl;have hc0 : mc m9 ⟨b2, 0, none⟩ = some (.int .i8 7) := hR.at_ (i := 0) rfl;have hc1 : mc m9 ⟨b2, 1, none⟩ = some (.int .i8 who) := hR.at_ (i := 1) rfl;have hc6 : mc m9 ⟨b2, 6, none⟩ = some (.string (bs name)) := hR.at_ (i := 6) rfl;have hc12 : mc m9 ⟨b2, 12, none⟩ = some (.slice TA la ca) := hR.at_ (i := 12) rfl
 have hc13 : mc m9 ⟨b2, 13, none⟩ = some (.slice EB lb cb) := hR.at_ (i := 13) rfl;have hw1 := uY (.mk 7 who n name cond thn els);refine tr 1 ?_;refine Lo 0 yO rfl hcp ?_;refine Cp jP rfl .k0 (fun m' hm he => wZ hp) ?_ ?_
 ·rintro _ _ ⟨h1, rfl⟩;exact pW hl2 ⟨.inr za, rfl⟩
 rintro _ _ ⟨hp1, rfl, rfl⟩;rw [eR zb zb];refine vr 5 ?_;refine Lo 0 ze rfl hc0 ?_;refine pe 0 (zA qn dO rfl rfl) ?_;refine Al 0 qn fun b3 => ?_;refine Sg 11 wF .here ?_;refine Lo 6 ze rfl hc0 ?_;refine zH 5 ?_;refine zH 6 ?_;refine zH 6 ?_;refine zH 6 ?_;refine zH 6 ?_;refine zH 6 ?_;refine zH 6 ?_;refine xf 7 ?_;refine Lo 0 yI rfl hc6 ?_
 refine Cr YH rfl (fun m' hm he => (qU (hU.mono hm) hnm)) ?_;rintro _ rfl;cases hnp : yL name with
 | false =>
   skip;refine Cn ye rfl zq ?_ ?_
   ·rintro _ _ ⟨h1, rfl⟩;exact pW hl2 ⟨.inl (Xf hnp), rfl⟩
   rintro _ _ ⟨h1, rfl, rfl⟩;cases h1
 | true =>
   have hn40 := xG hnp;skip;refine Cn ye rfl zq ?_ ?_
   ·rintro _ _ ⟨h1, rfl⟩;exact absurd rfl h1
   rintro _ _ ⟨h1, rfl, rfl⟩;by_cases hwho : who = 0
   rotate_left
   ·refine vr 5 ?_;refine Lo 0 yI rfl hc6 ?_;refine Ps 5 ?_;refine Lo 1 yI rfl hc6 ?_;refine Sr 6 Pm .here .h6 ?_;refine Lo 1 ze rfl hc1 ?_;refine Lb 0 ze .here ?_;refine zF 23 ?_;refine Cn ye rfl zq ?_ ?_
    ·rintro _ _ ⟨h1, rfl⟩;exact pW hl2 ⟨.inl (eS zb hwho), rfl⟩
    rintro _ _ ⟨h1, rfl, rfl⟩;cases h1
   subst hwho;by_cases hle : la + lb = 0
   rotate_left
   ·have hnb : ¬ xS cond thn els := fun h => hle (by have := h.2; omega);refine vr 5 ?_;refine Lo 0 yI rfl hc6 ?_;refine Ps 5 ?_;refine Lo 1 yI rfl hc6 ?_;refine Sr 6 Pm .here .h6 ?_;refine Lo 1 ze rfl hc1 ?_;refine Lb 0 ze .here ?_;refine xf 2 ?_;refine Lo 1 yI rfl hc6 ?_;refine Lb 0 yI .here ?_;refine xf 3 ?_;refine Lo 2 y8 rfl hc12 ?_;refine Lo 1 y8 rfl hc13 ?_
    refine pe 0 (xK rfl rfl za) ?_;refine zH 7 ?_;refine Cn ye rfl zq ?_ ?_
    ·rintro _ _ ⟨h1, rfl⟩;exact pW hl2 ⟨.inl (xy zb hnb), rfl⟩
    rintro _ _ ⟨h1, rfl, rfl⟩;cases h1
   refine vr 5 ?_;refine Lo 0 yI rfl hc6 ?_;refine Ps 5 ?_;refine Lo 1 yI rfl hc6 ?_;refine Sr 6 Pm .here .h6 ?_;refine Lo 1 ze rfl hc1 ?_;refine Lb 0 ze .here ?_;refine xf 2 ?_;refine Lo 1 yI rfl hc6 ?_;refine Lb 0 yI .here ?_;refine xf 3 ?_;refine Lo 2 y8 rfl hc12 ?_;refine Lo 1 y8 rfl hc13 ?_;refine pe 0 (xK rfl rfl za) ?_;refine y4 2 ?_
   refine pe 1 (zA uw da rfl rfl) ?_;refine La 0 xP haC ?_;refine Cr f3 rfl (fun m' hm he => (u9 hc)) ?_;rintro _ rfl;cases hzc : kX cond with
   | false =>
     have hnb : ¬ xS cond thn els := fun h => absurd (hzc.symm.trans h.1) zb;refine vr 1 ?_;refine Cn ye rfl zq ?_ ?_
     ·rintro _ _ ⟨h1, rfl⟩;exact pW hl2 ⟨.inl (xy zb hnb), rfl⟩
     rintro _ _ ⟨h1, rfl, rfl⟩;cases h1
   | true =>
     have hbr : xS cond thn els := ⟨hzc, by omega⟩;refine vr 1 ?_;refine Cn ye rfl zq ?_ ?_
     ·rintro _ _ ⟨h1, rfl⟩;exact absurd rfl h1
     rintro _ _ ⟨h1, rfl, rfl⟩;refine vr 6 ?_;refine Lo 0 ze rfl hc0 ?_;refine zH 2 ?_;refine Lo 0 ze rfl hc0 ?_;refine zH 3 ?_;refine Lo 0 ze rfl hc0 ?_;refine xf 6 ?_;refine La 0 zT haN ?_;refine pe 0 (zA gr VB rfl rfl) ?_;refine Cr f3 rfl (fun m' hm he => (bz hn)) ?_;rintro _ rfl;cases hzn : ux n with
     | false =>
       skip;refine Cn ye rfl zq ?_ ?_
       ·rintro _ _ ⟨h1, rfl⟩;exact pW hl2 ⟨.inl (eT zb hzn), rfl⟩
       rintro _ _ ⟨h1, rfl, rfl⟩;cases h1
     | true =>
       skip;refine Cn ye rfl zq ?_ ?_
       ·rintro _ _ ⟨h1, rfl⟩;exact absurd rfl h1
       rintro _ _ ⟨h1, rfl, rfl⟩;refine vr 5 ?_;refine Ps 4 ?_;exact z6 hl2 [_] zj [_] .p1 ⟨jn ++ vy ++ name ++ yg, by rw [aS hbr hzn hnp], by omega, congrArg (fun t => Value.string (bs t)) yA, rfl⟩
end
section
open Wd Tp Kd
variable {m : Mp} {b d p : Nat}
variable {c : zI} {e t : List zW}
theorem NG (h : yx c d = none \/ 200 < p + zX c) : H3 c t e d = none \/ 200 < p + (zX c + yM t + yM e) := by
 rcases h with h | h
 ·left; unfold H3; rw [h]; rfl
 ·right; omega
theorem NF (h : vi t d = none \/ 200 < p + zX c + yM t) : H3 c t e d = none \/ 200 < p + (zX c + yM t + yM e) := by
 rcases h with h | h
 ·left; unfold H3; rw [h]; cases yx c d <;> rfl
 ·right; omega
theorem NE (h : vi e d = none \/ 200 < p + zX c + yM t + yM e) : H3 c t e d = none \/ 200 < p + (zX c + yM t + yM e) := by
 rcases h with h | h
 ·left; unfold H3; rw [h]; cases yx c d <;> cases vi t d <;> rfl
 ·right; omega
theorem TB {s u v : Bt} (h1 : yx c d = some s) (h2 : vi t d = some u) (h3 : vi e d = some v) : H3 c t e d = some (FJ s u v) := by unfold H3; rw [h1, h2, h3]; rfl
variable {EB TA cA cB : Oa} {ca cb cca ccb cla clb : Nat} {cname : Bt} {cond : zI} {cop cwho : Int} {els : List zW} {la lb : Nat} {nA : Oa} {name : Bt} {nc nl : Nat} {nn nop nwho op : Int} {thn : List zW} {who : Int}
theorem Eo {B1 B2 : Nat} (h1 : Rd m (some ⟨B1, 0, none⟩) [zS b]) (h2 : Rd m (some ⟨B2, 0, none⟩) (Vq op who nop nn nwho nA nl nc name cop cwho cname cA cla cca cB clb ccb TA la ca EB lb cb)) (haC : At m ⟨B2, 7, none⟩ (c5 cop cwho cname cA cla cca cB clb ccb)) (iC : xg m b (c5 cop cwho cname cA cla cca cB clb ccb) cond) (hbt : vx m b TA la ca thn) (hbe : vx m b EB lb cb els) (hp : p <= 200) (hd : d <= 8) :
  Ih 135 [zS B1, zS B2] m b p d (H3 cond thn els d) (zX cond + yM thn + yM els) := by
 have hcp : mc m ⟨B1, 0, none⟩ = some (zS b) := h1.at_ (i := 0) rfl;have hc12 : mc m ⟨B2, 12, none⟩ = some (.slice TA la ca) := h2.at_ (i := 12) rfl;have hc13 : mc m ⟨B2, 13, none⟩ = some (.slice EB lb cb) := h2.at_ (i := 13) rfl;refine ym [.tmp 2] Tryz.func135 rfl rfl rfl ?_;refine tr 7 ?_;refine Lo 1 yO rfl hcp ?_;refine La 0 xP haC ?_
 refine Cp Oi rfl .k0 (fun m' hm he => iC m' hm p d hp hd) ?_ ?_
 ·rintro _ _ ⟨g1, rfl⟩;exact pn ⟨NG g1, rfl⟩
 rintro _ _ ⟨s, g1, g2, rfl, rfl⟩;have hsl := SF g1 g2;refine Ps 6 ?_;refine Lo 1 yO rfl hcp ?_;refine Lo 0 y8 rfl hc12 ?_;refine Cp W2 rfl .k0 (fun m' hm he => hbt m' hm (p + zX cond) d g2 hd) ?_ ?_
 ·rintro _ _ ⟨g3, rfl⟩;exact pn ⟨NF g3, rfl⟩
 rintro _ _ ⟨u, g3, g4, rfl, rfl⟩;have hul := wy g3
 iterate 3 (refine Q4 (Ik rfl rfl xz) rfl rfl rfl ?_)
 refine vr 6 ?_;refine Ps 0 ?_;refine Lo 1 yO rfl hcp ?_;refine Lo 0 y8 rfl hc13 ?_;refine Cp W2 rfl .k0 (fun m' hm he => hbe m' hm (p + zX cond + yM thn) d g4 hd) ?_ ?_
 ·rintro _ _ ⟨g5, rfl⟩;exact pn ⟨NE g5, rfl⟩
 rintro _ _ ⟨v, g5, g6, rfl, rfl⟩;have hvl := wy g5;refine Ps 0 ?_;refine Ps 4 ?_;rw [show p + zX cond + yM thn + yM els = p + (zX cond + yM thn + yM els) by omega];exact yp [_] zj [_] .p0 ⟨FJ s u v, TB g1 g3 g5, by omega, congrArg (fun t => Value.string (bs t)) (by simp [FJ]), rfl⟩
variable {n : zY}
theorem MY (hT : qB m) (hU : xU m) (hn : xr m (n4 nop nn nwho nA nl nc) n) (hc : yP m (c5 cop cwho cname cA cla cca cB clb ccb) cond) (hcs : uv cond) (hnm : name.length <= 140737488355328) (hla : thn.length = la) (hlb : els.length = lb) (hla2 : la <= 140737488355328) (hlb2 : lb <= 140737488355328) (hbt : vx m b TA la ca thn) (hbe : vx m b EB lb cb els) (hop : op = 8) : fJ m b (Vq op who nop nn nwho nA nl nc name cop cwho cname cA cla cca cB clb ccb TA la ca EB lb cb) (.mk op who n name cond thn els) := by
 subst hop;intro m0 hm0 p d hp hd;skip;refine ym [.tmp 4] Tryz.func103 rfl rfl rfl ?_;refine tr 2 ?_;refine Bx 0 rfl fun b1 => ?_;refine Bx 4 rfl fun b2 => ?_;refine zG .here (fun ns hi _ hd1 => ?_);refine zG .here (fun ns2 hi2 _ hd2 => ?_)
 have hR : Rd (yj (yj m0 ns) ns2) (some ⟨b2, 0, none⟩) (Vq 8 who nop nn nwho nA nl nc name cop cwho cname cA cla cca cB clb ccb TA la ca EB lb cb) := ((Rd.blk hi).mono (yq hd1)).mono (zU _ _);have haN : At (yj (yj m0 ns) ns2) ⟨b2, 2, none⟩ (n4 nop nn nwho nA nl nc) := ((At.blkO (o := 2) (k := 4) hi).mono (yq hd1)).mono (zU _ _)
 have haC : At (yj (yj m0 ns) ns2) ⟨b2, 7, none⟩ (c5 cop cwho cname cA cla cca cB clb ccb) := ((At.blkO (o := 7) (k := 5) hi).mono (yq hd1)).mono (zU _ _);have hR1 : Rd (yj (yj m0 ns) ns2) (some ⟨b1, 0, none⟩) [zS b] := (Rd.blk hi2).mono (yq hd2);have hl2 : Le m0 (yj (yj m0 ns) ns2) := (zU _ _).trans (zU _ _);clear hi hd1 hi2 hd2
 generalize yj (yj m0 ns) ns2 = m9 at hR hR1 hl2 haN haC;have hl9 := hm0.trans hl2;have hT := hT.mono hl9;have hU := hU.mono hl9;have hn := hn.mono hl9;have hc := hc.mono hl9;have hbt := hbt.mono hl9;have hbe := hbe.mono hl9;have iN : vP m9 b _ n := jb (b := b) hT hn;have iC : xg m9 b _ cond := kU (b := b) hT hU hc hcs
 have hcp : mc m9 ⟨b1, 0, none⟩ = some (zS b) := hR1.at_ (i := 0) rfl;have hc0 : mc m9 ⟨b2, 0, none⟩ = some (.int .i8 8) := hR.at_ (i := 0) rfl;have hc1 : mc m9 ⟨b2, 1, none⟩ = some (.int .i8 who) := hR.at_ (i := 1) rfl;have hc6 : mc m9 ⟨b2, 6, none⟩ = some (.string (bs name)) := hR.at_ (i := 6) rfl;have hc12 : mc m9 ⟨b2, 12, none⟩ = some (.slice TA la ca) := hR.at_ (i := 12) rfl
 have hc13 : mc m9 ⟨b2, 13, none⟩ = some (.slice EB lb cb) := hR.at_ (i := 13) rfl;have hw1 := uY (.mk 8 who n name cond thn els);refine tr 1 ?_;refine Lo 0 yO rfl hcp ?_;refine Cp jP rfl .k0 (fun m' hm he => wZ hp) ?_ ?_
 ·rintro _ _ ⟨h1, rfl⟩;exact pW hl2 ⟨.inr za, rfl⟩
 rintro _ _ ⟨hp1, rfl, rfl⟩;rw [QG, QF];by_cases hwho : who = 0
 rotate_left
 ·rw [if_neg (fun h => hwho h.1)];refine vr 5 ?_;refine Lo 0 ze rfl hc0 ?_;refine pe 0 (zA qn dO rfl rfl) ?_;refine Al 0 qn fun b3 => ?_;refine Sg 11 wF .here ?_;refine Lo 6 ze rfl hc0 ?_;refine zH 5 ?_;refine zH 6 ?_;refine zH 6 ?_;refine zH 6 ?_;refine zH 6 ?_;refine zH 6 ?_;refine zH 6 ?_;refine zH 7 ?_;refine Lo 0 ze rfl hc0 ?_;refine xf 2 ?_
  refine Lo 0 ze rfl hc1 ?_;refine zF 12 ?_;refine Cn ye rfl zq ?_ ?_
  ·rintro _ _ ⟨h1, rfl⟩;exact pW hl2 ⟨.inl (rfl), rfl⟩
  rintro _ _ ⟨h1, rfl, rfl⟩;cases h1
 by_cases hname : name = []
 rotate_left
 ·rw [if_neg (fun h => hname h.2.1)];refine vr 5 ?_;refine Lo 0 ze rfl hc0 ?_;refine pe 0 (zA qn dO rfl rfl) ?_;refine Al 0 qn fun b3 => ?_;refine Sg 11 wF .here ?_;refine Lo 6 ze rfl hc0 ?_;refine zH 5 ?_;refine zH 6 ?_;refine zH 6 ?_;refine zH 6 ?_;refine zH 6 ?_;refine zH 6 ?_;refine zH 6 ?_;refine zH 7 ?_;refine Lo 0 ze rfl hc0 ?_;refine xf 2 ?_
  refine Lo 0 ze rfl hc1 ?_;refine yr 3 ?_;refine Lo 0 yI rfl hc6 ?_;refine zF 7 ?_;refine Cn ye rfl zq ?_ ?_
  ·rintro _ _ ⟨h1, rfl⟩;exact pW hl2 ⟨.inl (rfl), rfl⟩
  rintro _ _ ⟨h1, rfl, rfl⟩;cases h1
 subst hwho hname;refine vr 5 ?_;refine Lo 0 ze rfl hc0 ?_;refine pe 0 (zA qn dO rfl rfl) ?_;refine Al 0 qn fun b3 => ?_;refine Sg 11 wF .here ?_;refine Lo 6 ze rfl hc0 ?_;refine zH 5 ?_;refine zH 6 ?_;refine zH 6 ?_;refine zH 6 ?_;refine zH 6 ?_;refine zH 6 ?_;refine zH 6 ?_;refine zH 7 ?_;refine Lo 0 ze rfl hc0 ?_;refine xf 2 ?_;refine Lo 0 ze rfl hc1 ?_
 refine xf 3 ?_;refine Lo 0 yI rfl hc6 ?_;refine xf 3 ?_;refine La 0 zT haN ?_;refine pe 0 (zA gr VB rfl rfl) ?_;refine Cr f3 rfl (fun m' hm he => (bz hn)) ?_;rintro _ rfl;cases hzn : ux n with
 | false =>
   rw [if_neg (fun h => absurd h.2.2 zb)];refine vr 1 ?_;refine Cn ye rfl zq ?_ ?_
   ·rintro _ _ ⟨h1, rfl⟩;exact pW hl2 ⟨.inl (rfl), rfl⟩
   rintro _ _ ⟨h1, rfl, rfl⟩;cases h1
 | true =>
   rw [if_pos ⟨rfl, rfl, rfl⟩];refine vr 1 ?_;refine Cn ye rfl zq ?_ ?_
   ·rintro _ _ ⟨h1, rfl⟩;exact absurd rfl h1
   rintro _ _ ⟨h1, rfl, rfl⟩;refine vr 4 ?_;refine Lo 1 yO rfl hcp ?_;refine Cp KC rfl .k1 (fun m' hm he => eA (r := H3 cond thn els) (q := [zS b1, zS b2]) hd E4 (fun h8 m2 hm2 => Eo (hR1.mono (hm.trans hm2)) (hR.mono (hm.trans hm2)) (haC.mono (hm.trans hm2)) (iC.mono (hm.trans hm2)) (hbt.mono (hm.trans hm2)) (hbe.mono (hm.trans hm2)) hp1 h8)) ?_ ?_
   ·rintro _ _ ⟨h3, rfl⟩;exact pW hl2 ⟨h3.imp id (fun h => by omega), rfl⟩
   rintro _ _ ⟨t, h3, h4, rfl, rfl⟩;refine vr 6 ?_;rw [show p + 1 + (zX cond + yM thn + yM els) = p + (1 + (zX cond + yM thn + yM els)) by omega];exact z6 hl2 [_] zj [_] .p0 ⟨t, h3, by omega, rfl, rfl⟩
theorem Gz (hT : qB m) (hU : xU m) (hn : xr m (n4 nop nn nwho nA nl nc) n) (hc : yP m (c5 cop cwho cname cA cla cca cB clb ccb) cond) (hcs : uv cond) (hnm : name.length <= 140737488355328) (hla : thn.length = la) (hlb : els.length = lb) (hla2 : la <= 140737488355328) (hlb2 : lb <= 140737488355328) (hbt : vx m b TA la ca thn) (hbe : vx m b EB lb cb els) (hop : ¬ (0 <= op /\ op <= 8)) : fJ m b (Vq op who nop nn nwho nA nl nc name cop cwho cname cA cla cca cB clb ccb TA la ca EB lb cb) (.mk op who n name cond thn els) := by
 intro m0 hm0 p d hp hd;skip;refine ym [.tmp 4] Tryz.func103 rfl rfl rfl ?_;refine tr 2 ?_;refine Bx 0 rfl fun b1 => ?_;refine Bx 4 rfl fun b2 => ?_;refine zG .here (fun ns hi _ hd1 => ?_);refine zG .here (fun ns2 hi2 _ hd2 => ?_)
 have hR : Rd (yj (yj m0 ns) ns2) (some ⟨b2, 0, none⟩) (Vq op who nop nn nwho nA nl nc name cop cwho cname cA cla cca cB clb ccb TA la ca EB lb cb) := ((Rd.blk hi).mono (yq hd1)).mono (zU _ _);have haN : At (yj (yj m0 ns) ns2) ⟨b2, 2, none⟩ (n4 nop nn nwho nA nl nc) := ((At.blkO (o := 2) (k := 4) hi).mono (yq hd1)).mono (zU _ _)
 have haC : At (yj (yj m0 ns) ns2) ⟨b2, 7, none⟩ (c5 cop cwho cname cA cla cca cB clb ccb) := ((At.blkO (o := 7) (k := 5) hi).mono (yq hd1)).mono (zU _ _);have hR1 : Rd (yj (yj m0 ns) ns2) (some ⟨b1, 0, none⟩) [zS b] := (Rd.blk hi2).mono (yq hd2);have hl2 : Le m0 (yj (yj m0 ns) ns2) := (zU _ _).trans (zU _ _);clear hi hd1 hi2 hd2
 generalize yj (yj m0 ns) ns2 = m9 at hR hR1 hl2 haN haC;have hl9 := hm0.trans hl2;have hT := hT.mono hl9;have hU := hU.mono hl9;have hn := hn.mono hl9;have hc := hc.mono hl9;have hbt := hbt.mono hl9;have hbe := hbe.mono hl9;have iN : vP m9 b _ n := jb (b := b) hT hn;have iC : xg m9 b _ cond := kU (b := b) hT hU hc hcs
 have hcp : mc m9 ⟨b1, 0, none⟩ = some (zS b) := hR1.at_ (i := 0) rfl;have hc0 : mc m9 ⟨b2, 0, none⟩ = some (.int .i8 op) := hR.at_ (i := 0) rfl;have hc1 : mc m9 ⟨b2, 1, none⟩ = some (.int .i8 who) := hR.at_ (i := 1) rfl;have hc6 : mc m9 ⟨b2, 6, none⟩ = some (.string (bs name)) := hR.at_ (i := 6) rfl;have hc12 : mc m9 ⟨b2, 12, none⟩ = some (.slice TA la ca) := hR.at_ (i := 12) rfl
 have hc13 : mc m9 ⟨b2, 13, none⟩ = some (.slice EB lb cb) := hR.at_ (i := 13) rfl;have hw1 := uY (.mk op who n name cond thn els);refine tr 1 ?_;refine Lo 0 yO rfl hcp ?_;refine Cp jP rfl .k0 (fun m' hm he => wZ hp) ?_ ?_
 ·rintro _ _ ⟨h1, rfl⟩;exact pW hl2 ⟨.inr za, rfl⟩
 rintro _ _ ⟨hp1, rfl, rfl⟩;by_cases hneg : op < 0
 ·refine vr 5 ?_;refine Lo 0 ze rfl hc0 ?_;refine pe 0 (zA qn dO rfl rfl) ?_;refine Al 0 qn fun b3 => ?_;refine Sg 11 wF .here ?_;refine Lo 6 ze rfl hc0 ?_;refine zH 5 ?_;refine zH 6 ?_;refine zH 6 ?_;refine zH 6 ?_;refine zH 6 ?_;refine zH 6 ?_;refine zH 6 ?_;refine zH 7 ?_;refine Lo 0 ze rfl hc0 ?_;refine zH 16 ?_;refine Cn ye rfl zq ?_ ?_
  ·rintro _ _ ⟨h1, rfl⟩;exact pW hl2 ⟨.inl (Yy hop), rfl⟩
  rintro _ _ ⟨h1, rfl, rfl⟩;cases h1
 ·have hpos : 9 <= op := by omega
  refine vr 5 ?_;refine Lo 0 ze rfl hc0 ?_;refine pe 0 (zA qn dO rfl rfl) ?_;refine Al 0 qn fun b3 => ?_;refine Sg 11 wF .here ?_;refine Lo 6 ze rfl hc0 ?_;refine zH 5 ?_;refine zH 6 ?_;refine zH 6 ?_;refine zH 6 ?_;refine zH 6 ?_;refine zH 6 ?_;refine zH 6 ?_;refine zH 7 ?_;refine Lo 0 ze rfl hc0 ?_;refine zH 16 ?_;refine Cn ye rfl zq ?_ ?_
  ·rintro _ _ ⟨h1, rfl⟩;exact pW hl2 ⟨.inl (Yy hop), rfl⟩
  rintro _ _ ⟨h1, rfl, rfl⟩;cases h1
end
section
open Wd Tp Kd
variable {m : Mp} {b : Nat}
abbrev bu (b : Nat) (p s : Value) : yb := cel b [p, s] 63
def PB (b : Nat) (p : Value) : Prop := p = .pointer none \/ p = zS b
abbrev Lu (b : Nat) (p : Value) (A : Oa) (c : Nat) (l : Bt) : List yb := [cel b [p, .slice A l.length c] 63, own 5 1 A l.length c (l.map vI)]
variable {p : Value}
theorem T6 {s : Value} (hp : PB b p) : CS Tryz.prog 58 [zS b] m [bu b p s] (fun v L' => v = U0 /\ L' = [bu b (zS b) s]) := by
 intro h hs x d;have hb : mp h b = some (.cells [p, s].toArray 63 (0, 0)) := hs.head;have hw : (W x h d).heap[b]? = some (.cells [p, s].toArray 63 (0, 0)) := hb;rcases hp with rfl | rfl
 ·refine (Any.Builder_copyCheck_fresh (ρ := Tryz.lays156_ren) { Tryz.lays156 with } Tryz.extra156.toX72 b (W x h d) (by simp [World.cell?, hw]) (by simp only [World.shape?, hw]; rfl) (by simp [World.frozen?, hw])).mono ?_;rintro e w' ⟨rfl, rfl⟩;refine ⟨U0, VE h ⟨b, 0, none⟩ (zS b), d, rfl, rfl, _, ⟨rfl, rfl⟩, ?_⟩
  exact hs.upd (fun k _ hk => cQ h _ _ (fun e => by
   have e : k = b := e;have hk : Nat.beq b k = false := hk;rw [e] at hk
   simp at hk)) (XG h (zS b) hb) (fun k hk => .inl hk)
 ·refine (Any.Builder_copyCheck_used (ρ := Tryz.lays156_ren) { Tryz.lays156 with } Tryz.extra156.toX72 b (W x h d) (by simp [World.cell?, hw])).mono ?_;rintro e w' ⟨rfl, rfl⟩;exact ⟨U0, h, d, rfl, rfl, _, ⟨rfl, rfl⟩, hs⟩
variable {A : Oa} {c : Nat}
theorem vu {l s : Bt} (hp : PB b p) (hA : Gf A l) (hl : l.length + s.length <= 140737488355328) :
  CS Tryz.prog 32 [zS b, .string (bs s)] m (Lu b p A c l) (fun v L' => ∃ A' c', Gf A' (l ++ s) /\ v = .tuple [.int .i64 (s.length : Nat), .nilIface].toArray /\ L' = Lu b (zS b) A' c' (l ++ s)) := by
 refine yQ [.tmp 4, .tmp 5] Tryz.func32 rfl rfl rfl ?_;refine tr 9 ?_;refine C1 Cv rfl .here (fun m' hm he => T6 hp) ?_;rintro _ _ ⟨rfl, rfl⟩;refine vr 8 ?_;refine Lb 1 Xq .here ?_;refine zg (LN (l := l) DY rfl Tryz.underlying9 rfl rfl (fun _ _ => .h1) hA (by simp only [maxLen]; omega) za rfl (fun A' c' hB => ?_)) rfl;refine vr 2 ?_;refine Sr 5 Cd .here .h1 ?_
 refine pe 5 (yT rfl ei) ?_;rw [<- List.length_append];exact yn [_, _] vv [_, _] .pp ⟨A', c', hB, rfl, rfl⟩
variable {l : Bt}
theorem SO : CS Tryz.prog 31 [zS b] m (Lu b p A c l) (fun v L' => v = .int .i64 (l.length : Nat) /\ L' = Lu b p A c l) := by
 refine yQ [.tmp 2] Tryz.func31 rfl rfl rfl ?_;refine tr 10 ?_;refine Lb 5 Xq .here ?_;exact yn [_] zj [_, _] zx ⟨rfl, rfl⟩
theorem gi {p : Value} (hA : Gf A l) (hl : l.length <= 140737488355328) : CS Tryz.prog 35 [zS b] m (Lu b p A c l) (fun v L' => v = .string (bs l) /\ L' = []) := by
 skip;skip;refine yQ [.tmp 2] Tryz.func35 rfl rfl rfl ?_;rcases hA with ⟨rfl, rfl⟩ | ⟨h0, g, rfl⟩
 ·refine tr 6 ?_;refine Db (sq [0, 1, 2, 5, 6, 7] (.fork (sq [103] (.fork (sq [104, 108, 9, 110, 11] .done) (sq [108, 9, 104, 110, 11] .done))) (sq [108, 9, 103, 104, 110, 11] .done))) ?_;refine vB 6 ?_;refine xl ?_ ?_;refine Ve 0 rfl (yE Xq rfl .here rfl) ?_;refine xl ?_ ?_
  ·refine zf rfl ((vg (fun h _ => (fH rfl).read) rfl rfl ?_)) rfl;refine Ve 1 rfl (yE Xq rfl .here rfl) ?_;refine zf rfl ((vg (fun h _ => (gA rfl rfl).read) rfl rfl ?_)) rfl;refine vB 1 ?_;refine Vn 2 ?_;exact xE zj ⟨rfl, rfl⟩
  ·refine Ve 1 rfl (yE Xq rfl .here rfl) ?_;refine zf rfl ((vg (fun h _ => (fH rfl).read) rfl rfl ?_)) rfl;skip;refine zf rfl ((vg (fun h _ => (gA rfl rfl).read) rfl rfl ?_)) rfl;refine vB 1 ?_;refine Vn 2 ?_;exact xE zj ⟨rfl, rfl⟩
  ·refine Ve 1 rfl (yE Xq rfl .here rfl) ?_;refine Ve 0 rfl (yE Xq rfl .here rfl) ?_;refine zf rfl ((vg (fun h _ => (fH rfl).read) rfl rfl ?_)) rfl;skip;refine zf rfl ((vg (fun h _ => (gA rfl rfl).read) rfl rfl ?_)) rfl;refine vB 1 ?_;refine Vn 2 ?_;exact xE zj ⟨rfl, rfl⟩
 ·refine Hq (p := l.length <= c) (fun h hs => Own.le hs.tail.head) (fun hc => ?_);have hc0 : c ≠ 0 := fun e => h0 (List.eq_nil_of_length_eq_zero za);refine tr 6 ?_;refine Db (sq [0, 1, 2, 5, 6, 7] (.fork (sq [103] (.fork (sq [104, 108, 9, 110, 11] .done) (sq [108, 9, 104, 110, 11] .done))) (sq [108, 9, 103, 104, 110, 11] .done))) ?_;refine vB 6 ?_;refine xl ?_ ?_
  refine Ve 0 rfl (yE Xq rfl .here rfl) ?_;refine xl ?_ ?_
  ·refine zf rfl ((vg (fun h _ => (be rfl hc0).read) rfl rfl ?_)) rfl;refine Ve 1 rfl (yE Xq rfl .here rfl) ?_;refine zf rfl ((fG Tryz.underlying125 rfl rfl rfl .h1 h0 za rfl ?_)) rfl;refine vB 1 ?_;refine Vn 2 ?_;exact xE zj ⟨rfl, rfl⟩
  ·refine Ve 1 rfl (yE Xq rfl .here rfl) ?_;refine zf rfl ((vg (fun h _ => (be rfl hc0).read) rfl rfl ?_)) rfl;skip;refine zf rfl ((fG Tryz.underlying125 rfl rfl rfl .h1 h0 za rfl ?_)) rfl;refine vB 1 ?_;refine Vn 2 ?_;exact xE zj ⟨rfl, rfl⟩
  ·refine Ve 1 rfl (yE Xq rfl .here rfl) ?_;refine Ve 0 rfl (yE Xq rfl .here rfl) ?_;refine zf rfl ((vg (fun h _ => (be rfl hc0).read) rfl rfl ?_)) rfl;skip;refine zf rfl ((fG Tryz.underlying125 rfl rfl rfl .h1 h0 za rfl ?_)) rfl;refine vB 1 ?_;refine Vn 2 ?_;exact xE zj ⟨rfl, rfl⟩
end
end Go.Proofs.YtgohljjedlpccaaGreatDoor
