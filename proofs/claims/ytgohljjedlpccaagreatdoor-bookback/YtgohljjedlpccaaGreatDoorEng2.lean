/- A Hoare logic over heaps for the model's code, and its lemmas, one an operation: all are proved here. No condition. -/
import Derived.Test.YtgohljjedlpccaaGreatDoorEng
namespace Go.Eng
structure yb where
 dom : Nat -> Bool
 inv : Mp -> Prop
 loc : ∀ {m m' : Mp}, (∀ k, dom k = true -> m' k = m k) -> inv m -> inv m'
 has : ∀ {m : Mp} {k : Nat}, inv m -> dom k = true -> m k ≠ none
def blk (b : Nat) (o : Obj) : yb where
 dom := fun k => Nat.beq b k
 inv := fun m => m b = some o
 loc := fun {m m'} h hi => by rw [h b yA]; exact hi
 has := fun {m k} hi hk => by
  have := Nat.eq_of_beq_eq_true hk;subst this;rw [hi];exact fun e => by cases e
abbrev cel (b : Nat) (l : Lv) (t : TypeId) : yb := blk b (.cells l.toArray t (0, 0))
def own (e sz : Nat) (A : Oa) (n c : Nat) (xs : Lv) : yb where
 dom := aP A
 inv := fun m => Own m e sz A n c xs
 loc := fun h hi => hi.of_eq h
 has := fun hi hk => by
  obtain ⟨cur, hm⟩ := hi.at_ hk;rw [hm];exact fun e => by cases e
structure HS (m : Mp) (L : List yb) (h : yB) : Prop where
 base : Le m (mp h)
 inv : ∀ e ∈ L, e.inv (mp h)
 out : ∀ e ∈ L, ∀ k, e.dom k = true -> m k = none
 apart : L.Pairwise fun a b => ∀ k, a.dom k = true -> b.dom k = false
variable {h : yB} {m : Mp}
theorem HS.nil (hl : Le m (mp h)) : HS m [] h := ⟨hl, (fun e he => by cases he), (fun e he => by cases he), List.Pairwise.nil⟩
variable {L : List yb} {e : yb}
theorem HS.cons_iff : HS m (e :: L) h ↔ HS m L h /\ e.inv (mp h) /\ (∀ k, e.dom k = true -> m k = none) /\ ∀ x ∈ L, ∀ k, e.dom k = true -> x.dom k = false := by
 constructor
 ·intro ⟨h1, h2, h3, h4⟩;rw [List.pairwise_cons] at h4;exact ⟨⟨h1, fun x hx => h2 x (List.mem_cons_of_mem _ hx), fun x hx => h3 x (List.mem_cons_of_mem _ hx), h4.2⟩, h2 e yA, h3 e yA, h4.1⟩
 ·intro ⟨⟨h1, h2, h3, h4⟩, g1, g2, g3⟩;refine ⟨h1, fun x hx => ?_, fun x hx => ?_, List.pairwise_cons.2 ⟨g3, h4⟩⟩
  ·rcases List.mem_cons.1 hx with rfl | hx
   ·exact g1
   ·exact h2 x hx
  ·rcases List.mem_cons.1 hx with rfl | hx
   ·exact g2
   ·exact h3 x hx
theorem HS.tail (hs : HS m (e :: L) h) : HS m L h := (HS.cons_iff.1 hs).1
theorem HS.head (hs : HS m (e :: L) h) : e.inv (mp h) := (HS.cons_iff.1 hs).2.1
inductive Tk : List yb -> yb -> List yb -> Prop
 | here {e : yb} {r : List yb} : Tk (e :: r) e r
 | there {x e : yb} {r r' : List yb} (h : Tk r e r') : Tk (x :: r) e (x :: r')
inductive gz : List yb -> yb -> yb -> List yb -> Prop
 | here {e e' : yb} {r : List yb} : gz (e :: r) e e' (e' :: r)
 | there {x e e' : yb} {r r' : List yb} (h : gz r e e' r') : gz (x :: r) e e' (x :: r')
variable {r : List yb}
theorem Tk.mem (h : Tk L e r) : ∀ x, x ∈ L ↔ x = e \/ x ∈ r := by
 induction h with
 | here => intro x; simp
 | there _ ih => intro x; simp only [List.mem_cons, ih]; exact or_left_comm
theorem HS.take (ht : Tk L e r) : HS m L h -> HS m (e :: r) h := by
 induction ht with
 | here => exact id
 | @there x e r r' ht ih =>
   intro hs;obtain ⟨h1, h2, h3, h4⟩ := HS.cons_iff.1 hs;have h5 := ih h1;obtain ⟨g1, g2, g3, g4⟩ := HS.cons_iff.1 h5;refine HS.cons_iff.2 ⟨HS.cons_iff.2 ⟨g1, h2, h3, fun y hy => h4 y ((ht.mem y).2 (.inr hy))⟩, g2, g3, fun y hy k hk => ?_⟩;rcases List.mem_cons.1 hy with rfl | hy
   ·cases hd : y.dom k with
    | false => rfl
    | true => have := h4 e ((ht.mem e).2 (.inl rfl)) k hd; rw [hk] at this; cases this
   ·exact g4 y hy k hk
theorem HS.untake (ht : Tk L e r) : HS m (e :: r) h -> HS m L h := by
 induction ht with
 | here => exact id
 | @there x e r r' ht ih =>
   intro hs;obtain ⟨h1, h2, h3, h4⟩ := HS.cons_iff.1 hs;obtain ⟨g1, g2, g3, g4⟩ := HS.cons_iff.1 h1;refine HS.cons_iff.2 ⟨ih (HS.cons_iff.2 ⟨g1, h2, h3, fun y hy => h4 y (List.mem_cons_of_mem _ hy)⟩), g2, g3, fun y hy k hk => ?_⟩;rcases (ht.mem y).1 hy with rfl | hy
   ·cases hd : y.dom k with
    | false => rfl
    | true => have := h4 x yA k hd; rw [hk] at this; cases this
   ·exact g4 y hy k hk
variable {L' : List yb} {e' : yb}
theorem gz.split (hs : gz L e e' L') : ∃ r, Tk L e r /\ Tk L' e' r := by
 induction hs with
 | here => exact ⟨_, .here, .here⟩
 | there _ ih => obtain ⟨r, h1, h2⟩ := ih; exact ⟨_, .there h1, .there h2⟩
variable {h' : yB}
theorem HS.sel (hs : gz L e e' L') (hh : HS m L h) (hk : ∀ r, HS m (e :: r) h -> HS m (e' :: r) h') : HS m L' h' := by
 obtain ⟨r, h1, h2⟩ := hs.split;exact (hk r (hh.take h1)).untake h2
theorem aH {b : Nat} : mp h b = none ↔ h.size <= b := by unfold mp; rw [Array.getElem?_eq_none_iff]
theorem HS.upd (hs : HS m (e :: r) h) (ho : ∀ k, k < h.size -> e.dom k = false -> mp h' k = mp h k) (hi : e'.inv (mp h')) (hd : ∀ k, e'.dom k = true -> e.dom k = true \/ h.size <= k) : HS m (e' :: r) h' := by
 obtain ⟨⟨h1, h2, h3, h5⟩, g1, g2, g3⟩ := HS.cons_iff.1 hs
 have same : ∀ x ∈ r, ∀ k, x.dom k = true -> mp h' k = mp h k := fun x hx k hk => by
  refine ho k ?_ ?_
  ·rcases Nat.lt_or_ge k h.size with hlt | hge
   ·exact hlt
   ·exact absurd (aH.2 hge) (x.has (h2 x hx) hk)
  ·cases he : e.dom k with
   | false => rfl
   | true => have := g3 x hx k he; rw [hk] at this; cases this
 refine HS.cons_iff.2 ⟨⟨fun k o hk => ?_, fun x hx => x.loc (same x hx) (h2 x hx), h3, h5⟩, hi, fun k hk => ?_, fun x hx k hk => ?_⟩
 ·have h6 := h1 k o hk;rw [ho k (qN h6) ?_]
  ·exact h6
  ·cases he : e.dom k with
   | false => rfl
   | true => rw [g2 k he] at hk; cases hk
 ·rcases hd k hk with he | he
  ·exact g2 k he
  ·cases hm : m k with
   | none => rfl
   | some o => have := qN (h1 k o hm); omega
 ·cases hxk : x.dom k with
  | false => rfl
  | true =>
    rcases hd k hk with he | he
    ·have := g3 x hx k he; rw [hxk] at this; cases this
    ·exact absurd (aH.2 he) (x.has (h2 x hx) hxk)
theorem HS.new (hs : HS m r h) (hl : Le (mp h) (mp h')) (hi : e'.inv (mp h')) (hd : ∀ k, e'.dom k = true -> mp h k = none) : HS m (e' :: r) h' := by
 have h0 : HS m (⟨fun _ => false, fun _ => True, fun _ _ => trivial, fun _ h => by cases h⟩ :: r) h := HS.cons_iff.2 ⟨hs, trivial, fun k hk => by (exact absurd hk yA), fun x hx k hk => by (exact absurd hk yA)⟩;refine h0.upd (fun k hk _ => ?_) hi fun k hk => .inr (aH.1 (hd k hk));have : mp h k = some h[k] := by simp [mp, hk]
 rw [this];exact hl _ _ this
theorem HS.le (hs : HS m r h) (hl : Le (mp h) (mp h')) : HS m r h' :=
 (hs.new (e' := ⟨fun _ => false, fun _ => True, fun _ _ => trivial, fun _ h => by cases h⟩) hl trivial fun k hk => by (exact absurd hk yA)).tail
def zN (L L' : List yb) : Prop := ∀ (m : Mp) (h : yB), HS m L h -> HS m L' h
theorem zN.refl (L : List yb) : zN L L := fun _ _ h => h
theorem zN.nil (L : List yb) : zN L [] := fun _ _ h => HS.nil h.base
theorem zx {L : List yb} : zN L L := zN.refl L
theorem ya {L : List yb} : zN L [] := zN.nil L
theorem zN.cons (ht : Tk L e r) (hp : zN r L') : zN L (e :: L') := fun m h hs => by
 have h0 := hs.take ht;obtain ⟨h1, h2, h3, h4⟩ := HS.cons_iff.1 h0;have h5 := hp m h h1;refine HS.cons_iff.2 ⟨h5, h2, h3, fun x hx k hk => ?_⟩
 -- an entry of L' has no block of e
 have key : HS (fun j => if e.dom j then mp h j else m j) r h := by
  refine ⟨fun j o hj => ?_, h1.inv, fun x hx j hj => ?_, h1.apart⟩
  ·split at hj
   ·exact hj
   ·exact h1.base j o hj
  ·split
   ·rename_i he
    have := h4 x hx j he;rw [hj] at this;cases this
   ·exact h1.out x hx j hj
 cases hxk : x.dom k with
 | false => rfl
 | true =>
   have h6 := (hp _ h key).out x hx k hxk;simp only [hk, if_true] at h6;exact absurd h6 (e.has h2 hk)
theorem zN.drop : zN (e :: L) L := fun _ _ hs => hs.tail
section
variable {P : Program} {n : Nat} {env : yW} {m : Mp} {L : List yb} {Q : yR}
def TS (P : Program) (n : Nat) (c : Code) (env : yW) (m : Mp) (L : List yb) (Q : yR) : Prop := ∀ h, HS m L h -> T P n c env h Q
def QS (Q : yR) (e : Exit) (env : yW) (m : Mp) (L : List yb) : Prop := ∀ h, HS m L h -> Q e env h
def VS (P : Program) (n : Nat) (l0 l : List Oper) (env : yW) (m : Mp) (L : List yb) (Q : yR) : Prop := ∀ h, HS m L h -> V P n l0 l env h Q
def ZZ (P : Program) (n : Nat) (l : List Oper) (wild : Nat -> Bool) (t : OT) (env : yW) (m : Mp) (L : List yb) (Q : yR) : Prop := ∀ h, HS m L h -> VT P n l wild t env h Q
variable {a b : Code}
theorem OQ (ht : TS P n a env m L (uT P n b Q)) : TS P n (.seq a b) env m L Q := fun h hs => zy (ht h hs)
variable {c : Code} {id : Nat}
theorem OV (ht : TS P n c env m L (qf id Q)) : TS P n (.block id c) env m L Q := fun h hs => uO (ht h hs)
theorem Ho (hq : QS Q .normal env m L) : TS P n .skip env m L Q := fun h hs => jC (hq h hs)
theorem KY {l : Nat} (hq : QS Q .normal env m L) : TS P n (.label l) env m L Q := fun h hs => RH (hq h hs)
theorem RK (hq : QS Q (.exit id) env m L) : TS P n (.exit id) env m L Q := fun h hs => YP (hq h hs)
theorem Fu (hq : QS Q .ret env m L) : TS P n .ret env m L Q := fun h hs => wr (hq h hs)
theorem RI {c : Operand} (hc : ev env c = some (.bool true)) (ht : TS P n a env m L Q) : TS P n (.cond c a b) env m L Q := fun h hs => wX hc (ht h hs)
theorem OR {c : Operand} (hc : ev env c = some (.bool false)) (ht : TS P n b env m L Q) : TS P n (.cond c a b) env m L Q := fun h hs => vL hc (ht h hs)
theorem RJ (r : yW) (hr : ba r env) (ht : TS P n c r m L Q) : TS P n c env m L Q := fun h hs => Vh r hr (ht h hs)
theorem qS (L' : List yb) (hp : zN L L') (ht : TS P n c env m L' Q) : TS P n c env m L Q := fun h hs => ht h (hp m h hs)
theorem Z0 {l0 l : List Oper} (L' : List yb) (hp : zN L L') (ht : VS P n l0 l env m L' Q) : VS P n l0 l env m L Q := fun h hs => ht h (hp m h hs)
theorem Ht (ht : TS P n c env m L Q) : QS (uT P n c Q) .normal env m L := fun h hs => zc (ht h hs)
theorem Q6 {i : Nat} (hq : QS Q (.exit i) env m L) : QS (uT P n c Q) (.exit i) env m L := fun h hs => ku (hq h hs)
theorem zD (hq : QS Q .ret env m L) : QS (uT P n c Q) .ret env m L := fun h hs => wh (hq h hs)
theorem qD (hq : QS Q .normal env m L) : QS (qf id Q) .normal env m L := fun h hs => wn (hq h hs)
theorem zk (hq : QS Q .normal env m L) : QS (qf id Q) (.exit id) env m L := fun h hs => jQ (hq h hs)
theorem Ja {i : Nat} (hne : Nat.beq i id = false) (hq : QS Q (.exit i) env m L) : QS (qf id Q) (.exit i) env m L := fun h hs => G9 hne (hq h hs)
theorem zp (hq : QS Q .ret env m L) : QS (qf id Q) .ret env m L := fun h hs => vf (hq h hs)
def j2 {α : Type} (m : Mp) (S : α -> yW) (LL : α -> List yb) (F : α -> Prop) (μ : α -> Nat) (k : Nat) (Q : yR) : yR := Wh S (fun y h => F y /\ HS m (LL y) h) μ k Q
variable {α : Type} {F : α -> Prop} {LL : α -> List yb} {S : α -> yW} {μ : α -> Nat}
theorem zm {k i : Nat} (hq : QS Q (.exit i) env m L) : QS (j2 m S LL F μ k Q) (.exit i) env m L := fun h hs => jH (hq h hs)
theorem zu {k : Nat} (hq : QS Q .ret env m L) : QS (j2 m S LL F μ k Q) .ret env m L := fun h hs => fb (hq h hs)
theorem xD {k : Nat} (y : α) (hs : ba (S y) env) (hp : zN L (LL y)) (hF : F y) (hk : μ y < k) : QS (j2 m S LL F μ k Q) .normal env m L :=
 fun h hh => ⟨y, hs, ⟨hF, hp m h hh⟩, hk⟩
theorem yv (S : α -> yW) (LL : α -> List yb) (F : α -> Prop) (μ : α -> Nat) (y : α) (hs : ba (S y) env) (hp : zN L (LL y)) (hF : F y) (hr : ∀ (y : α), F y -> TS P n c (S y) m (LL y) (j2 m S LL F μ (μ y) Q)) : TS P n (.loop c) env m L Q :=
 fun h hh => YO S (fun y h => F y /\ HS m (LL y) h) μ y hs ⟨hF, hp m h hh⟩ fun y h ⟨h1, h2⟩ => hr y h1 h h2
theorem d6 (S : α -> yW) (LL : α -> List yb) (F : α -> Prop) (h1 : TS P n a env m L (j2 m S LL F (fun _ => 0) 1 Q)) (h2 : ∀ y, F y -> TS P n b (S y) m (LL y) Q) : TS P n a env m L (uT P n b Q) :=
 fun h hh => SM S (fun y h => F y /\ HS m (LL y) h) (h1 h hh) fun y h ⟨a1, a2⟩ => h2 y a1 h a2
theorem RL (S : α -> yW) (LL : α -> List yb) (F : α -> Prop) (h1 : TS P n a env m L (uT P n c (j2 m S LL F (fun _ => 0) 1 Q))) (h2 : ∀ y, F y -> TS P n b (S y) m (LL y) Q) : TS P n a env m L (uT P n (.seq c b) Q) := by
 intro h hh;refine YN (h1 h hh) ?_;intro e env' h' hq
 have key : ∀ e env' h', j2 m S LL F (fun _ => 0) 1 Q e env' h' -> uT P n b Q e env' h' := by
  intro e env' h' hq;cases e with
  | normal =>
    obtain ⟨y, hs, ⟨hF, hH⟩, _⟩ := hq;exact Vh (S y) hs (h2 y hF h' hH)
  | exit i => exact hq
  | goto l => exact hq
  | ret => exact hq
  | panic c => exact hq
  | outgrown => exact hq
 cases e with
 | normal => exact zy (YN hq key)
 | exit i => exact hq
 | goto l => exact hq
 | ret => exact hq
 | panic c => exact hq
 | outgrown => exact hq
theorem ac (S : α -> yW) (LL : α -> List yb) (F : α -> Prop) (h1 : TS P n a env m L (uT P n c (j2 m S LL F (fun _ => 0) 1 Q))) (h2 : ∀ y, F y -> TS P n b (S y) m (LL y) Q) : TS P n a env m L (uT P n c (uT P n b Q)) := by
 intro h hh;refine YN (h1 h hh) ?_;intro e env' h' hq
 have key : ∀ e env' h', j2 m S LL F (fun _ => 0) 1 Q e env' h' -> uT P n b Q e env' h' := by
  intro e env' h' hq;cases e with
  | normal =>
    obtain ⟨y, hs, ⟨hF, hH⟩, _⟩ := hq;exact Vh (S y) hs (h2 y hF h' hH)
  | exit i => exact hq
  | goto l => exact hq
  | ret => exact hq
  | panic c => exact hq
  | outgrown => exact hq
 cases e with
 | normal => exact YN hq key
 | exit i => exact hq
 | goto l => exact hq
 | ret => exact hq
 | panic c => exact hq
 | outgrown => exact hq
variable {l0 l : List Oper} {o : Oper} {v : Value} {d : Nat}
theorem LM (hv : VS P n l0 l0 env m L Q) : TS P n (.region id l0.toArray false) env m L Q := fun h hs => zh (hv h hs)
theorem Fr (hq : QS Q .normal env m L) : VS P n l0 [] env m L Q := fun h hs => zE (hq h hs)
theorem Q4 (hr : yz P n o env v) (hd : o.dst = some d) (hn : Nat.blt d n = true) (hw : wanted l0 env o = some true) (hk : VS P n l0 l ((d, v) :: env) m L Q) : VS P n l0 (o :: l) env m L Q := fun h hs => zd hr hd hn hw (hk h hs)
theorem RE (hr : ∀ h, HS m L h -> vj P n o env h v) (hd : o.dst = some d) (hn : Nat.blt d n = true) (hw : wanted l0 env o = some true) (hk : VS P n l0 l ((d, v) :: env) m L Q) : VS P n l0 (o :: l) env m L Q := fun h hs => zJ (hr h hs) hd hn hw (hk h hs)
theorem RD (hw : wanted l0 env o = some false) (hd : o.dst = some d) (hn : Nat.blt d n = true) (hk : VS P n l0 l ((d, undef) :: env) m L Q) : VS P n l0 (o :: l) env m L Q := fun h hs => ab hw hd hn (hk h hs)
theorem jk {p : Prop} [Decidable p] (hr : yz P n o env (.bool (decide p))) (hd : o.dst = some d) (hn : Nat.blt d n = true) (hw : wanted l0 env o = some true) (h1 : p -> VS P n l0 l ((d, .bool true) :: env) m L Q) (h2 : ¬ p -> VS P n l0 l ((d, .bool false) :: env) m L Q) : VS P n l0 (o :: l) env m L Q := fun h hs => RA hr hd hn hw (fun hp => h1 hp h hs) (fun hp => h2 hp h hs)
def ve (P : Program) (n : Nat) (Q : yR) (o : Oper) (env : yW) (m : Mp) (L : List yb) (kept : Bool) (K : yW -> List yb -> Prop) : Prop :=
 ∀ h, HS m L h -> gj P n Q o env h fun env' h' => (kept = true -> Le (mp h) (mp h')) /\ ∃ L', HS m L' h' /\ K env' L'
variable {kept : Bool}
theorem zg (hs : ve P n Q o env m L kept fun env' L' => VS P n l0 l env' m L' Q) (hw : wanted l0 env o = some true) : VS P n l0 (o :: l) env m L Q :=
 fun h hh => yh ((hs h hh).mono fun _ _ ⟨_, _, h1, h2⟩ => h2 _ h1) hw
variable {wild : Nat -> Bool} {t : OT} {i : Nat}
theorem yw (t : OT) (hm : P.follows .mixedOrders = true) (hck : W5 l t = true) (hQ : ∀ c env env' h, Q (.panic c) env h -> Q (.panic c) env' h) (hv : ZZ P n l (Zd t) t env m L Q) : TS P n (.region id l.toArray true) env m L Q := fun h hs => Hn t hm hck hQ (hv h hs)
theorem RC (hq : QS Q .normal env m L) : ZZ P n l wild .done env m L Q := fun h hs => Q2 (hq h hs)
theorem kf {s : OT} (h1 : ZZ P n l wild s env m L Q) (h2 : ZZ P n l wild t env m L Q) : ZZ P n l wild (.fork s t) env m L Q := fun h hs => Q3 (h1 h hs) (h2 h hs)
theorem KV (ho : fe l i = some o) (hr : yz P n o env v) (hd : o.dst = some d) (hn : Nat.blt d n = true) (hw : wanted l env o = some true) (hk : ZZ P n l wild t ((d, v) :: env) m L Q) : ZZ P n l wild (.step i .pure t) env m L Q := fun h hs => bU ho hr hd hn hw (hk h hs)
theorem OJ (ho : fe l i = some o) (hr : ∀ h, HS m L h -> vj P n o env h v) (hd : o.dst = some d) (hn : Nat.blt d n = true) (hw : wanted l env o = some true) (hk : ZZ P n l wild t ((d, v) :: env) m L Q) : ZZ P n l wild (.step i .read t) env m L Q := fun h hs => QZ ho (hr h hs) hd hn hw (hk h hs)
theorem OI {k : Kd} (hq : k.quiet = true) (ho : fe l i = some o) (hw : wanted l env o = some false) (hd : o.dst = some d) (hn : Nat.blt d n = true) (hk : ZZ P n l wild t ((d, undef) :: env) m L Q) : ZZ P n l wild (.step i k t) env m L Q := fun h hs => RB hq ho hw hd hn (hk h hs)
theorem y7 (ho : fe l i = some o) (hs : ve P n Q o env m L true fun env' L' => ZZ P n l wild t env' m L' Q) (hw : wanted l env o = some true) : ZZ P n l wild (.step i .kept t) env m L Q :=
 fun h hh => gR ho ((hs h hh).mono fun _ _ ⟨h0, _, h1, h2⟩ => ⟨h0 rfl, h2 _ h1⟩) hw
theorem zM (ho : fe l i = some o) (hwl : wild i = true) (hs : ve P n Q o env m L kept fun env' L' => ZZ P n l wild t env' m L' Q) (hw : wanted l env o = some true) : ZZ P n l wild (.step i .wild t) env m L Q :=
 fun h hh => XQ ho hwl ((hs h hh).mono fun _ _ ⟨_, _, h1, h2⟩ => h2 _ h1) hw
end
section
variable {P : Program} {n : Nat} {env : yW} {m : Mp} {L r : List yb} {Q : yR} {K : yW -> List yb -> Prop} {dst : Option Tmp} {d : Nat} {ty : TypeId} {pos : String} {aft : Array Edge} {gd : Option (Nat × Bool)} {t : TypeId} {x y : Operand} {v : Value} {kept : Bool}
variable {h : yB}
theorem HS.get {e : yb} (hs : HS m L h) (ht : Tk L e r) : e.inv (mp h) := hs.inv e ((ht.mem e).2 (.inl rfl))
variable {a : Addr}
theorem zl (ht : single P t = true) (hx : ev env x = some (.pointer (some a))) (hc : mc m a = some v) : ∀ h, HS m L h -> vj P n ⟨dst, .load t x, ty, pos, aft, gd⟩ env h v :=
 fun _ hs => yo ht hx (xv hs.base hc)
variable {l : Lv} {q : Nat}
theorem zO (ht : vq P t = some q) (hx : ev env x = some (.pointer (some a))) (hl : l.length = q) (hc : At m a l) : ∀ h, HS m L h -> vj P n ⟨dst, .load t x, ty, pos, aft, gd⟩ env h (.agg l.toArray) :=
 fun _ hs => yd ht hx hl (hc.mono hs.base)
variable {b i : Nat}
theorem yE {e : TypeId} (ht : single P t = true) (hx : ev env x = some (.pointer (some ⟨b, i, none⟩))) (hT : Tk L (cel b l e) r) (hv : cF l i = some v) : ∀ h, HS m L h -> vj P n ⟨dst, .load t x, ty, pos, aft, gd⟩ env h v :=
 fun _ hs => yo ht hx (zZ (hs.get hT) hv)
theorem wt {e : TypeId} (ht : vq P t = some q) (hx : ev env x = some (.pointer (some ⟨b, 0, none⟩))) (hT : Tk L (cel b l e) r) (hl : l.length = q) : ∀ h, HS m L h -> vj P n ⟨dst, .load t x, ty, pos, aft, gd⟩ env h (.agg l.toArray) :=
 fun _ hs => yd ht hx hl (At.blk (hs.get hT))
theorem Z4 {o : Nat} {e : TypeId} (ht : vq P t = some q) (hx : ev env x = some (.pointer (some ⟨b, o, none⟩))) (hT : Tk L (cel b l e) r) (hl : ((l.drop o).take q).length = q) : ∀ h, HS m L h -> vj P n ⟨dst, .load t x, ty, pos, aft, gd⟩ env h (.agg ((l.drop o).take q).toArray) :=
 fun _ hs => yd ht hx hl (At.blkO (hs.get hT))
variable {A : Oa} {c e sz : Nat} {xs : Lv}
theorem RM {k : Nat} (ht : single P t = true) (hx : ev env x = some (.pointer (some ((sa A).add i)))) (hT : Tk L (own e sz A k c xs) r) (hv : xs[i]? = some v) : ∀ h, HS m L h -> vj P n ⟨dst, .load t x, ty, pos, aft, gd⟩ env h v :=
 fun _ hs => yo ht hx ((Own.rd (hs.get hT)).at_ hv)
variable {elem : TypeId}
theorem Dx (hx : ev env x = some v) (hn : Nat.blt d n = true) (hk : ∀ b, K ((d, .pointer (some ⟨b, 0, none⟩)) :: env) (cel b v.cells.toList elem :: L)) : ve P n Q ⟨some d, .box elem x, ty, pos, aft, gd⟩ env m L true K := fun h hs =>
 uE hx hn fun b h' hn' hb hl => ⟨fun _ => hl, _, hs.new (e' := cel b v.cells.toList elem) hl (by show mp h' b = _; simpa using hb) fun k hk => by have := Nat.eq_of_beq_eq_true hk; subst this; exact hn', hk b⟩
variable {z : Lv}
theorem ua (hz : wz P elem = some z) (hn : Nat.blt d n = true) (hk : ∀ b, K ((d, .pointer (some ⟨b, 0, none⟩)) :: env) (cel b z elem :: L)) : ve P n Q ⟨some d, .alloc elem, ty, pos, aft, gd⟩ env m L true K := fun h hs =>
 jt hz hn fun b h' hn' hb hl => ⟨fun _ => hl, _, hs.new (e' := cel b z elem) hl hb fun k hk => by have := Nat.eq_of_beq_eq_true hk; subst this; exact hn', hk b⟩
variable {cs : Lv}
theorem yi {len xI : Nat} {parts : List (Nat × Operand)} {ps : List (Nat × Value)} (hs : vD P t = some (e, sz, xI, z)) (hx : P8 env parts = some ps) (hsmall : Nat.ble (len * sz) 16777216 = true) (hf : Xd sz (Gr (if len * sz = 0 then [] else z) (len * sz)) ps = some cs) (hn : Nat.blt d n = true) (hk : ∀ b, K ((d, .slice (some ⟨b, 0, none⟩) len len) :: env) (cel b cs e :: L)) : ve P n Q ⟨some d, .buildSlice t len parts.toArray, ty, pos, aft, gd⟩ env m L true K := fun h hh =>
 Je hs hx hsmall hf hn fun b h' hn' hb hl => ⟨fun _ => hl, _, hh.new (e' := cel b cs e) hl hb fun k hk => by have := Nat.eq_of_beq_eq_true hk; subst this; exact hn', hk b⟩
inductive uN : Lv -> Nat -> Value -> Lv -> Prop
 | here {u v : Value} {r : Lv} : uN (u :: r) 0 v (v :: r)
 | there {u v : Value} {r r' : Lv} {i : Nat} (h : uN r i v r') : uN (u :: r) (i + 1) v (u :: r')
variable {l' : Lv}
theorem uN.eq (h : uN l i v l') : i < l.length /\ l' = l.set i v := by
 induction h with
 | here => simp
 | there _ ih => obtain ⟨h1, h2⟩ := ih; exact ⟨by simp; omega, by simp [h2]⟩
theorem QH {k : Nat} {o : Obj} (hk : (blk b o).dom k = true) : k = b := (Nat.eq_of_beq_eq_true hk).symm
variable {L' : List yb}
theorem xn {e : TypeId} (ht : dZ P t = true) (hx : ev env x = some (.pointer (some ⟨b, i, none⟩))) (hy : ev env y = some v) (hv : aD v = true) (hT : gz L (cel b l e) (cel b l' e) L') (hu : uN l i v l') (hk : K env L') : ve P n Q ⟨none, .store t x y, ty, pos, aft, gd⟩ env m L false K := fun h hs => by
 obtain ⟨r, h1, h2⟩ := hT.split;obtain ⟨hi, rfl⟩ := hu.eq;have h3 := hs.take h1;refine RW ht hx hy hv (show mp h b = some (.cells l.toArray e (0, 0)) from h3.head) (by simpa [Nat.blt_eq] using hi) fun h' g1 g2 g3 => ⟨(fun hf => by cases hf), L', (h3.upd (e' := cel b (l.set i v) e) (fun k _ hk => g2 k ?_) g1 fun k hk => .inl hk).untake h2, hk⟩;rintro rfl
 simp [blk] at hk
theorem zR {vs : Lv} {e : TypeId} (ht : vq P t = some q) (hx : ev env x = some (.pointer (some ⟨b, 0, none⟩))) (hy : ev env y = some (.agg vs.toArray)) (hq : Nat.beq vs.length q = true) (hT : gz L (cel b l e) (cel b vs e) L') (hl : Nat.beq l.length q = true) (h1 : vs.all aD = true) (hk : K env L') : ve P n Q ⟨none, .store t x y, ty, pos, aft, gd⟩ env m L false K := fun h hs => by
 obtain ⟨r, g1, g2⟩ := hT.split;have h3 := hs.take g1;refine we ht hx hy hq (show mp h b = some (.cells l.toArray e (0, 0)) from h3.head) hl h1 fun h' k1 k2 k3 => ⟨(fun hf => by cases hf), L', (h3.upd (e' := cel b vs e) (fun k _ hk => k2 k ?_) k1 fun k hk => .inl hk).untake g2, hk⟩;rintro rfl
 simp [blk] at hk
theorem Own.ofCel {k : Nat} (hb : m b = some (.cells l.toArray e (0, 0))) (hl : l.length = k * sz) (hm : k <= maxLen) : Own m e sz (some ⟨b, 0, none⟩) k k l := Own.new hb hl hm
variable {c2 j : Nat} {news : Lv}
theorem UK {A2 : Oa} {k xI : Nat} {L' : Oa -> Nat -> List yb} (hs : vD P t = some (e, sz, xI, z)) (hsz : Nat.blt 0 sz = true) (hzl : z.length = sz) (hx : ev env x = some (.slice A k c)) (hy : ev env y = some (.slice A2 j c2)) (hT : ∀ A' c', gz L (own e sz A k c xs) (own e sz A' (k + j) c' (xs ++ news)) (L' A' c')) (hr : ∀ h, HS m L h -> Rd (mp h) A2 news) (hl : news.length = j * sz) (h1 : ∀ u ∈ news, aD u = true) (hm : k + j <= maxLen) (hb : (k + j) * xI <= 140737488355328) (hn : Nat.blt d n = true) (hk : ∀ A' c', K ((d, .slice A' (k + j) c') :: env) (L' A' c')) :
  ve P n Q ⟨some d, .call ⟨.builtin .append, #[x, y], #[t, t]⟩, ty, pos, aft, gd⟩ env m L false K := fun h hh => by
 obtain ⟨r, h2, _⟩ := (hT none 0).split;have h3 := hh.take h2;refine Pf hs hsz hzl hx hy (show Own (mp h) e sz A k c xs from h3.head) (hr h hh) hl h1 hm hb hn fun A' c' h' g1 g2 => ⟨(fun hf => by cases hf), L' A' c', ?_, hk A' c'⟩;refine hh.sel (hT A' c') fun r h4 => h4.upd (e' := own e sz A' (k + j) c' (xs ++ news)) (fun i hi hd => g2.other i hi ?_) g1 fun i hi => ?_
 ·intro e;have hd' : aP A i = false := hd
  simp [aP, <- e] at hd'
 ·have : aP A' i = true := hi;simp only [aP, beq_iff_eq] at this;rcases g2.at_ with e | e
  ·left; show aP A i = true; rw [e] at this; simp [aP, this]
  ·right; rw [e] at this; injection this with this; omega
theorem xQ {k e2 xI : Nat} {L' : Oa -> Nat -> List yb} (hs : vD P t = some (e, sz, xI, z)) (hsz : Nat.blt 0 sz = true) (hzl : z.length = sz) (hx : ev env x = some (.slice A k c)) (hy : ev env y = some (.slice (some ⟨b, 0, none⟩) j c2)) (hT2 : Tk L (cel b news e2) r) (hT : ∀ A' c', gz L (own e sz A k c xs) (own e sz A' (k + j) c' (xs ++ news)) (L' A' c')) (hl : news.length = j * sz) (h1 : news.all aD = true) (hm : k + j <= maxLen) (hb : (k + j) * xI <= 140737488355328) (hn : Nat.blt d n = true) (hk : ∀ A' c', K ((d, .slice A' (k + j) c') :: env) (L' A' c')) :
  ve P n Q ⟨some d, .call ⟨.builtin .append, #[x, y], #[t, t]⟩, ty, pos, aft, gd⟩ env m L false K :=
 UK hs hsz hzl hx hy hT (fun _ hh => Rd.blk (hh.get hT2)) hl (by rw [List.all_eq_true] at h1; exact h1) hm hb hn hk
theorem HS.nilOwn (e sz : Nat) (hs : HS m L h) : HS m (own e sz none 0 0 [] :: L) h := HS.cons_iff.2 ⟨hs, Own.nil _ _ _, (fun k hk => by cases hk), (fun x hx k hk => by cases hk)⟩
theorem HS.celOwn {k : Nat} (hl : l.length = k * sz) (hm : k <= maxLen) (hs : HS m (cel b l e :: L) h) : HS m (own e sz (some ⟨b, 0, none⟩) k k l :: L) h :=
 hs.upd (fun _ _ _ => rfl) (Own.ofCel hs.head hl hm) fun j hj => .inl (by have : aP (some ⟨b, 0, none⟩) j = true := hj; simp [aP, ap] at this; subst this; exact Nat.beq_refl _)
theorem jS {c : Code} (e sz : Nat) (ht : TS P n c env m (own e sz none 0 0 [] :: L) Q) : TS P n c env m L Q := fun h hs => ht h (hs.nilOwn e sz)
variable {l0 : List Oper}
theorem LH {l : List Oper} (e sz : Nat) (ht : VS P n l0 l env m (own e sz none 0 0 [] :: L) Q) : VS P n l0 l env m L Q := fun h hs => ht h (hs.nilOwn e sz)
theorem LI {l : List Oper} {k : Nat} (hT : gz L (cel b cs e) (own e sz (some ⟨b, 0, none⟩) k k cs) L') (hl : cs.length = k * sz) (hm : k <= maxLen) (ht : VS P n l0 l env m L' Q) : VS P n l0 l env m L Q :=
 fun h hs => ht h (hs.sel hT fun _ h2 => h2.celOwn hl hm)
def db (b : Nat) (s : Bt) (p : Nat) : yb := blk b (.stringIter (bs s) p)
variable {s : Bt}
theorem XT (ht : gE P t = true) (hx : ev env x = some (.string (bs s))) (hn : Nat.blt d n = true) (hk : ∀ b, K ((d, .pointer (some ⟨b, 0, none⟩)) :: env) (db b s 0 :: L)) : ve P n Q ⟨some d, .range t x, ty, pos, aft, gd⟩ env m L true K := fun h hs =>
 qp rfl hn fun fx dr a ha => by
  refine ⟨h.push (.stringIter (bs s) 0), dr, ?_, fun _ => fT h _, _, hs.new (e' := db h.size s 0) (fT h _) (uA h _) (fun k hk => by have := QH hk; subst this; exact bG h), hk _⟩;have := run_range_string (P := P) (W fx h dr) t (bs s) (dG ht);simp only [execOp, ha.eval hx, this, Sem.run_bind, Result.andThen_ok]
  rfl
variable {p : Nat}
theorem Fv (hx : ev env x = some (.pointer (some ⟨b, 0, none⟩))) (hp : p < s.length) (hT : gz L (db b s p) (db b s (p + (Utf8.decode (bs s) p).2)) L') (hn : Nat.blt d n = true) (hk : K ((d, .tuple [.bool true, .int .i64 p, .int .i32 (Utf8.decode (bs s) p).1].toArray) :: env) L') : ve P n Q ⟨some d, .next x true, ty, pos, aft, gd⟩ env m L false K := fun h hs => by
 obtain ⟨r, h1, h2⟩ := hT.split;have h3 := hs.take h1;have hb : h[b]? = some (.stringIter (bs s) p) := h3.head;have hsz : p < (bs s).size := by rw [jp]; exact hp
 refine qp (v := .tuple [.bool true, .int .i64 p, .int .i32 (Utf8.decode (bs s) p).1].toArray) rfl hn fun fx dr a ha => ?_;have hblt : b < h.size := by have := (Array.getElem?_eq_some_iff.1 hb).1; exact this
 refine ⟨h.setIfInBounds b (.stringIter (bs s) (p + (Utf8.decode (bs s) p).2)), dr, ?_, (fun hf => by cases hf), L', (h3.upd (e' := db b s (p + (Utf8.decode (bs s) p).2)) (fun k _ hk => ?_) (by show mp _ b = _; simp [mp, hblt]) fun k hk => .inl hk).untake h2, hk⟩
 ·have hb' : (W fx h dr).heap[b]? = some (.stringIter (bs s) p) := hb;simp only [execOp, ha.eval hx, Instr.next, getObj, setObj, Sem.run_bind, Sem.run, hb', Result.andThen, hsz, if_true]
  simp [goInt, Sem.run, hb', W]
 ·have hne : b ≠ k := by rintro rfl; simp [db, blk] at hk
  simp [mp, Array.getElem?_setIfInBounds, hne]
theorem YQ (hx : ev env x = some (.pointer (some ⟨b, 0, none⟩))) (hp : ¬ p < s.length) (hT : Tk L (db b s p) r) (hn : Nat.blt d n = true) (hk : K ((d, .tuple [.bool false].toArray) :: env) L) : ve P n Q ⟨some d, .next x true, ty, pos, aft, gd⟩ env m L true K := fun h hs => by
 have hb : h[b]? = some (.stringIter (bs s) p) := hs.get hT;have hsz : ¬ p < (bs s).size := by rw [jp]; exact hp
 refine qp rfl hn fun fx dr a ha => ⟨h, dr, ?_, fun _ => Le.refl _, L, hs, hk⟩;have hb' : (W fx h dr).heap[b]? = some (.stringIter (bs s) p) := hb
 simp [execOp, ha.eval hx, Instr.next, getObj, Sem.run, hb', hsz]
end
def CS (P : Program) (f : FuncId) (args : Lv) (m : Mp) (pre : List yb) (post : Value -> List yb -> Prop) : Prop :=
 ∀ h, HS m pre h -> C P f args.toArray h fun v h' => ∃ L', post v L' /\ HS m L' h'
def wB (m : Mp) (post : Value -> List yb -> Prop) : Value -> yB -> Prop := fun v h' => ∃ L', post v L' /\ HS m L' h'
variable {P : Program} {f : FuncId} {m : Mp} {post : Value -> List yb -> Prop} {pre : List yb}
theorem CS.mono {args : Lv} {post' : Value -> List yb -> Prop} (hc : CS P f args m pre post) (hp : ∀ v L', post v L' -> post' v L') : CS P f args m pre post' :=
 fun h hs => (hc h hs).mono fun _ _ ⟨L', h1, h2⟩ => ⟨L', hp _ _ h1, h2⟩
def RvS (P : Program) (env : yW) (L : List yb) : ResultVar -> Value -> Prop
 | .tmp t, v => lk env t = some v
 | .cell a t, v => ∃ b l tt r, lk env a = some (.pointer (some ⟨b, 0, none⟩)) /\ Tk L (cel b l tt) r /\ ((single P t = true /\ l = [v]) \/ (vq P t = some l.length /\ v = .agg l.toArray))
def cv (P : Program) (env : yW) (L : List yb) : List ResultVar -> Lv -> Prop
 | [], [] => True
 | r :: rs, v :: vs => RvS P env L r v /\ cv P env L rs vs
 | _, _ => False
variable {L : List yb} {env : yW}
theorem cv.ok {h : yB} (hs : HS m L h) : ∀ {rs : List ResultVar} {vs : Lv}, cv P env L rs vs -> qC P env h rs vs
 | [], [], _ => trivial
 | .tmp _ :: _, _ :: _, hr => ⟨hr.1, cv.ok hs hr.2⟩
 | .cell a t :: _, v :: _, hr => by
   obtain ⟨⟨b, l, tt, r, h1, h2, h3⟩, hr2⟩ := hr;have h4 : mp h b = some (.cells l.toArray tt (0, 0)) := hs.get h2;refine ⟨⟨_, h1, ?_⟩, cv.ok hs hr2⟩;rcases h3 with ⟨h5, rfl⟩ | ⟨h5, rfl⟩
   ·exact .inl ⟨h5, zZ h4 rfl⟩
   ·exact .inr ⟨l, h5, At.blk h4, rfl⟩
theorem yQ {fn : Func} {c : Code} {l : Lv} (rs : List ResultVar) (hf : P.funcs[f]? = some fn) (hb : fn.body = some c) (hrs : fn.results = rs.toArray) (hl : Nat.ble l.length fn.ntmps = true) (ht : TS P fn.ntmps c (WT l 0) m pre (U6 P rs (wB m post))) : CS P f l m pre post :=
 fun h hs => Ph rs hf hb hrs hl (ht h hs)
variable {rs : List ResultVar}
theorem yn (vs : Lv) (hv : cv P env L rs vs) (L' : List yb) (hp : zN L L') (hq : post (ao vs) L') : QS (U6 P rs (wB m post)) .ret env m L :=
 fun h hs => ⟨vs, hv.ok hs, L', hq, hp m h hs⟩
theorem eb (vs : Lv) (hv : cv P env L rs vs) (L' : List yb) (hp : zN L L') (hq : post (ao vs) L') : QS (U6 P rs (wB m post)) .normal env m L :=
 fun h hs => ⟨vs, hv.ok hs, L', hq, hp m h hs⟩
def HE (L : List yb) (m : Mp) : Prop := ∀ e ∈ L, e.inv m
def away (e : yb) (m : Mp) : Mp := fun k => if e.dom k then none else m k
section
variable {P : Program} {n : Nat} {env : yW} {m : Mp} {L r : List yb} {Q : yR} {K : yW -> List yb -> Prop} {d : Nat} {ty : TypeId} {pos : String} {aft : Array Edge} {gd : Option (Nat × Bool)}
variable {L' : List yb} {h h' : yB}
theorem HS.frame0 (hs : HS m L h) (hc : HS (mp h) L' h') : HS m (L' ++ L) h' := by
 have h0 := hs.le hc.base;refine ⟨h0.base, fun e he => ?_, fun e he k hk => ?_, List.pairwise_append.2 ⟨hc.apart, h0.apart, fun a ha b hb k hk => ?_⟩⟩
 ·rcases List.mem_append.1 he with he | he
  ·exact hc.inv e he
  ·exact h0.inv e he
 ·rcases List.mem_append.1 he with he | he
  ·exact Le.none hs.base (hc.out e he k hk)
  ·exact h0.out e he k hk
 ·cases hbk : b.dom k with
  | false => rfl
  | true => exact absurd (hc.out a ha k hk) (b.has (hs.inv b hb) hbk)
variable {e : yb}
theorem HS.frame1 (hs : HS m (e :: r) h) (hc : HS (away e (mp h)) L' h') : HS m (L' ++ r) h' := by
 obtain ⟨h1, h2, h3, h4⟩ := HS.cons_iff.1 hs
 have same : ∀ x ∈ r, ∀ k, x.dom k = true -> away e (mp h) k = mp h k := fun x hx k hk => by
  unfold away;rw [if_neg];intro he;have := h4 x hx k he;rw [hk] at this;cases this
 have keep : ∀ k o, away e (mp h) k = some o -> mp h' k = some o := hc.base
 have same2 : ∀ x ∈ r, ∀ k, x.dom k = true -> mp h' k = mp h k := fun x hx k hk => by
  have h5 := same x hx k hk;cases h6 : mp h k with
  | none => exact absurd h6 (x.has (h1.inv x hx) hk)
  | some o => exact keep k o (by rw [h5, h6])
 have base : Le m (away e (mp h)) := fun k o hk => by
  unfold away;rw [if_neg]
  ·exact h1.base k o hk
  ·intro he; rw [h3 k he] at hk; cases hk
 refine ⟨base.trans hc.base, fun x hx => ?_, fun x hx k hk => ?_, List.pairwise_append.2 ⟨hc.apart, h1.apart, fun a ha b hb k hk => ?_⟩⟩
 ·rcases List.mem_append.1 hx with hx | hx
  ·exact hc.inv x hx
  ·exact x.loc (same2 x hx) (h1.inv x hx)
 ·rcases List.mem_append.1 hx with hx | hx
  ·exact Le.none base (hc.out x hx k hk)
  ·exact h1.out x hx k hk
 ·cases hbk : b.dom k with
  | false => rfl
  | true =>
    have h5 := hc.out a ha k hk;rw [same b hb k hbk] at h5;exact absurd h5 (b.has (h1.inv b hb) hbk)
theorem HS.away (hs : HS m (e :: r) h) : HS (away e (mp h)) [e] h /\ Le m (away e (mp h)) /\ HE r (Eng.away e (mp h)) := by
 obtain ⟨h1, h2, h3, h4⟩ := HS.cons_iff.1 hs;refine ⟨⟨fun k o hk => ?_, fun x hx => ?_, fun x hx k hk => ?_, List.pairwise_singleton _ _⟩, fun k o hk => ?_, fun x hx => ?_⟩
 ·unfold Eng.away at hk
  split at hk
  ·cases hk
  ·exact hk
 ·rw [List.mem_singleton.1 hx]; exact h2
 ·rw [List.mem_singleton.1 hx] at hk
  simp [Eng.away, hk]
 ·unfold Eng.away;rw [if_neg]
  ·exact h1.base k o hk
  ·intro he; rw [h3 k he] at hk; cases hk
 ·refine x.loc (fun k hk => ?_) (h1.inv x hx);unfold Eng.away;rw [if_neg];intro he;have := h4 x hx k he;rw [hk] at this;cases this
variable {args : List Operand} {ats : Array TypeId} {f : FuncId} {post : Value -> List yb -> Prop} {vs : Lv}
theorem yK (hcl : yX P f = true) (hx : Zb env args = some vs) (hc : ∀ m', Le m m' -> HE L m' -> CS P f vs m' [] post) (hn : Nat.blt d n = true) (hk : ∀ v L', post v L' -> K ((d, v) :: env) (L' ++ L)) : ve P n Q ⟨some d, .call ⟨.value (.func f), args.toArray, ats⟩, ty, pos, aft, gd⟩ env m L true K := fun h hs =>
 xW hcl hx (hc (mp h) hs.base hs.inv h (HS.nil (Le.refl _))) hn fun v h' ⟨L', h1, h2⟩ => ⟨fun _ => h2.base, _, hs.frame0 h2, hk v L' h1⟩
theorem RN (hcl : yX P f = true) (hx : Zb env args = some vs) (hT : Tk L e r) (hc : ∀ m', Le m m' -> HE r m' -> CS P f vs m' [e] post) (hn : Nat.blt d n = true) (hk : ∀ v L', post v L' -> K ((d, v) :: env) (L' ++ r)) : ve P n Q ⟨some d, .call ⟨.value (.func f), args.toArray, ats⟩, ty, pos, aft, gd⟩ env m L false K := fun h hs => by
 have h0 := hs.take hT;obtain ⟨h1, h2, h3⟩ := h0.away;exact xW hcl hx (hc _ h2 h3 h h1) hn fun v h' ⟨L', g1, g2⟩ => ⟨fun hf => (by cases hf), _, h0.frame1 g2, hk v L' g1⟩
theorem xB {R : Value -> Prop} (hcl : yX P f = true) (hx : Zb env args = some vs) (hc : ∀ m', Le m m' -> HE L m' -> CS P f vs m' [] fun v L' => R v /\ L' = []) (hn : Nat.blt d n = true) (hk : ∀ v, R v -> K ((d, v) :: env) L) : ve P n Q ⟨some d, .call ⟨.value (.func f), args.toArray, ats⟩, ty, pos, aft, gd⟩ env m L true K :=
 yK hcl hx hc hn fun v L' ⟨h1, h2⟩ => by subst h2; exact hk v h1
theorem uP {fv : Operand} {p q : Lv} (hcl : yX P f = true) (hf : ev env fv = some (.func (.func f) p.toArray q.toArray)) (hx : Zb env args = some vs) (hc : ∀ m', Le m m' -> HE L m' -> CS P f ((p ++ vs) ++ q) m' [] post) (hn : Nat.blt d n = true) (hk : ∀ v L', post v L' -> K ((d, v) :: env) (L' ++ L)) : ve P n Q ⟨some d, .call ⟨.value fv, args.toArray, ats⟩, ty, pos, aft, gd⟩ env m L true K := fun h hs =>
 qW (R := wB (mp h) post) hcl hf hx (hc (mp h) hs.base hs.inv h (HS.nil (Le.refl _))) hn fun v h' ⟨L', h1, h2⟩ => ⟨fun _ => h2.base, _, hs.frame0 h2, hk v L' h1⟩
theorem CS.toLe (hc : CS P f vs (mp h) [] post) : C P f vs.toArray h fun v h' => (∃ L', post v L') /\ Le (mp h) (mp h') :=
 (hc h (HS.nil (Le.refl _))).mono fun _ _ ⟨L', h1, h2⟩ => ⟨⟨L', h1⟩, h2.base⟩
end
end Go.Eng
namespace Go.Eng
def xI (s : Bt) (i : Nat) : Nat := (s.getD i 0).toNat
theorem Ov (s : Bt) (i : Nat) : xI s i < 256 := (s.getD i 0).toNat_lt
section
variable {P : Program} {n : Nat} {env : yW} {dst : Option Tmp} {ty : TypeId} {pos : String} {aft : Array Edge} {gd : Option (Nat × Bool)} {t yt : TypeId} {x y : Operand} {k : IntKind} {a b : Nat}
theorem xK (hx : ev env x = some (.int .i64 (a : Nat))) (hy : ev env y = some (.int .i64 (b : Nat))) (hr : a + b <= 9223372036854775807) : yz P n ⟨dst, .binOp .add t x y yt, ty, pos, aft, gd⟩ env (.int .i64 ((a + b : Nat) : Int)) :=
 wO hx hy (by rw [fK za za]; simp)
theorem RQ {ts : Array TypeId} (hx : ev env x = some (.int .i64 (a : Nat))) (hy : ev env y = some (.int .i64 (b : Nat))) : yz P n ⟨dst, .call ⟨.builtin .min, #[x, y], ts⟩, ty, pos, aft, gd⟩ env (.int .i64 ((min a b : Nat) : Int)) := by
 have := Fz (P := P) (n := n) (dst := dst) (ty := ty) (pos := pos) (aft := aft) (gd := gd) (ts := ts) hx hy;rwa [show min (a : Int) (b : Int) = ((min a b : Nat) : Int) by omega] at this
theorem cx {s : Bt} (hx : ev env x = some (.string (bs s))) (hy : ev env y = some (.int k (a : Nat))) (ht : gE P t = true) (h1 : a < s.length) : yz P n ⟨dst, .index t x y, ty, pos, aft, gd⟩ env (.int .u8 ((xI s a : Nat) : Int)) :=
 OY hx hy ht za za
theorem Z7 {src dk : TypeId} {k k' : IntKind} (hs : (P.underlying src).isSome = true) (hd : aN P dk k' = true) (hx : ev env x = some (.int k (a : Nat))) (hr : k'.wrap (a : Nat) = (a : Nat)) : yz P n ⟨dst, .convert src dk x, ty, pos, aft, gd⟩ env (.int k' (a : Nat)) := ww hs hd hx hr
variable {A : Oa} {c m : Nat}
theorem zo {sz : Nat} (ht : Uo P t = some sz) (hx : ev env x = some (.slice A m c)) (hy : ev env y = some (.int k (a : Nat))) (hA : A.isSome = true) (h1 : a < m) :
  yz P n ⟨dst, .indexAddr t x y, ty, pos, aft, gd⟩ env (.pointer (some ((sa A).add (a * sz)))) := zQ ht hx hy hA za za
theorem zw (ht : Uo P t = some 1) (hx : ev env x = some (.slice A m c)) (hy : ev env y = some (.int k (a : Nat))) (hA : A.isSome = true) (h1 : a < m) :
  yz P n ⟨dst, .indexAddr t x y, ty, pos, aft, gd⟩ env (.pointer (some ((sa A).add a))) := uQ ht hx hy hA za za
end
section
variable {P : Program} {n : Nat} {env : yW} {m : Mp} {L : List yb} {Q : yR} {K : yW -> List yb -> Prop} {d : Nat} {ty : TypeId} {pos : String} {aft : Array Edge} {gd : Option (Nat × Bool)} {x : Operand}
variable {b : Nat}
theorem XU {i : Nat} {l : Lv} {e : TypeId} {r : List yb} {v : Value} {dst : Option Tmp} {t : TypeId} (ht : single P t = true) (hx : ev env x = some (.pointer (some ((sa (some ⟨b, 0, none⟩)).add i)))) (hT : Tk L (cel b l e) r) (hv : l[i]? = some v) : ∀ h, HS m L h -> vj P n ⟨dst, .load t x, ty, pos, aft, gd⟩ env h v :=
 fun _ hs => yo ht hx ((Rd.blk (hs.get hT)).at_ hv)
theorem Z3 {p : Nat} {s : Bt} {r : Nat × Nat} {L' : List yb} (hx : ev env x = some (.pointer (some ⟨b, 0, none⟩))) (hp : p < s.length) (hr : Utf8.decode (bs s) p = r) (hT : gz L (db b s p) (db b s (p + r.2)) L') (hn : Nat.blt d n = true) (hk : K ((d, .tuple [.bool true, .int .i64 p, .int .i32 r.1].toArray) :: env) L') : ve P n Q ⟨some d, .next x true, ty, pos, aft, gd⟩ env m L false K := by
 subst hr;exact Fv hx hp hT hn hk
end
end Go.Eng
namespace Go.Eng
def vO : Nat -> List (Bt × Value) -> List MapEntry
 | _, [] => []
 | i, (k, v) :: r => ⟨.string (bs k), v, i⟩ :: vO (i + 1) r
def vb (k : Bt) : Nat -> List (Bt × Value) -> Option (Nat × Value)
 | _, [] => none
 | i, (k', v) :: r => if k = k' then some (i, v) else vb k (i + 1) r
def gv (es : List (Bt × Value)) (k : Bt) : Option Value := (vb k 0 es).map (·.2)
def gK (es : List (Bt × Value)) (k : Bt) (v : Value) : List (Bt × Value) := match vb k 0 es with
 | some (i, _) => es.set i (k, v)
 | none => es ++ [(k, v)]
def uF (r : Nat) (es : List (Bt × Value)) : yb := blk r (.map (vO 0 es).toArray es.length)
def fj (P : Program) (t : TypeId) : Option TypeId := match P.underlying t with
 | some (.map kt et) => match P.underlying kt with
   | some .string => some et
   | _ => none
 | _ => none
theorem Xa {P : Program} {t et : TypeId} (h : fj P t = some et) : ∃ kt, P.underlying t = some (.map kt et) /\ P.underlying kt = some .string := by
 unfold fj at h
 split at h
 ·rename_i kt et' hu
  split at h
  ·rename_i hk; simp only [Option.some.injEq] at h; subst h; exact ⟨kt, hu, hk⟩
  ·cases h
 ·cases h
theorem G7 {a b : Bt} : (bs a == bs b) = decide (a = b) := by
 show ((bs a).data == (bs b).data) = _;rw [Bool.eq_iff_iff, beq_iff_eq, decide_eq_true_eq]
 simp [bs]
theorem Xc (k : Bt) : ∀ (es : List (Bt × Value)) (i j : Nat), Instr.findNow .string (.string (bs k)) (vO j es) i = some (vb k i es)
 | [], _, _ => rfl
 | (k', v) :: r, i, j => by
   unfold vO Instr.findNow;simp only [Instr.sameNow, G7];by_cases h : k = k'
   ·simp [h, vb]
   ·simp only [h, decide_false];rw [Xc k r (i + 1) (j + 1)]
    simp [vb, h]
theorem WQ {k : Bt} : ∀ {es : List (Bt × Value)} {i j : Nat} {v : Value}, vb k i es = some (j, v) -> i <= j /\ es[j - i]? = some (k, v)
 | [], _, _, _, h => by cases h
 | (k', v') :: r, i, j, v, h => by
   unfold vb at h
   split at h
   ·rename_i hk
    injection h with h
    injection h with h1 h2
    subst h1 h2 hk
    simp
   ·obtain ⟨h1, h2⟩ := WQ h;refine ⟨by omega, ?_⟩;rw [show j - i = (j - (i + 1)) + 1 by omega]
    simpa using h2
theorem Up : ∀ (es : List (Bt × Value)) (i j : Nat), (vO i es)[j]? = (es[j]?).map fun p => ⟨.string (bs p.1), p.2, i + j⟩
 | [], _, _ => by simp [vO]
 | (k, v) :: r, i, 0 => by simp [vO]
 | (k, v) :: r, i, j + 1 => by simp [vO, Up r (i + 1) j]; congr 1; funext p; congr 1; omega
theorem GX (es : List (Bt × Value)) (i : Nat) (k : Bt) (v : Value) : vO i (es ++ [(k, v)]) = vO i es ++ [⟨.string (bs k), v, i + es.length⟩] := by
 induction es generalizing i with
 | nil => simp [vO]
 | cons p r ih => obtain ⟨k', v'⟩ := p; simp only [List.cons_append, vO, ih, List.length_cons]; rw [show i + 1 + r.length = i + (r.length + 1) by omega]
theorem Lh (es : List (Bt × Value)) (i j : Nat) (k : Bt) (v v0 : Value) (h : es[j]? = some (k, v0)) : vO i (es.set j (k, v)) = (vO i es).modify j fun e => { e with key := .string (bs k), val := v } := by
 induction es generalizing i j with
 | nil => simp at h
 | cons p r ih =>
   obtain ⟨k', v'⟩ := p;cases j with
   | zero => simp at h; obtain ⟨rfl, rfl⟩ := h; simp [vO]
   | succ j => simp only [List.set_cons_succ, vO, List.modify_succ_cons, ih _ _ (by simpa using h)]
section
variable {P : Program} {n : Nat} {env : yW} {m : Mp} {L r : List yb} {Q : yR} {K : yW -> List yb -> Prop} {dst : Option Tmp} {d : Nat} {ty : TypeId} {pos : String} {aft : Array Edge} {gd : Option (Nat × Bool)} {t et : TypeId} {x y z : Operand} {v : Value}
theorem qT (hn : Nat.blt d n = true) (hk : ∀ b, K ((d, .map (some b)) :: env) (uF b [] :: L)) : ve P n Q ⟨some d, .makeMap t none, ty, pos, aft, gd⟩ env m L true K := fun h hs =>
 qp rfl hn fun fx dr a ha => by
  refine ⟨h.push (.map #[] 0), dr, ?_, fun _ => fT h _, _, hs.new (e' := uF h.size []) (fT h _) (uA h _) (fun k hk => by have := QH hk; subst this; exact bG h), hk _⟩
  simp [execOp, Instr.makeMap, newObj, Sem.run, W]
variable {b c : Nat} {w : World}
theorem dJ {es : Array MapEntry} (hb : w.heap[b]? = some (.map es c)) : (getObj b).run P w = .ok (.map es c) w := by simp [getObj, Sem.run, hb]
theorem Wf {es : Array MapEntry} {o' : Obj} (hb : w.heap[b]? = some (.map es c)) : (setObj b o').run P w = .ok () { w with heap := w.heap.setIfInBounds b o' } := by simp [setObj, Sem.run, hb]
variable {kt : TypeId}
theorem ah (hk : P.underlying kt = some .string) (k : Bt) (es : List (Bt × Value)) : (Instr.findKey kt (.string (bs k)) (vO 0 es)).run P w = .ok (vb k 0 es) w := by
 simp only [Instr.findKey, Sem.run_bind, run_underlying hk, Result.andThen_ok, Xc]
 rfl
theorem kv (b : Bool) (hk : P.underlying kt = some .string) (k : Bt) : (Instr.checkKey b 10000 kt (.string (bs k))).run P w = .ok () w := by
 show (Instr.checkKey b (9999 + 1) kt (.string (bs k))).run P w = .ok () w;rw [Instr.checkKey];simp only [Sem.run_bind, run_underlying hk, Result.andThen_ok]
 rfl
variable {es : List (Bt × Value)} {zv : Value}
theorem j1 {fx : Fx} {h : yB} {dr : Nat} {k : Bt} {cm : Bool} (ht : fj P t = some et) (hb : mp h b = some (.map (vO 0 es).toArray es.length)) (hz : ∀ w, (zeroValue et).run P w = .ok zv w) :
  (Instr.lookup t (.map (some b)) (.string (bs k)) cm).run P (W fx h dr) = .ok (if cm then .tuple #[(gv es k).getD zv, .bool (gv es k).isSome] else (gv es k).getD zv) (W fx h dr) := by
 obtain ⟨kt, h1, h2⟩ := Xa ht;have hb' : (W fx h dr).heap[b]? = some (.map (vO 0 es).toArray es.length) := hb;simp only [Instr.lookup, Sem.run_bind, run_underlying h1, Result.andThen_ok, dJ hb', kv _ h2, Sem.run_pure];have hfk := ah (P := P) (w := W fx h dr) h2 k es;simp only [hfk, Result.andThen_ok];unfold gv;cases hf : vb k 0 es with
 | none => simp [hz]
 | some p => simp
theorem cr {k : Bt} (ht : fj P t = some et) (hx : ev env x = some (.map (some b))) (hy : ev env y = some (.string (bs k))) (hT : Tk L (uF b es) r) (hzz : ∀ w, (zeroValue et).run P w = .ok zv w) :
  ∀ h, HS m L h -> vj P n ⟨dst, .lookup t x y false, ty, pos, aft, gd⟩ env h ((gv es k).getD zv) := fun h hs a w ha hl => by
 have h1 : mp w.heap b = some (.map (vO 0 es).toArray es.length) := hl _ _ (hs.get hT);have := j1 (P := P) (fx := ⟨w.tape, w.os, w.output, []⟩) (h := w.heap) (dr := w.drawn) (cm := false) (k := k) ht h1 hzz;simp only [execOp, ha.eval hx, ha.eval hy, Sem.run_bind];rw [<- Rz] at this;rw [this]
 rfl
theorem UJ {k : Bt} (ht : fj P t = some et) (hx : ev env x = some (.map (some b))) (hy : ev env y = some (.string (bs k))) (hT : Tk L (uF b es) r) (hzz : ∀ w, (zeroValue et).run P w = .ok zv w) :
  ∀ h, HS m L h -> vj P n ⟨dst, .lookup t x y true, ty, pos, aft, gd⟩ env h (.tuple [(gv es k).getD zv, .bool (gv es k).isSome].toArray) := fun h hs a w ha hl => by
 have h1 : mp w.heap b = some (.map (vO 0 es).toArray es.length) := hl _ _ (hs.get hT);have := j1 (P := P) (fx := ⟨w.tape, w.os, w.output, []⟩) (h := w.heap) (dr := w.drawn) (cm := true) (k := k) ht h1 hzz;simp only [execOp, ha.eval hx, ha.eval hy, Sem.run_bind];rw [<- Rz] at this;rw [this]
 rfl
def Mb (P : Program) (t : TypeId) (v : Value) : Prop := ∀ w, (zeroValue t).run P w = .ok v w
theorem Jk {i : TypeInfo} (h : P.info? t = some i) (hz : i.zero = some v) : Mb P t v := fun w => by simp [zeroValue, typeInfo, h, hz]
theorem wY {k : Bt} {L' : List yb} (ht : fj P t = some et) (hx : ev env x = some (.map (some b))) (hy : ev env y = some (.string (bs k))) (hz : ev env z = some v) (hT : gz L (uF b es) (uF b (gK es k v)) L') (hk : K env L') : ve P n Q ⟨none, .mapUpdate t x y z, ty, pos, aft, gd⟩ env m L false K := fun h hs => by
 obtain ⟨r, g1, g2⟩ := hT.split;have h3 := hs.take g1;have hb : mp h b = some (.map (vO 0 es).toArray es.length) := h3.head;have hblt := qN hb;obtain ⟨kt, u1, u2⟩ := Xa ht
 have put : ∀ o : Obj, (uF b (gK es k v)).inv (mp (h.setIfInBounds b o)) -> HS m L' (h.setIfInBounds b o) := fun o ho =>
  (h3.upd (e' := uF b (gK es k v)) (fun j _ hj => by
   have hne : b ≠ j := by rintro rfl; simp [uF, blk] at hj
   simp [mp, Array.getElem?_setIfInBounds, hne]) ho fun j hj => .inl hj).untake g2
 refine gI rfl fun fx dr a ha => ?_;have hb' : (W fx h dr).heap[b]? = some (.map (vO 0 es).toArray es.length) := hb;have hfk := ah (P := P) (w := W fx h dr) u2 k es;cases hf : vb k 0 es with
 | none =>
   rw [hf] at hfk;refine ⟨h.setIfInBounds b (.map ((vO 0 es).toArray.push ⟨.string (bs k), v, es.length⟩) (es.length + 1)), dr, ?_, fun hh => (by cases hh), L', put _ ?_, hk⟩
   ·simp only [execOp, ha.eval hx, ha.eval hy, ha.eval hz, Instr.mapUpdate, Sem.run_bind, run_underlying u1, Result.andThen_ok, dJ hb', kv _ u2, hfk, Wf hb', Sem.run_pure]
    rfl
   ·show mp _ b = _;simp only [gK, hf, GX, Nat.zero_add]
    simp [mp, hblt]
 | some p =>
   obtain ⟨i, v0⟩ := p;rw [hf] at hfk;obtain ⟨_, hg⟩ := WQ hf;simp only [Nat.sub_zero] at hg;have hgi : ((vO 0 es).toArray)[i]? = some ⟨.string (bs k), v0, i⟩ := by rw [List.getElem?_toArray, Up, hg]; simp
   have hkey : (((vO 0 es).toArray[i]?).map (·.key)).getD (.string (bs k)) = .string (bs k) := by rw [hgi]; rfl
   have hst : (Instr.keyThatStays (.string (bs k)) (.string (bs k))).run P (W fx h dr) = .ok (.string (bs k)) (W fx h dr) := by
    unfold Instr.keyThatStays;rw [if_pos]
    ·rfl
    ·show Instr.sameBits (9999 + 1) _ _ = true;show (bs k == bs k) = true;rw [G7]
     simp
   refine ⟨h.setIfInBounds b (.map ((vO 0 es).toArray.modify i fun e => { e with key := .string (bs k), val := v }) es.length), dr, ?_, fun hh => (by cases hh), L', put _ ?_, hk⟩
   ·simp only [execOp, ha.eval hx, ha.eval hy, ha.eval hz, Instr.mapUpdate, Sem.run_bind, run_underlying u1, Result.andThen_ok, dJ hb', kv _ u2, hfk, hkey, hst, Wf hb', Sem.run_pure]
    rfl
   ·show mp _ b = _;simp only [gK, hf, Lh es 0 i k v v0 hg, List.length_set]
    simp [mp, hblt]
end
end Go.Eng
namespace Go.Eng
inductive Dt where
 | i (k : IntKind) (n : Int)
 | s (t : Bt)
 | b (x : Bool)
deriving DecidableEq
inductive Dk where
 | i (k : IntKind)
 | s
 | b
deriving DecidableEq
def Dt.v : Dt -> Value
 | .i k n => .int k n
 | .s t => .string (bs t)
 | .b x => .bool x
def Dt.k : Dt -> Dk
 | .i k _ => .i k
 | .s _ => .s
 | .b _ => .b
def NV : TypeDesc -> Option Dk
 | .int k => some (.i k)
 | .string => some .s
 | .bool => some .b
 | _ => none
def Yq (P : Program) : Nat -> List Field -> Option (List Dk)
 | _, [] => some []
 | o, f :: fs => match (P.underlying f.type).bind NV with
   | some k => if f.name ≠ "_" /\ f.offset = o then (Yq P (o + 1) fs).map (k :: ·) else none
   | none => none
def I3 (P : Program) (t : TypeId) : Option (List Dk) := if P.stoodInHeld t || P.eqGuardType P.depth t then none else match P.underlying t with
 | some (.struct fs) => Yq P 0 fs.toList
 | _ => none
variable {P : Program} {d t : Nat} {w : World}
theorem U4 {k : Dk} {x y : Dt} (hu : (P.underlying t).bind NV = some k) (hx : x.k = k) (hy : y.k = k) : (Op.equalIn (d + 1) t x.v y.v).run P w = .ok (decide (x = y)) w := by
 cases hd : P.underlying t with
 | none => rw [hd] at hu; cases hu
 | some td =>
   rw [hd] at hu;simp only [Option.bind_some] at hu;cases td <;> simp only [NV, Option.some.injEq, reduceCtorEq] at hu
   all_goals (subst hu; cases x <;> simp only [Dt.k, Dk.i.injEq, reduceCtorEq] at hx <;> cases y <;> simp only [Dt.k, Dk.i.injEq, reduceCtorEq] at hy)
   ·simp [Op.equalIn, run_underlying hd, Dt.v]; rfl
   ·subst hx hy; simp [Op.equalIn, run_underlying hd, Dt.v]; rfl
   ·simp [Op.equalIn, run_underlying hd, Dt.v, G7]
theorem HN {k : Dk} (hu : (P.underlying t).bind NV = some k) : single P t = true := by
 unfold single;cases hd : P.underlying t with
 | none => rw [hd] at hu; cases hu
 | some td => rw [hd] at hu; cases td <;> simp [NV] at hu ⊢
theorem Xe {P : Program} {d : Nat} {w : World} {xs ys : Array Value} : ∀ {fs : List Field} {ks : List Dk} {o : Nat} {as bs : List Dt}, Yq P o fs = some ks -> as.map Dt.k = ks -> bs.map Dt.k = ks ->
  (∀ i u, (as.map Dt.v)[i]? = some u -> xs[o + i]? = some u) -> (∀ i u, (bs.map Dt.v)[i]? = some u -> ys[o + i]? = some u) -> (Op.eqFields (d + 1) xs ys fs).run P w = .ok (decide (as = bs)) w
 | [], ks, o, as, bs, hf, ha, hb, _, _ => by
   simp only [Yq, Option.some.injEq] at hf;subst hf;have e1 : as = [] := by simpa using ha
   have e2 : bs = [] := by simpa using hb
   subst e1 e2
   simp [Op.eqFields]
 | f :: fs, ks, o, as, bs, hf, ha, hb, hx, hy => by
   unfold Yq at hf
   split at hf
   ·rename_i k hu
    split at hf
    ·rename_i hc
     obtain ⟨hn, ho⟩ := hc;cases hr : Yq P (o + 1) fs with
     | none => rw [hr] at hf; cases hf
     | some ks' =>
       rw [hr] at hf;simp only [Option.map_some, Option.some.injEq] at hf;subst hf
       match as, bs, ha, hb with
       | a :: as, b :: bs, ha, hb =>
         simp only [List.map_cons, List.cons.injEq] at ha hb;have h1 := hx 0 a.v yA;have h2 := hy 0 b.v yA
         have ih := Xe (P := P) (d := d) (w := w) (xs := xs) (ys := ys) hr ha.2 hb.2
          (fun i u hi => by have := hx (i + 1) u (by simpa using hi); rwa [show o + (i + 1) = o + 1 + i by omega] at this)
          (fun i u hi => by have := hy (i + 1) u (by simpa using hi); rwa [show o + (i + 1) = o + 1 + i by omega] at this)
         have hs := HN hu;have he := U4 (P := P) (w := w) (d := d) hu ha.1 hb.1;subst ho;simp only [Nat.add_zero] at h1 h2
         simp [Op.eqFields, hn, part, kY hs, h1, h2, he]
         by_cases hab : a = b
         ·subst hab; simp [ih]
         ·simp [hab]
    ·cases hf
   ·cases hf
section
variable {P : Program} {n : Nat} {env : yW} {dst : Option Tmp} {ty : TypeId} {pos : String} {aft : Array Edge} {gd : Option (Nat × Bool)} {t yt : Nat} {x y : Operand} {ks : List Dk} {as bs : List Dt}
theorem U3 (hk : I3 P t = some ks) (ha : as.map Dt.k = ks) (hb : bs.map Dt.k = ks) (w : World) :
  (∀ op, (eqGuard op t x y (.agg (as.map Dt.v).toArray) (.agg (bs.map Dt.v).toArray)).run P w = .ok () w) /\ (Op.equal t (.agg (as.map Dt.v).toArray) (.agg (bs.map Dt.v).toArray)).run P w = .ok (decide (as = bs)) w := by
 unfold I3 at hk
 split at hk
 ·cases hk
 ·rename_i hno
  simp only [Bool.or_eq_true, not_or, Bool.not_eq_true] at hno
  split at hk
  ·rename_i fs hu
   refine ⟨fun op => ?_, ?_⟩
   ·unfold eqGuard
    simp [hno.2]
   ·have hf : P.fieldsOf t = fs := by unfold Program.fieldsOf; rw [hu]
    have hu' : P.underlying t = some (.struct (P.fieldsOf t)) := by rw [hf]; exact hu
    show (Op.equalIn (9998 + 1 + 1) t _ _).run P w = _;rw [run_equalIn_struct w (9998 + 1) t _ _ hu' hno.1, hf];exact Xe hk ha hb (fun i u hi => by simpa using hi) (fun i u hi => by simpa using hi)
  ·cases hk
theorem K3 (as bs : List Dt) (hk : I3 P t = some ks) (ha : as.map Dt.k = ks) (hb : bs.map Dt.k = ks) (hx : ev env x = some (.agg (as.map Dt.v).toArray)) (hy : ev env y = some (.agg (bs.map Dt.v).toArray)) :
  yz P n ⟨dst, .binOp .eql t x y yt, ty, pos, aft, gd⟩ env (.bool (decide (as = bs))) := by
 intro a w hag;obtain ⟨h1, h2⟩ := U3 (x := x) (y := y) hk ha hb w
 simp [execOp, hag.eval hx, hag.eval hy, h1, binOp, h2]
end
section
variable {P : Program} {n : Nat} {env : yW} {m : Mp} {L r : List yb} {dst : Option Tmp} {ty : TypeId} {pos : String} {aft : Array Edge} {gd : Option (Nat × Bool)} {t : TypeId} {x y : Operand} {v : Value}
end
section
variable {P : Program} {n : Nat} {env : yW} {m : Mp} {L r : List yb} {Q : yR} {p : Prop} {l0 l : List Oper}
theorem Hq {c : Code} (hf : ∀ h, HS m L h -> p) (hk : p -> TS P n c env m L Q) : TS P n c env m L Q := fun h hs => hk (hf h hs) h hs
theorem GG {e sz c : Nat} {A : Oa} {xs : Lv} (hT : Tk L (own e sz A n c xs) r) (h0 : 0 < xs.length) : ∀ h, HS m L h -> A.isSome = true := fun _ hs => (Own.rd (hs.get hT)).isSome h0
end
end Go.Eng
namespace Go.Eng
section
variable {P : Program} {Q : Exit -> Act -> World -> Prop} {next : Act -> World -> Prop}
end
section
variable {P : Program} {n : Nat} {env : yW} {m : Mp} {L : List yb} {Q : yR}
def SN (Q : yR) : Prop := ∀ env h, ¬ Q .outgrown env h
theorem SN.lets {x : Fx} (h : SN Q) : ¬ LetsOut (ZA n x Q) := fun ⟨_, _, _, _, _, _, _, hq⟩ => h _ _ hq
def Ei (m : Mp) (K : yW -> List yb -> Prop) (Q : yR) : yR
 | .normal, env, h => ∃ L', HS m L' h /\ K env L'
 | .ret, env, h => Q .ret env h
 | _, _, _ => False
theorem Q7 {K : yW -> List yb -> Prop} (L' : List yb) (hp : zN L L') (hk : K env L') : QS (Ei m K Q) .normal env m L := fun h hs => ⟨L', hp m h hs, hk⟩
end
section
variable {P : Program} {n : Nat} {env : yW} {m : Mp} {L : List yb} {Q : Exit -> Act -> World -> Prop} {x : Fx} {h : yB} {d : Nat} {a : Act} {K : yW -> List yb -> Prop}
def noQ : yR := fun _ _ _ => False
theorem Zc {A B : Code} (ht : TS P n A env m L (Ei m K noQ)) (hs : HS m L h) (hag : dB n x env a) (hk : ∀ env' L' h' d' a', K env' L' -> HS m L' h' -> dB n x env' a' -> B.wp P Q a' (W x h' d')) : (Code.seq A B).wp P Q a (W x h d) := by
 refine wp_seq (wp_mono (ht h hs x d a hag) ?_);rintro e a' w' ⟨env', h', d', hag', rfl, hq⟩;cases e with
 | normal => obtain ⟨L', hs', hb⟩ := hq; exact hk _ _ _ _ _ hb hs' hag'
 | ret => exact hq.elim
 | exit i => exact hq.elim
 | goto i => exact hq.elim
 | panic c => exact hq.elim
 | outgrown => exact hq.elim
theorem Ry {l : Lv} {t : Nat -> Question -> Nat} {o : Os} {u : Array (Nat × ByteArray)} (hl : l.length <= n) : dB n ⟨t, o, u, []⟩ (WT l 0) { tmps := l.toArray ++ Array.replicate (n - l.toArray.size) undef, defers := [] } := by
 refine ⟨⟨?_, ?_⟩, rfl⟩
 ·simp; omega
 ·intro t v hv;rw [XN] at hv;simp only [Nat.zero_le, if_true, Nat.sub_zero] at hv;have hlt : t < l.length := (List.getElem?_eq_some_iff.1 hv).1;rw [Array.getElem?_append_left (by simpa using hlt)]
  simpa using hv
theorem Do {c : Code} {w : World} (e : w = W x h d) (hk : ∀ a, dB n x env a -> c.wp P Q a (W x h d)) (hag : dB n x env a) : c.wp P Q a w := by
 rw [e]; exact hk a hag
variable {l l0 : List Oper} {o : Oper} {v : Value} {t : Nat} {k : Nat} {w : World}
end
def L4 (e : yb) : Prop := ∀ (m : Mp) (k : Nat), e.inv m -> e.dom k = true -> ∃ o : Obj, m k = some o /\ o.isCells = true
section
variable {m : Mp} {L : List yb} {h h' : yB}
theorem HS.grow {row : Option Nat} (hs : HS m L h) (hc : ∀ e ∈ L, L4 e) (hg : ∀ k, k < h.size -> some k ≠ row -> h'[k]? = h[k]?) (hrow : ∀ r, row = some r -> m r = none /\ ∃ o : Obj, h[r]? = some o /\ o.isCells = false) : HS m L h' := by
 refine ⟨fun k o hk => ?_, fun e he => ?_, hs.out, hs.apart⟩
 ·have h1 := hs.base k o hk;have hlt : k < h.size := (Array.getElem?_eq_some_iff.1 h1).1;refine (hg k hlt ?_).trans h1;intro e;rw [(hrow k e.symm).1] at hk;cases hk
 ·refine e.loc (fun k hk => ?_) (hs.inv e he);obtain ⟨o, h1, h2⟩ := hc e he _ k (hs.inv e he) hk;have hlt : k < h.size := (Array.getElem?_eq_some_iff.1 h1).1;refine hg k hlt ?_;intro e';obtain ⟨_, o', g1, g2⟩ := hrow k e'.symm;rw [show h[k]? = some o from h1] at g1;cases g1;rw [h2] at g2;cases g2
theorem HS.weak {m' : Mp} (hs : HS m' L h) (hl : Le m m') : HS m L h := ⟨hl.trans hs.base, hs.inv, fun e he k hk => by
 cases hm : m k with
 | none => rfl
 | some o => exact absurd (hl k o hm) (by rw [hs.out e he k hk]; intro c; cases c), hs.apart⟩
end
end Go.Eng
namespace Go.Eng
def pan (v : Value) : List PanicEntry := [{ v, recovered := false }]
def CP (P : Program) (f : FuncId) (args : Array Value) (h : yB) (R Rp : Value -> yB -> Prop) : Prop :=
 ∀ (x : Fx) (d : Nat), Calls P f args (W x h d) fun e w' => ∃ v h' d', w' = W x h' d' /\ ((e = .returned v /\ R v h') \/ (e = .panicked (pan v) /\ Rp v h'))
variable {P : Program} {R Rp : Value -> yB -> Prop} {f : FuncId} {h : yB}
theorem CP.of {args : Array Value} (hc : C P f args h R) : CP P f args h R Rp := fun x d =>
 (hc x d).mono fun _ _ ⟨v, h', d', h1, h2, h3⟩ => ⟨v, h', d', h2, .inl ⟨h1, h3⟩⟩
def VA (P : Program) (rs : List ResultVar) (R Rp : Value -> yB -> Prop) : yR
 | .normal, env, h => ∃ vs, qC P env h rs vs /\ R (ao vs) h
 | .ret, env, h => ∃ vs, qC P env h rs vs /\ R (ao vs) h
 | .panic c, _, h => ∃ v, c = pan v /\ Rp v h
 | _, _, _ => False
theorem DD {fn : Func} {c : Code} {l : Lv} (rs : List ResultVar) (hf : P.funcs[f]? = some fn) (hb : fn.body = some c) (hrs : fn.results = rs.toArray) (hl : Nat.ble l.length fn.ntmps = true) (ht : T P fn.ntmps c (WT l 0) h (VA P rs R Rp)) : CP P f l.toArray h R Rp := by
 intro x d;refine calls_of_wp hf hb (wp_mono (ht ⟨x.tape, x.os, x.out, []⟩ d _ (Ry (Nat.le_of_ble_eq_true hl))) ?_);rintro e a w' ⟨env, h', d', hag, rfl, hq⟩;cases e with
 | normal =>
   obtain ⟨vs, h1, h2⟩ := hq;exact ⟨hag.defers, _, h1.results hrs hag.toAg, _, h', d', rfl, .inl ⟨rfl, h2⟩⟩
 | ret =>
   obtain ⟨vs, h1, h2⟩ := hq;exact ⟨hag.defers, _, h1.results hrs hag.toAg, _, h', d', rfl, .inl ⟨rfl, h2⟩⟩
 | exit i => exact hq.elim
 | goto l => exact hq.elim
 | panic c =>
   obtain ⟨v, rfl, h2⟩ := hq;exact ⟨hag.defers, v, h', d', rfl, .inr ⟨rfl, h2⟩⟩
 | outgrown => exact hq.elim
section
variable {P : Program} {n : Nat} {env : yW} {h : yB} {Q : yR} {K : yW -> yB -> Prop} {d : Nat} {ty : TypeId} {pos : String} {aft : Array Edge} {gd : Option (Nat × Bool)}
theorem RY {f : FuncId} {args : List Operand} {ats : Array TypeId} {vs : Lv} {R Rp : Value -> yB -> Prop} (hcl : yX P f = true) (hx : Zb env args = some vs) (hc : CP P f vs.toArray h R Rp) (hn : Nat.blt d n = true)
  (hk : ∀ v h', R v h' -> K ((d, v) :: env) h') (hp : ∀ v h', Rp v h' -> Q (.panic (pan v)) env h') : gj P n Q ⟨some d, .call ⟨.value (.func f), args.toArray, ats⟩, ty, pos, aft, gd⟩ env h K := by
 intro fx dr a ha;have h1 := aR ha.toAg hx
 have h2 : (execOp a.eval ⟨some d, .call ⟨.value (.func f), args.toArray, ats⟩, ty, pos, aft, gd⟩).run P (W fx h dr) = .ok (.enter f vs.toArray) (W fx h dr) := by
  simp only [execOp, resolve, h1, Act.eval, Deferred.ofValue, Sem.run_bind, Sem.run_pure, Result.andThen_ok, invoke, Array.empty_append, Array.append_empty];exact jj hcl _ _
 unfold Oper.wp;rw [h2, Oper.upon_enter];refine (hc fx dr).mono ?_;rintro e w' ⟨v, h', d', rfl, ⟨rfl, hr⟩ | ⟨rfl, hr⟩⟩
 ·exact ⟨_, h', d', ha.put d v (by simpa [Nat.blt_eq] using hn), rfl, hk v h' hr⟩
 ·exact ⟨_, h', d', ha, rfl, hp v h' hr⟩
theorem RX {dst : Option Tmp} {y : Operand} {t : TypeId} {v : Value} (hx : ev env y = some (.iface t v)) (hq : Q (.panic (pan (.iface t v))) env h) : gj P n Q ⟨dst, .panic y, ty, pos, aft, gd⟩ env h K := by
 intro fx dr a ha
 have h2 : (execOp a.eval ⟨dst, .panic y, ty, pos, aft, gd⟩).run P (W fx h dr) = .halt (.panic (.iface t v)) (W fx h dr) := by
  simp only [execOp, ha.toAg.eval hx, Instr.panic, goPanic]
  rfl
 unfold Oper.wp;rw [h2, Oper.upon_panic];exact ⟨env, h, dr, ha, rfl, hq⟩
end
section
variable {P : Program} {n : Nat} {env : yW} {dst : Option Tmp} {ty : TypeId} {pos : String} {aft : Array Edge} {gd : Option (Nat × Bool)} {x : Operand} {t u xt : TypeId} {v zv : Value}
theorem gk (ht : uJ P t = false) (hs : (P.underlying t).isSome = true) (hx : ev env x = some (.iface t v)) : yz P n ⟨dst, .typeAssert x xt t true, ty, pos, aft, gd⟩ env (.tuple #[v, .bool true]) := by
 intro a' w ha;obtain ⟨ds, hds⟩ := Option.isSome_iff_exists.1 hs;unfold uJ at ht;rw [hds] at ht;simp only [execOp, Instr.typeAssert, ha.eval hx];cases ds <;> simp_all [run_underlying hds]
theorem d9 (ht : uJ P t = false) (hs : (P.underlying t).isSome = true) (hx : ev env x = some (.iface u v)) (hne : Nat.beq u t = false) (hz : ∀ w, (zeroValue t).run P w = .ok zv w) : yz P n ⟨dst, .typeAssert x xt t true, ty, pos, aft, gd⟩ env (.tuple #[zv, .bool false]) := by
 intro a' w ha;obtain ⟨ds, hds⟩ := Option.isSome_iff_exists.1 hs;have hut : ¬ u = t := fun e => by rw [e, Nat.beq_refl] at hne; cases hne
 unfold uJ at ht;rw [hds] at ht;simp only [execOp, Instr.typeAssert, ha.eval hx];cases ds <;> simp_all [run_underlying hds]
end
section
variable {P : Program} {n : Nat} {env : yW} {h : yB} {m : Mp} {L : List yb} {Q : yR} {d : Nat} {ty : TypeId} {pos : String} {aft : Array Edge} {gd : Option (Nat × Bool)}
end
section
variable {P : Program} {n : Nat} {env : yW} {m : Mp} {L : List yb} {Q : yR} {l : List Oper} {wild : Nat -> Bool} {t : OT} {o : Oper} {v : Value} {d i : Nat}
theorem vg {K : yW -> List yb -> Prop} (hr : ∀ h, HS m L h -> vj P n o env h v) (hd : o.dst = some d) (hn : Nat.blt d n = true) (hk : K ((d, v) :: env) L) : ve P n Q o env m L true K := fun h hs => (hr h hs).step hd hn ⟨fun _ => Le.refl _, L, hs, hk⟩
theorem qR (ho : fe l i = some o) (hr : ∀ h, HS m L h -> vj P n o env h v) (hd : o.dst = some d) (hn : Nat.blt d n = true) (hw : wanted l env o = some true) (hk : ZZ P n l wild t ((d, v) :: env) m L Q) : ZZ P n l wild (.step i .kept t) env m L Q :=
 y7 ho (vg hr hd hn hk) hw
end
end Go.Eng
namespace Go.Eng
variable {m : Mp}
theorem HS.congr {L : List yb} {h h' : yB} (hs : HS m L h) (e : mp h' = mp h) : HS m L h' := ⟨by rw [e]; exact hs.base, by rw [e]; exact hs.inv, hs.out, hs.apart⟩
def Wc (m : Mp) (a : Addr) (v : Value) : Prop := mc m a = some v /\ Tm m a = false
theorem Wc.mono {m' : Mp} (h : Le m m') {a : Addr} {v : Value} (hc : Wc m a v) : Wc m' a v := by
 refine ⟨xv h hc.1, ?_⟩;obtain ⟨h1, h2⟩ := hc;unfold mc at h1;cases hb : m a.block with
 | none => rw [hb] at h1; cases h1
 | some o =>
   unfold Tm at h2 ⊢;rw [hb] at h2;rw [h _ _ hb];exact h2
variable {i : Nat}
theorem Wc.cel {b : Nat} {l : Lv} {e : TypeId} {v : Value} (hi : (cel b l e).inv m) (hv : cF l i = some v) : Wc m ⟨b, i, none⟩ v :=
 ⟨zZ hi hv, by have h1 : m b = some (.cells l.toArray e (0, 0)) := hi; simp [Tm, h1]⟩
theorem Wc.own {e sz k c : Nat} {A : Oa} {xs : Lv} {v : Value} (hi : Own m e sz A k c xs) (hv : xs[i]? = some v) : Wc m ((sa A).add i) v := by
 refine ⟨(Own.rd hi).at_ hv, ?_⟩;have hs := (Own.rd hi i v hv).1;obtain ⟨_, _, ⟨rfl, _⟩ | ⟨g, o, cur, rfl, hg, _⟩⟩ := hi
 ·cases hs
 ·have : (sa (some (⟨g, o, none⟩ : Addr))).add i = ⟨g, o + i, none⟩ := by show (⟨g, o, none⟩ : Addr).add i = _; rw [Addr.add_lit]
  rw [this]
  simp [Tm, hg]
section
variable {P : Program} {n : Nat} {env : yW} {m : Mp} {L r : List yb} {Q : yR} {K : yW -> List yb -> Prop} {d : Nat} {ty : TypeId} {pos : String} {aft : Array Edge} {gd : Option (Nat × Bool)} {t : TypeId} {x y : Operand} {v : Value}
theorem xZ {a : Addr} {dst : Option Tmp} (ht : single P t = true) (hx : ev env x = some (.pointer (some a))) (hc : Wc m a v) : ∀ h, HS m L h -> vj P n ⟨dst, .load t x, ty, pos, aft, gd⟩ env h v := zl ht hx hc.1
structure Fy (a : Addr) (E : Value -> yb) : Prop where
 wc : ∀ {m : Mp} {u : Value}, (E u).inv m -> Wc m a u
 set : ∀ {m : Mp} {r : List yb} {h : yB} {u v : Value}, HS m (E u :: r) h -> HS m (E v :: r) (VE h a v)
variable {b : Nat}
theorem I6 {k : Nat} {o : Obj} (hk : (blk b o).dom k = false) : k ≠ b := by rintro rfl; simp [blk] at hk
theorem Fy.cel {i : Nat} {l : Lv} {e : TypeId} (hi : i < l.length) : Fy ⟨b, i, none⟩ (fun v => cel b (l.set i v) e) where
 wc := fun {m u} h => Wc.cel (l := l.set i u) h (by rw [<- cE]; simp [hi])
 set := fun {m r h u v} hs => by
  refine hs.upd (e' := Eng.cel b (l.set i v) e) (fun k _ hk => cQ h _ v (I6 hk)) ?_ fun k hk => .inl hk;have := XG (i := i) h v (l := l.set i u) (e := e) (fr := (0, 0)) hs.head;show mp _ b = _;rw [this, List.set_set]
variable {A : Oa} {c i sz : Nat}
theorem Fy.own {e k : Nat} {xs : Lv} (hi : i < xs.length) : Fy ((sa A).add i) (fun v => own e sz A k c (xs.set i v)) where
 wc := fun {m u} h => Wc.own (xs := xs.set i u) h (by simp [hi])
 set := fun {m r h u v} hs => by
  have ho : Own (mp h) e sz A k c (xs.set i u) := hs.head;obtain ⟨hl, hc, ⟨rfl, rfl⟩ | ⟨g, o, cur, rfl, hg, hcm, hcs, htake⟩⟩ := ho
  ·simp only [List.length_set] at hl;have h1 : k = 0 := by omega
   rw [h1] at hl;omega
  ·have hsa : (sa (some (⟨g, o, none⟩ : Addr))).add i = ⟨g, o + i, none⟩ := by show (⟨g, o, none⟩ : Addr).add i = _; rw [Addr.add_lit]
   rw [hsa];have hg' : mp h g = some (.cells cur.toList.toArray e (0, 0)) := by simpa using hg
   refine hs.upd (e' := Eng.own e sz (some ⟨g, o, none⟩) k c (xs.set i v)) (fun j _ hj => cQ h _ v ?_) ?_ fun j hj => .inl hj
   ·intro e;subst e;have hj' : aP (some ⟨_, o, none⟩) _ = false := hj
    simp [aP, ap] at hj'
   ·refine ⟨by simpa using hl, hc, .inr ⟨g, o, _, rfl, XG h v hg', hcm, by simpa using hcs, ?_⟩⟩;simp only [List.length_set] at hl;rw [show xs.set i v = (xs.set i u).set i v from by rw [List.set_set], <- htake];simp only [List.drop_set, Nat.add_sub_cancel_left]
    split
    ·omega
    ·rw [List.take_set]
structure RP (a : Addr) (E : Lv -> yb) (q : Nat) : Prop where
 at_ : ∀ {l : Lv} {i : Nat}, l.length = q -> i < q -> Fy (a.add i) (fun v => E (l.set i v))
variable {o q : Nat}
theorem RP.cel {b : Nat} {l : Lv} {e : TypeId} (hi : o + q <= l.length) : RP ⟨b, o, none⟩ (fun w => cel b (l.take o ++ w ++ l.drop (o + q)) e) q where
 at_ := fun {w i} hw hiq => by
  rw [Addr.add_lit];have := Fy.cel (b := b) (i := o + i) (l := l.take o ++ w ++ l.drop (o + q)) (e := e) (by simp; omega)
  have e1 : (fun v => Eng.cel b ((l.take o ++ w ++ l.drop (o + q)).set (o + i) v) e) = (fun v => Eng.cel b (l.take o ++ w.set i v ++ l.drop (o + q)) e) := by
   funext v
   congr 1
   rw [List.append_assoc, List.set_append_right _ _ (by simp; omega), List.set_append_left _ _ (by simp; omega), List.append_assoc]
   congr 3
   simp
   omega
  rw [e1] at this;exact this
theorem RP.own {e sz k c : Nat} {A : Oa} {xs : Lv} (hi : o + q <= xs.length) : RP ((sa A).add o) (fun w => own e sz A k c (xs.take o ++ w ++ xs.drop (o + q))) q where
 at_ := fun {w i} hw hiq => by
  rw [XP];have := Fy.own (e := e) (sz := sz) (k := k) (c := c) (A := A) (i := o + i) (xs := xs.take o ++ w ++ xs.drop (o + q)) (by simp; omega)
  have e1 : (fun v => Eng.own e sz A k c ((xs.take o ++ w ++ xs.drop (o + q)).set (o + i) v)) = (fun v => Eng.own e sz A k c (xs.take o ++ w.set i v ++ xs.drop (o + q))) := by
   funext v
   congr 1
   rw [List.append_assoc, List.set_append_right _ _ (by simp; omega), List.set_append_left _ _ (by simp; omega), List.append_assoc]
   congr 3
   simp
   omega
  rw [e1] at this;exact this
end
inductive Z2 : Lv -> Nat -> Lv -> Lv -> Prop
 | nil {r : Lv} : Z2 r 0 [] r
 | cons {u v : Value} {r vs r' : Lv} (h : Z2 r 0 vs r') : Z2 (u :: r) 0 (v :: vs) (v :: r')
 | there {u : Value} {r vs r' : Lv} {i : Nat} (h : Z2 r i vs r') : Z2 (u :: r) (i + 1) vs (u :: r')
theorem Z2.eq {l vs l' : Lv} {i : Nat} (h : Z2 l i vs l') : i + vs.length <= l.length /\ l' = l.take i ++ vs ++ l.drop (i + vs.length) := by
 induction h with
 | nil => simp
 | cons h ih =>
   obtain ⟨h1, h2⟩ := ih
   simp at h1 h2 ⊢
   exact ⟨h1, h2⟩
 | there h ih =>
   obtain ⟨h1, h2⟩ := ih;refine ⟨by simp; omega, ?_⟩;rw [h2]
   simp [Nat.add_right_comm]
section
variable {P : Program} {n : Nat} {env : yW} {h : yB} {m : Mp} {L : List yb} {Q : yR} {ty : TypeId} {pos : String} {aft : Array Edge} {gd : Option (Nat × Bool)} {t : TypeId} {x y : Operand}
variable {b : Nat} {e : TypeId} {l l' : Lv} {o q : Nat} {vs : Lv}
theorem Gb {K : yW -> yB -> Prop} (ht : vq P t = some q) (hx : ev env x = some (.pointer (some ⟨b, o, none⟩))) (hy : ev env y = some (.agg vs.toArray)) (hq : Nat.beq vs.length q = true) (hb : mp h b = some (.cells l.toArray e (0, 0))) (hu : Z2 l o vs l') (h1 : vs.all aD = true) (hk : ∀ h', mp h' b = some (.cells l'.toArray e (0, 0)) -> (∀ j, j ≠ b -> mp h' j = mp h j) -> h'.size = h.size -> K env h') : gj P n Q ⟨none, .store t x y, ty, pos, aft, gd⟩ env h K :=
 gI rfl fun fx dr act ha => by
  have hq' := Nat.eq_of_beq_eq_true hq;obtain ⟨hu1, hu2⟩ := hu.eq;obtain ⟨_, i, hi, hsi⟩ := ke ht;have hst := run_storeCells_at P b o e vs 0 l.toArray (W fx h dr) hb (by simp; omega) (fun v hv => cN (by rw [List.all_eq_true] at h1; exact h1 v hv))
  obtain ⟨h', hw, hsz2, hoth⟩ := bD fx h dr b (l.toArray.toList.take (o + 0) ++ vs ++ l.toArray.toList.drop (o + 0 + vs.length)).toArray;have hg' := setRow_heap (W fx h dr) b l.toArray (l.toArray.toList.take (o + 0) ++ vs ++ l.toArray.toList.drop (o + 0 + vs.length)).toArray e (0, 0) hb;rw [hw] at hg' hst;refine ⟨h', dr, ?_, hk h' ?_ hoth hsz2⟩
  ·have hc : (Value.agg vs.toArray).cells = vs.toArray := rfl;simp only [execOp, Instr.storeAt, ha.eval hx, ha.eval hy, Instr.sureAddr, storeVar, hc]
   simp [sizeOf, typeInfo, hi, hsi, hq', hst]
  ·rw [hu2];exact hg'
theorem yu {K : yW -> List yb -> Prop} {L' : List yb} (ht : vq P t = some q) (hx : ev env x = some (.pointer (some ⟨b, o, none⟩))) (hy : ev env y = some (.agg vs.toArray)) (hq : Nat.beq vs.length q = true) (hT : gz L (cel b l e) (cel b l' e) L') (hu : Z2 l o vs l') (h1 : vs.all aD = true) (hk : K env L') : ve P n Q ⟨none, .store t x y, ty, pos, aft, gd⟩ env m L false K := fun h hs => by
 obtain ⟨r, g1, g2⟩ := hT.split;have h3 := hs.take g1;exact Gb ht hx hy hq (show mp h b = some (.cells l.toArray e (0, 0)) from h3.head) hu h1 fun h' k1 k2 k3 => ⟨(fun hf => by cases hf), L', (h3.upd (e' := cel b l' e) (fun k _ hk => k2 k (I6 hk)) k1 fun k hk => .inl hk).untake g2, hk⟩
end
def yF (L : List yb) : yb where
 dom := fun k => L.any fun e => e.dom k
 inv := fun m => (∀ e ∈ L, e.inv m) /\ L.Pairwise fun (a b : yb) => ∀ k : Nat, a.dom k = true -> b.dom k = false
 loc := fun {m m'} h hi => ⟨fun e he => e.loc (fun k hk => h k (by rw [List.any_eq_true]; exact ⟨e, he, hk⟩)) (hi.1 e he), hi.2⟩
 has := fun {m k} hi hk => by
  rw [List.any_eq_true] at hk;obtain ⟨e, he, hk⟩ := hk;exact e.has (hi.1 e he) hk
variable {L : List yb} {h : yB} {m : Mp} {r : List yb}
theorem HS.pack_iff : HS m (L ++ r) h ↔ HS m (yF L :: r) h := by
 constructor
 ·intro ⟨h1, h2, h3, h4⟩;rw [List.pairwise_append] at h4;refine HS.cons_iff.2 ⟨⟨h1, fun e he => h2 e (by simp [he]), fun e he => h3 e (by simp [he]), h4.2.1⟩, ⟨fun e he => h2 e (by simp [he]), h4.1⟩, fun k hk => ?_, fun x hx k hk => ?_⟩
  ·have hk' : (L.any fun e => e.dom k) = true := hk;rw [List.any_eq_true] at hk';obtain ⟨e, he, hk'⟩ := hk';exact h3 e (by simp [he]) k hk'
  ·have hk' : (L.any fun e => e.dom k) = true := hk;rw [List.any_eq_true] at hk';obtain ⟨e, he, hk'⟩ := hk';exact h4.2.2 e he x hx k hk'
 ·intro hs;obtain ⟨h1, h2, h3, h4⟩ := HS.cons_iff.1 hs
  have key : ∀ e ∈ L, ∀ k, e.dom k = true -> (yF L).dom k = true := fun e he k hk => by
   show (L.any fun e => e.dom k) = true;rw [List.any_eq_true]; exact ⟨e, he, hk⟩
  refine ⟨h1.base, fun e he => ?_, fun e he k hk => ?_, List.pairwise_append.2 ⟨h2.2, h1.apart, fun a ha b hb k hk => h4 b hb k (key a ha k hk)⟩⟩
  ·rcases List.mem_append.1 he with he | he
   ·exact h2.1 e he
   ·exact h1.inv e he
  ·rcases List.mem_append.1 he with he | he
   ·exact h3 k (key e he k hk)
   ·exact h1.out e he k hk
inductive XS : List yb -> List yb -> List yb -> Prop
 | nil {L : List yb} : XS L [] L
 | cons {L r es r' : List yb} {e : yb} (h : Tk L e r) (hs : XS r es r') : XS L (e :: es) r'
theorem HS.takes {es : List yb} (ht : XS L es r) : ∀ {m : Mp} {h : yB}, HS m L h -> HS m (es ++ r) h := by
 induction ht with
 | nil => exact fun hs => hs
 | cons h _ ih =>
   intro m h' hs;have h1 := hs.take h;obtain ⟨a1, a2, a3, a4⟩ := HS.cons_iff.1 h1;have h2 := ih a1;refine HS.cons_iff.2 ⟨h2, a2, a3, fun x hx k hk => ?_⟩
   -- what is taken is of what was there
   have h5 := ih (m := fun j => if (yb.dom _ j) then mp h' j else m j) (h := h') (by
    refine ⟨fun j o hj => ?_, a1.inv, fun x hx j hj => ?_, a1.apart⟩
    ·split at hj
     ·exact hj
     ·exact a1.base j o hj
    ·split
     ·rename_i he
      have := a4 x hx j he;rw [hj] at this;cases this
     ·exact a1.out x hx j hj)
   cases hxk : x.dom k with
   | false => rfl
   | true =>
     have h6 := h5.out x hx k hxk;simp only [hk, if_true] at h6;exact absurd h6 (x.has (h2.inv x hx) hxk)
variable {pre : List yb}
theorem HS.part {m : Mp} {r : List yb} {h : yB} (hs : HS m (pre ++ r) h) : ∃ m', Le m m' /\ HE r m' /\ HS m' pre h /\ ∀ {h' : yB} {L' : List yb}, HS m' L' h' -> HS m (L' ++ r) h' := by
 have h0 := HS.pack_iff.1 hs;obtain ⟨h1, h2, h3⟩ := h0.away;refine ⟨_, h2, h3, ?_, fun hc => h0.frame1 hc⟩;have := HS.pack_iff (L := pre) (r := []) (m := Eng.away (yF pre) (mp h)) (h := h);rw [List.append_nil] at this;exact this.2 h1
def Vw (P : Program) (f : FuncId) (args : Lv) (m : Mp) (pre : List yb) (post ppost : Value -> List yb -> Prop) : Prop :=
 ∀ h, HS m pre h -> CP P f args.toArray h (wB m post) (wB m ppost)
variable {P : Program} {args : Lv} {f : FuncId} {post ppost : Value -> List yb -> Prop}
theorem CS.toP (hc : CS P f args m pre post) : Vw P f args m pre post ppost := fun h hs => CP.of (hc h hs)
theorem Vw.of (hc : CS P f args m pre post) : Vw P f args m pre post ppost := hc.toP
theorem ym {fn : Func} {c : Code} {l : Lv} (rs : List ResultVar) (hf : P.funcs[f]? = some fn) (hb : fn.body = some c) (hrs : fn.results = rs.toArray) (hl : Nat.ble l.length fn.ntmps = true) (ht : TS P fn.ntmps c (WT l 0) m pre (VA P rs (wB m post) (wB m ppost))) : Vw P f l m pre post ppost :=
 fun h hs => DD rs hf hb hrs hl (ht h hs)
variable {env : yW} {rs : List ResultVar}
theorem yp (vs : Lv) (hv : cv P env L rs vs) (L' : List yb) (hp : zN L L') (hq : post (ao vs) L') : QS (VA P rs (wB m post) (wB m ppost)) .ret env m L :=
 fun h hs => ⟨vs, hv.ok hs, L', hq, hp m h hs⟩
theorem wu (vs : Lv) (hv : cv P env L rs vs) (L' : List yb) (hp : zN L L') (hq : post (ao vs) L') : QS (VA P rs (wB m post) (wB m ppost)) .normal env m L :=
 fun h hs => ⟨vs, hv.ok hs, L', hq, hp m h hs⟩
theorem Fw {v : Value} (L' : List yb) (hp : zN L L') (hq : ppost v L') : QS (VA P rs (wB m post) (wB m ppost)) (.panic (pan v)) env m L :=
 fun h hs => ⟨v, rfl, L', hq, hp m h hs⟩
section
variable {P : Program} {n : Nat} {env : yW} {m : Mp} {L r : List yb} {Q : yR} {K : yW -> List yb -> Prop} {d : Nat} {ty : TypeId} {pos : String} {aft : Array Edge} {gd : Option (Nat × Bool)}
variable {args : List Operand} {ats : Array TypeId} {f : FuncId} {post : Value -> List yb -> Prop} {pre : List yb} {vs : Lv}
theorem xC (hcl : yX P f = true) (hx : Zb env args = some vs) (hT : XS L pre r) (hc : ∀ m', Le m m' -> HE r m' -> CS P f vs m' pre post) (hn : Nat.blt d n = true) (hk : ∀ v L', post v L' -> K ((d, v) :: env) (L' ++ r)) : ve P n Q ⟨some d, .call ⟨.value (.func f), args.toArray, ats⟩, ty, pos, aft, gd⟩ env m L false K := fun h hs => by
 obtain ⟨m', h1, h2, h3, h4⟩ := (HS.takes hT hs).part;exact xW hcl hx (hc m' h1 h2 h h3) hn fun v h' ⟨L', g1, g2⟩ => ⟨fun hf => (by cases hf), _, h4 g2, hk v L' g1⟩
theorem z8 {ppost : Value -> List yb -> Prop} (hcl : yX P f = true) (hx : Zb env args = some vs) (hT : XS L pre r) (hc : ∀ m', Le m m' -> HE r m' -> Vw P f vs m' pre post ppost) (hn : Nat.blt d n = true) (hp : ∀ v L', ppost v L' -> QS Q (.panic (pan v)) env m (L' ++ r)) (hk : ∀ v L', post v L' -> K ((d, v) :: env) (L' ++ r)) : ve P n Q ⟨some d, .call ⟨.value (.func f), args.toArray, ats⟩, ty, pos, aft, gd⟩ env m L false K := fun h hs => by
 obtain ⟨m', h1, h2, h3, h4⟩ := (HS.takes hT hs).part;exact RY hcl hx (hc m' h1 h2 h h3) hn (fun v h' ⟨L', g1, g2⟩ => ⟨fun hf => (by cases hf), _, h4 g2, hk v L' g1⟩) fun v h' ⟨L', g1, g2⟩ => hp v L' g1 h' (h4 g2)
theorem Hr {dst : Option Tmp} {y : Operand} {t : TypeId} {v : Value} {kept : Bool} (hx : ev env y = some (.iface t v)) (hq : QS Q (.panic (pan (.iface t v))) env m L) : ve P n Q ⟨dst, .panic y, ty, pos, aft, gd⟩ env m L kept K := fun h hs => RX hx (hq h hs)
end
def yj (m n : Mp) : Mp := fun k => (m k).or (n k)
theorem zU (m n : Mp) : Le m (yj m n) := fun k o h => by simp [yj, h]
variable {m : Mp}
theorem yq {n : Mp} (hd : ∀ k, n k ≠ none -> m k = none) : Le n (yj m n) := fun k o h => by
 have := hd k (by rw [h]; exact fun e => by cases e)
 simp [yj, this, h]
def Pv (ns : Mp) : yb where
 dom := fun k => (ns k).isSome
 inv := fun m => Le ns m
 loc := fun {m m'} h hi k o hk => by rw [h k (by simp [hk])]; exact hi k o hk
 has := fun {m k} hi hk => by
  obtain ⟨o, ho⟩ := Option.isSome_iff_exists.1 hk;rw [hi k o ho];exact fun e => by cases e
variable {h : yB} {r : List yb}
theorem HS.toSnap {e : yb} (hs : HS m (e :: r) h) : ∃ ns, e.inv ns /\ (∀ k, (ns k).isSome = e.dom k) /\ HS m (Pv ns :: r) h := by
 obtain ⟨h1, h2, h3, h4⟩ := HS.cons_iff.1 hs
 have hdom : ∀ k, ((if e.dom k = true then mp h k else none : Option Obj)).isSome = e.dom k := fun k => by
  cases he : e.dom k with
  | false => simp
  | true =>
    simp only [if_true];have := e.has h2 he;cases hm : mp h k with
    | none => exact absurd hm this
    | some o => rfl
 refine ⟨fun k => if e.dom k = true then mp h k else none, e.loc (fun k hk => by simp [hk]) h2, hdom, HS.cons_iff.2 ⟨h1, fun k o hk => ?_, fun k hk => h3 k ?_, fun x hx k hk => h4 x hx k ?_⟩⟩
 ·by_cases he : e.dom k = true
  ·simpa [he] using hk
  ·simp [he] at hk
 ·rw [<- hdom k]; exact hk
 ·rw [<- hdom k]; exact hk
theorem HS.absorb {ns : Mp} (hs : HS m (Pv ns :: r) h) : (∀ k, ns k ≠ none -> m k = none) /\ HS (yj m ns) r h := by
 obtain ⟨h1, h2, h3, h4⟩ := HS.cons_iff.1 hs;refine ⟨fun k hk => h3 k (by cases hn : ns k with | none => exact absurd hn hk | some o => simp [Pv, hn]), fun k o hk => ?_, h1.inv, fun x hx k hk => ?_, h1.apart⟩
 ·unfold yj at hk;cases hm : m k with
  | some u => rw [hm] at hk; simp at hk; subst hk; exact h1.base k _ hm
  | none => rw [hm] at hk; simp at hk; exact h2 k o hk
 ·unfold yj;rw [h1.out x hx k hk];cases hn : ns k with
  | none => rfl
  | some o => have := h4 x hx k (by simp [Pv, hn]); rw [hk] at this; cases this
theorem HS.weaken {m' : Mp} {L : List yb} (hs : HS m' L h) (hl : Le m m') : HS m L h :=
 ⟨hl.trans hs.base, hs.inv, (fun e he k hk => by
  cases hm : m k with
  | none => rfl
  | some o => (have := hs.out e he k hk; rw [hl k o hm] at this; cases this)), hs.apart⟩
section
variable {P : Program} {n : Nat} {env : yW} {m : Mp} {L r : List yb} {Q : yR}
variable {e : yb}
theorem zG {c : Code} (hT : Tk L e r) (hk : ∀ ns, e.inv ns -> (∀ k, (ns k).isSome = e.dom k) -> (∀ k, ns k ≠ none -> m k = none) -> TS P n c env (yj m ns) r Q) : TS P n c env m L Q := fun h hs => by
 obtain ⟨ns, h1, h2, h3⟩ := (hs.take hT).toSnap;obtain ⟨h4, h5⟩ := h3.absorb;exact hk ns h1 h2 h4 h h5
theorem bW {l0 l : List Oper} (hT : Tk L e r) (hk : ∀ ns, e.inv ns -> (∀ k, (ns k).isSome = e.dom k) -> (∀ k, ns k ≠ none -> m k = none) -> VS P n l0 l env (yj m ns) r Q) : VS P n l0 l env m L Q := fun h hs => by
 obtain ⟨ns, h1, h2, h3⟩ := (hs.take hT).toSnap;obtain ⟨h4, h5⟩ := h3.absorb;exact hk ns h1 h2 h4 h h5
end
variable {P : Program} {Q : Exit -> Act -> World -> Prop}
theorem Mc {o : Oper} {a : Act} {w : World} {K K' : Act -> World -> Prop} {Q' : Exit -> Act -> World -> Prop} (h : ∀ a w, K a w -> K' a w) (hp : ∀ c a w, Q (.panic c) a w -> Q' (.panic c) a w) (ho : ∀ a w, Q .outgrown a w -> Q' .outgrown a w) (hh : o.wp P a w K Q) : o.wp P a w K' Q' := by
 unfold Oper.wp at *;generalize (execOp a.eval o).run P w = r at *;cases r with
 | ok n w' =>
   cases n <;> simp only [Oper.upon] at hh ⊢ <;>
    first
     | exact h _ _ hh
     | exact Calls.mono hh (fun e w'' he => by cases e <;> first | exact h _ _ he | exact hp _ _ _ he | exact he.imp fun _ he => he.imp fun _ he => ho _ _ he)
     | exact Rows.mono hh (fun _ _ he => h _ _ he)
 | halt x w' => cases x <;> simp only [Oper.upon] at hh ⊢ <;> first | exact hp _ _ _ hh | exact hh
theorem dD {ops : Array Oper} {l2 : List Oper} {Q1 : Exit -> Act -> World -> Prop} (hn : ∀ a w, Q1 .normal a w -> wpList P ops Q l2 a w) (he : ∀ e, e ≠ .normal -> ∀ a w, Q1 e a w -> Q e a w) :
  ∀ {l1 : List Oper} {a : Act} {w : World}, wpList P ops Q1 l1 a w -> wpList P ops Q (l1 ++ l2) a w
 | [], a, w, hh => hn a w hh
 | o :: r, a, w, hh => by
   unfold wpList at hh;show wpList P ops Q (o :: (r ++ l2)) a w;unfold wpList
   split
   ·rename_i hw
    simp only [hw, if_true] at hh;rcases hh with hh | ⟨h1, a', w', h2⟩
    ·exact .inl (Mc (fun a w hk => dD hn he hk) (fun c a w => he _ yA a w) (fun a w => he _ yA a w) hh)
    ·exact .inr ⟨h1, a', w', he _ yA _ _ h2⟩
   ·rename_i hw
    rw [if_neg hw] at hh;exact dD hn he hh
section
variable {P : Program} {n : Nat} {env : yW} {m : Mp} {L : List yb} {Q : yR} {l0 l : List Oper}
end
section
variable {P : Program} {n : Nat} {env : yW} {m : Mp} {L : List yb} {Q : yR}
end
variable {m : Mp} {r : List yb}
theorem Hx {e : yb} (h : HE (e :: r) m) : e.inv m := h e yA
theorem Wc.he {b i : Nat} {l : Lv} {e : TypeId} {v : Value} (h : HE (Eng.cel b l e :: r) m) (hv : cF l i = some v) : Wc m ⟨b, i, none⟩ v := Wc.cel (Hx h) hv
section
variable {P : Program} {n : Nat} {env : yW} {m : Mp} {L : List yb} {Q : yR} {ch : List PanicEntry}
theorem bc {c : Code} (hq : QS Q (.panic ch) env m L) : QS (uT P n c Q) (.panic ch) env m L := hq
theorem Q9 {id : Nat} (hq : QS Q (.panic ch) env m L) : QS (qf id Q) (.panic ch) env m L := hq
theorem zC {α : Type} {S : α -> yW} {LL : α -> List yb} {F : α -> Prop} {μ : α -> Nat} {k : Nat} (hq : QS Q (.panic ch) env m L) : QS (j2 m S LL F μ k Q) (.panic ch) env m L := hq
end
section
variable {P : Program} {n : Nat} {env : yW} {h : yB} {m : Mp} {L r : List yb} {Q : yR} {d : Nat} {ty : TypeId} {pos : String} {aft : Array Edge} {gd : Option (Nat × Bool)}
variable {args : List Operand} {ats : Array TypeId} {f : FuncId} {fv : Operand} {p q vs : Lv}
theorem LZ {K : yW -> yB -> Prop} {R Rp : Value -> yB -> Prop} (hcl : yX P f = true) (hf : ev env fv = some (.func (.func f) p.toArray q.toArray)) (hx : Zb env args = some vs) (hc : CP P f ((p ++ vs) ++ q).toArray h R Rp) (hn : Nat.blt d n = true) (hk : ∀ v h', R v h' -> K ((d, v) :: env) h') (hp : ∀ v h', Rp v h' -> Q (.panic (pan v)) env h') : gj P n Q ⟨some d, .call ⟨.value fv, args.toArray, ats⟩, ty, pos, aft, gd⟩ env h K := by
 intro fx dr a ha;have h1 := aR ha.toAg hx
 have h2 : (execOp a.eval ⟨some d, .call ⟨.value fv, args.toArray, ats⟩, ty, pos, aft, gd⟩).run P (W fx h dr) = .ok (.enter f ((p ++ vs) ++ q).toArray) (W fx h dr) := by
  simp only [execOp, resolve, h1, ha.toAg.eval hf, Deferred.ofValue, Sem.run_bind, Sem.run_pure, Result.andThen_ok, invoke, List.append_toArray];exact jj hcl _ _
 unfold Oper.wp;rw [h2, Oper.upon_enter];refine (hc fx dr).mono ?_;rintro e w' ⟨v, h', d', rfl, ⟨rfl, hr⟩ | ⟨rfl, hr⟩⟩
 ·exact ⟨_, h', d', ha.put d v (by simpa [Nat.blt_eq] using hn), rfl, hk v h' hr⟩
 ·exact ⟨_, h', d', ha, rfl, hp v h' hr⟩
theorem vV {K : yW -> List yb -> Prop} {pre : List yb} {post ppost : Value -> List yb -> Prop} (hcl : yX P f = true) (hf : ev env fv = some (.func (.func f) p.toArray q.toArray)) (hx : Zb env args = some vs) (hT : XS L pre r) (hc : ∀ m', Le m m' -> HE r m' -> Vw P f ((p ++ vs) ++ q) m' pre post ppost) (hn : Nat.blt d n = true) (hp : ∀ v L', ppost v L' -> QS Q (.panic (pan v)) env m (L' ++ r)) (hk : ∀ v L', post v L' -> K ((d, v) :: env) (L' ++ r)) : ve P n Q ⟨some d, .call ⟨.value fv, args.toArray, ats⟩, ty, pos, aft, gd⟩ env m L false K := fun h hs => by
 obtain ⟨m', h1, h2, h3, h4⟩ := (HS.takes hT hs).part;exact LZ (R := wB m' post) (Rp := wB m' ppost) hcl hf hx (hc m' h1 h2 h h3) hn (fun v h' ⟨L', g1, g2⟩ => ⟨fun hf => (by cases hf), _, h4 g2, hk v L' g1⟩) fun v h' ⟨L', g1, g2⟩ => hp v L' g1 h' (h4 g2)
end
end Go.Eng
namespace Go.Eng
section
variable {P : Program} {n : Nat} {env : yW} {m : Mp} {L : List yb} {Q : Exit -> Act -> World -> Prop} {x : Fx} {h : yB} {d : Nat} {a : Act}
theorem Md {A : Code} {Qr : yR} (ht : TS P n A env m L Qr) (hs : HS m L h) (hag : dB n x env a) (hk : ∀ e env' h' d' a', Qr e env' h' -> dB n x env' a' -> Q e a' (W x h' d')) : A.wp P Q a (W x h d) := by
 refine wp_mono (ht h hs x d a hag) ?_;rintro e a' w' ⟨env', h', d', hag', rfl, hq⟩;exact hk e env' h' d' a' hq hag'
def Pl (fn : Fn) (q : Lv) : Deferred := { target := .fn fn q.toArray, args := #[] }
variable {ats : Array TypeId} {id : Nat} {q : Lv} {t : Nat}
theorem Jn {fn : Fn} {ca : List Operand} {ty1 ty2 : TypeId} {pos1 pos2 : String} {aft1 aft2 : Array Edge} (hq : Zb env ca = some q) (hn : Nat.blt t n = true) (hag : dB n x env a) (hk : ∀ a', dB n ⟨x.tape, x.os, x.out, Pl fn q :: x.ds⟩ ((t, .func fn #[] q.toArray) :: env) a' -> Q .normal a' (W x h d)) :
  (Code.region id [⟨some t, .makeFunc fn #[] ca.toArray, ty1, pos1, aft1, none⟩, ⟨none, .defer ⟨.value (.tmp t), #[], ats⟩, ty2, pos2, aft2, none⟩].toArray false).wp P Q a (W x h d) := by
 refine wp_region_lit ?_;unfold wpList;rw [if_pos (by simp [Region.wanted])];refine .inl ?_;have h1 := aR hag.toAg hq;have hag2 := hag.put t (.func fn #[] q.toArray) (by simpa [Nat.blt_eq] using hn)
 have hr : (execOp a.eval ⟨some t, .makeFunc fn #[] ca.toArray, ty1, pos1, aft1, none⟩).run P (W x h d) = .ok (.value (.func fn #[] q.toArray)) (W x h d) := by
  simp [execOp, h1, Instr.makeFunc]
 unfold Oper.wp;rw [hr, Oper.upon_value];show wpList P _ Q [_] (a.put (some t) _) _;unfold wpList;rw [if_pos (by simp [Region.wanted])];refine .inl ?_
 have hr2 : (execOp (a.put (some t) (.func fn #[] q.toArray)).eval ⟨none, .defer ⟨.value (.tmp t), #[], ats⟩, ty2, pos2, aft2, none⟩).run P (W x h d) = .ok (.defer (Pl fn q)) (W x h d) := by
  have h2 : (a.put (some t) (.func fn #[] q.toArray)).eval (.tmp t) = .func fn #[] q.toArray := hag2.toAg.eval (by simp [ev, lk])
  simp [execOp, resolve, h2, Deferred.ofValue, Pl]
 unfold Oper.wp;rw [hr2, Oper.upon_defer];show Q .normal _ _;refine hk _ ⟨?_, ?_⟩
 ·exact ⟨hag2.toAg.1, hag2.toAg.2⟩
 ·show Pl fn q :: (a.put (some t) (.func fn #[] q.toArray)).defers = Pl fn q :: x.ds;rw [hag2.defers]
theorem ez {ops : Array Oper} {cs : List Frame} {QS : Exit -> Act -> List Frame -> World -> Prop} (hno : ∀ a w, ¬ QS .outgrown a cs w) :
  ∀ (l : List Oper) (k : Nat) (a : Act) (w : World), (∀ j, j < l.length -> l[j]? = ops[k + j]?) -> wpList P ops (fun e a w => QS e a cs w) l a w -> wpOpsS P ops QS (List.range' k l.length) a cs w
 | [], k, a, w, _, hh => hh
 | o :: r, k, a, w, hl, hh => by
   have h0 := hl 0 yA;simp only [List.getElem?_cons_zero, Nat.add_zero] at h0
   have hr : ∀ j, j < r.length -> r[j]? = ops[k + 1 + j]? := fun j hj => by
    have := hl (j + 1) (by simp; omega);rw [List.getElem?_cons_succ] at this;rw [this]
    congr 1
    omega
   simp only [List.length_cons, List.range'_succ];unfold wpOpsS;simp only [<- h0];unfold wpList at hh
   split
   ·rename_i hw
    simp only [hw, if_true] at hh;rcases hh with hh | ⟨_, a', w', h2⟩
    ·unfold Oper.wp at hh;generalize (execOp a.eval o).run P w = res at hh ⊢
     have key : ∀ res, o.upon P a (wpList P ops (fun e a w => QS e a cs w) r) (fun e a w => QS e a cs w) res -> o.upon P a (fun a' w' => wpOpsS P ops QS (List.range' (k + 1) r.length) a' cs w') (fun e a' w' => QS e a' cs w') res := by
      intro res hh;cases res with
      | ok nx w' =>
        cases nx <;> simp only [Oper.upon] at hh ⊢ <;>
         first
          | exact ez hno r (k + 1) _ _ hr hh
          | exact Calls.mono hh (fun e w'' he => by cases e <;> first | exact ez hno r (k + 1) _ _ hr he | exact he)
          | exact Rows.mono hh (fun _ _ he => ez hno r (k + 1) _ _ hr he)
      | halt y w' => cases y <;> simp only [Oper.upon] at hh ⊢ <;> exact hh
     cases res with
     | ok nx w' =>
       cases nx <;> first | (simp only [Oper.upon] at hh; done) | exact key _ hh | exact hh.elim
     | halt y w' => exact key _ hh
    ·exact absurd h2 (hno _ _)
   ·rename_i hw
    rw [if_neg hw] at hh;exact ez hno r (k + 1) _ _ hr hh
inductive CW : FrameMode -> Value -> FrameMode -> Prop
 | ret : CW .returning .nilIface .returning
 | pan (v : Value) (older : List PanicEntry) : CW (.panicking ({ v, recovered := false, goexit := false } :: older)) v (.panicking ({ v, recovered := true } :: older))
variable {f : FuncId} {fn : Func} {post : Value -> List yb -> Prop} {u' : FrameMode}
theorem HH {t : Nat} {l : List Oper} {rest : Code} {args : Lv} {u : FrameMode} {vr : Value} {ty : TypeId} {pos : String} {aft : Array Edge} (hf : P.funcs[f]? = some fn) (hb : fn.body = some (.seq (.region id (⟨some t, .call ⟨.builtin .recover, #[], ats⟩, ty, pos, aft, none⟩ :: l).toArray false) rest)) (hrs : fn.results = ([] : List ResultVar).toArray) (hn : Nat.blt t fn.ntmps = true) (hl : Nat.ble args.length fn.ntmps = true) (hm : CW u vr u') (ht : VS P fn.ntmps (⟨some t, .call ⟨.builtin .recover, #[], ats⟩, ty, pos, aft, none⟩ :: l) l ((t, vr) :: WT args 0) m L (uT P fn.ntmps rest (U6 P [] (wB m post)))) (hs : HS m L h) :
  CallsD P f args.toArray u (W x h d) fun e u2 w' => e = .returned (.tuple #[]) /\ u2 = u' /\ ∃ h' d' L', w' = W x h' d' /\ post (.tuple #[]) L' /\ HS m L' h' := by
 refine callsD_of_wpS hf hb fun c0 cs hu => ?_;refine wpS_seq (wpS_region ?_)
 have hrg : ∀ (o : Oper), List.range (o :: l).toArray.size = 0 :: List.range' 1 l.length := fun o => by
  rw [List.range_eq_range']
  simp [List.range'_succ]
 rw [hrg];unfold wpOpsS;simp only [List.getElem?_toArray, List.getElem?_cons_zero];rw [if_pos (by simp [Region.wanted])]
 have hrec : ∀ (ρ : Operand -> Value) (w : World), (execOp ρ (⟨some t, .call ⟨.builtin .recover, #[], ats⟩, ty, pos, aft, none⟩ : Oper)).run P w = .ok .recover w := fun ρ w => by
  simp [execOp, resolve, invoke, builtin]
 simp only [hrec]
 have hcase : (recoverD (c0 :: cs) = some (vr, { c0 with mode := u' } :: cs)) \/ (recoverD (c0 :: cs) = none /\ vr = .nilIface /\ { c0 with mode := u' } = c0) := by
  cases hm with
  | ret => exact .inr ⟨by simp [recoverD, hu], rfl, by cases c0; simp at hu; subst hu; rfl⟩
  | pan v older => exact .inl (by simp [recoverD, hu])
 have hfin : ∀ cs', cs' = { c0 with mode := u' } :: cs -> wpOpsS P (⟨some t, .call ⟨.builtin .recover, #[], ats⟩, ty, pos, aft, none⟩ :: l : List Oper).toArray
   (Exit.thenS (rest.wpS P (bodyPostS P fn c0 cs fun e u2 w' => e = .returned (.tuple #[]) /\ u2 = u' /\ ∃ h' d' L', w' = W x h' d' /\ post (.tuple #[]) L' /\ HS m L' h')) (bodyPostS P fn c0 cs fun e u2 w' => e = .returned (.tuple #[]) /\ u2 = u' /\ ∃ h' d' L', w' = W x h' d' /\ post (.tuple #[]) L' /\ HS m L' h'))
   (List.range' 1 l.length) (({ tmps := args.toArray ++ Array.replicate (fn.ntmps - args.toArray.size) undef, defers := [] } : Act).put (some t) vr) cs' (W x h d) := by
  rintro cs' rfl;refine ez (fun a w hq => ?_) l 1 _ _ (fun j hj => by rw [List.getElem?_toArray, Nat.add_comm 1 j, List.getElem?_cons_succ]) ?_
  ·obtain ⟨_, hq, _⟩ := hq;cases hq
  ·have hag0 := (Ry (n := fn.ntmps) (l := args) (t := x.tape) (o := x.os) (u := x.out) (Nat.le_of_ble_eq_true hl)).put t vr (by simpa [Nat.blt_eq] using hn);have h3 := ht h hs _ d _ hag0
   have h4 := dD (l2 := []) (Q := fun e a w => Exit.thenS (rest.wpS P (bodyPostS P fn c0 cs fun e u2 w' => e = .returned (.tuple #[]) /\ u2 = u' /\ ∃ h' d' L', w' = W x h' d' /\ post (.tuple #[]) L' /\ HS m L' h')) (bodyPostS P fn c0 cs fun e u2 w' => e = .returned (.tuple #[]) /\ u2 = u' /\ ∃ h' d' L', w' = W x h' d' /\ post (.tuple #[]) L' /\ HS m L' h') e a ({ c0 with mode := u' } :: cs) w) ?_ ?_ h3
   ·rw [List.append_nil] at h4;exact h4
   ·rintro a w ⟨env', h', d', hag', rfl, hq⟩;show rest.wpS P _ a ({ c0 with mode := u' } :: cs) _;refine wpS_of_wp (wp_mono (hq ⟨x.tape, x.os, x.out, []⟩ d' a hag') ?_);rintro e a' w' ⟨env2, h2, d2, hag2, rfl, hq2⟩
    have fin : ∀ (hq2 : ∃ vs, qC P env2 h2 [] vs /\ wB m post (ao vs) h2), a'.defers = [] /\ ∃ u2, ({ c0 with mode := u' } : Frame) :: cs = { c0 with mode := u2 } :: cs /\ ∃ v, (results fn a'.tmps).run P (W ⟨x.tape, x.os, x.out, []⟩ h2 d2) = .ok v (W ⟨x.tape, x.os, x.out, []⟩ h2 d2) /\ (Ending.returned v = .returned (.tuple #[]) /\ u2 = u' /\ ∃ h' d' L', (W ⟨x.tape, x.os, x.out, []⟩ h2 d2) = W x h' d' /\ post (.tuple #[]) L' /\ HS m L' h') := by
     rintro ⟨vs, h1, L', hp, hh⟩;cases vs with
     | cons v r => cases h1
     | nil => exact ⟨hag2.defers, u', rfl, .tuple #[], qC.results (vs := []) hrs hag2.toAg h1, rfl, rfl, h2, d2, L', rfl, hp, hh⟩
    cases e with
    | normal => exact fin hq2
    | ret => exact fin hq2
    | exit i => exact hq2.elim
    | goto i => exact hq2.elim
    | panic c => exact hq2.elim
    | outgrown => exact hq2.elim
   ·rintro e hne a w ⟨env', h', d', hag', rfl, hq⟩
    have fin : ∀ (hq2 : ∃ vs, qC P env' h' [] vs /\ wB m post (ao vs) h'), a.defers = [] /\ ∃ u2, ({ c0 with mode := u' } : Frame) :: cs = { c0 with mode := u2 } :: cs /\ ∃ v, (results fn a.tmps).run P (W ⟨x.tape, x.os, x.out, []⟩ h' d') = .ok v (W ⟨x.tape, x.os, x.out, []⟩ h' d') /\ (Ending.returned v = .returned (.tuple #[]) /\ u2 = u' /\ ∃ h2 d2 L', (W ⟨x.tape, x.os, x.out, []⟩ h' d') = W x h2 d2 /\ post (.tuple #[]) L' /\ HS m L' h2) := by
     rintro ⟨vs, h1, L', hp, hh⟩;cases vs with
     | cons v r => cases h1
     | nil => exact ⟨hag'.defers, u', rfl, .tuple #[], qC.results (vs := []) hrs hag'.toAg h1, rfl, rfl, h', d', L', rfl, hp, hh⟩
    cases e with
    | normal => exact absurd rfl hne
    | ret => exact fin hq
    | exit i => exact hq.elim
    | goto i => exact hq.elim
    | panic c => exact hq.elim
    | outgrown => exact hq.elim
 rcases hcase with hrc | ⟨hrc, hv, hc0⟩
 ·simp only [hrc];exact hfin _ rfl
 ·simp only [hrc];have := hfin (c0 :: cs) (by rw [hc0]);rw [hv] at this;exact this
variable {u : FrameMode}
theorem kz {rs : List ResultVar} {f : FuncId} {R : Ending -> World -> Prop} (hrs : fn.results = rs.toArray) (hcl : yX P f = true) (hu : u ≠ .run) (hs' : settle u' = .returning) (hc : CallsD P f q.toArray u (W x h d) fun e u2 w' => e = .returned (.tuple #[]) /\ u2 = u' /\ ∃ h' d' L', w' = W x h' d' /\ post (.tuple #[]) L' /\ HS m L' h') (hag : Ag n env a) (hk : ∀ h' d' L', post (.tuple #[]) L' -> HS m L' h' -> ∃ vs, qC P env h' rs vs /\ R (.returned (ao vs)) (W x h' d')) :
  Leaves P fn a.tmps R [Pl (.func f) q] u (W x h d) := by
 refine leaves_cons (f := f) (args := q.toArray) hu ?_ (hc.mono ?_)
 ·have := jj (P := P) hcl q.toArray (W x h d);simp only [invoke]
  simpa using this
 ·rintro e u2 w' ⟨rfl, rfl, h', d', L', rfl, hp, hh⟩;show Leaves P fn a.tmps R [] (settle u2) (W x h' d');rw [hs'];obtain ⟨vs, h1, h2⟩ := hk h' d' L' hp hh;exact ⟨ao vs, qC.results hrs hag h1, h2⟩
end
def GY (m : Mp) (post : yW -> List yb -> Prop) (ppost : yW -> Value -> List yb -> Prop) : yR
 | .normal, env, h => ∃ L', post env L' /\ HS m L' h
 | .ret, env, h => ∃ L', post env L' /\ HS m L' h
 | .panic c, env, h => ∃ v L', c = pan v /\ ppost env v L' /\ HS m L' h
 | _, _, _ => False
variable {L : List yb} {env : yW} {m m2 : Mp} {post : yW -> List yb -> Prop} {ppost : yW -> Value -> List yb -> Prop}
theorem Q8 (hl : Le m m2) (L' : List yb) (hp : zN L L') (hq : post env L') : QS (GY m post ppost) .ret env m2 L := fun h hs => ⟨L', hq, (hp m2 h hs).weaken hl⟩
theorem jr {v : Value} (hl : Le m m2) (L' : List yb) (hp : zN L L') (hq : ppost env v L') : QS (GY m post ppost) (.panic (pan v)) env m2 L := fun h hs => ⟨v, L', rfl, hq, (hp m2 h hs).weaken hl⟩
theorem zN.app {L' M : List yb} (h : zN L M) : zN (L' ++ L) M := by
 induction L' with
 | nil => exact h
 | cons e r ih => exact fun m hp hs => ih m hp hs.tail
end Go.Eng
namespace Go.Eng
def YB (P : Program) (ops : Array Oper) (m : Mp) (o : Oper) (v : Value) (a : Act) : Prop :=
 (Region.wanted o (yielded ops a.tmps) = true /\ ∀ w', Le m (mp w'.heap) -> (execOp a.eval o).run P w' = .ok (.value v) w') \/
 (Region.wanted o (yielded ops a.tmps) = false /\ v = undef)
def opB (P : Program) (ops : Array Oper) (m : Mp) (Q : Exit -> Act -> World -> Prop) (i : Nat) (K : Act -> World -> Prop) (a : Act) (w : World) : Prop :=
 match ops[i]? with
 | none => K a w
 | some o => if Region.wanted o (yielded ops a.tmps) then o.wp P a w (fun a' w' => Le m (mp w'.heap) /\ K a' w') Q else K (a.put o.dst undef) w
def QY (P : Program) (ops : Array Oper) (m : Mp) (Q : Exit -> Act -> World -> Prop) : Nat -> Array Bool -> Act -> World -> Prop
 | 0, listed, a, w => Region.ready .any ops listed = [] /\ Q .normal a w
 | fuel + 1, listed, a, w =>
   (Region.ready .any ops listed = [] -> Q .normal a w) /\
   ∀ i ∈ Region.ready .any ops listed, opB P ops m Q i (QY P ops m Q fuel (listed.setIfInBounds i true)) a w
section
variable {P : Program} {ops : Array Oper} {m : Mp} {Q : Exit -> Act -> World -> Prop}
variable {K K' : Act -> World -> Prop} {a : Act} {i : Nat} {w : World}
theorem JS (h : ∀ a w, Le m (mp w.heap) -> K a w -> K' a w) (hle : Le m (mp w.heap)) (hh : opB P ops m Q i K a w) : opB P ops m Q i K' a w := by
 unfold opB at *
 split
 ·rename_i ho; simp only [ho] at hh; exact h _ _ hle hh
 ·rename_i o ho
  simp only [ho] at hh
  split
  ·rename_i hw; simp only [hw, if_true] at hh; exact Oper.wp_mono (fun _ _ k => ⟨k.1, h _ _ k.1 k.2⟩) hh
  ·rename_i hw; simp only [hw] at hh; exact h _ _ hle hh
theorem Jp (h : ∀ a w, K a w -> K' a w) (hh : opB P ops m Q i K a w) : wpOp P ops Q i K' a w := by
 unfold opB at hh;unfold wpOp
 split
 ·rename_i ho; simp only [ho] at hh; exact h _ _ hh
 ·rename_i o ho
  simp only [ho] at hh
  split
  ·rename_i hw; simp only [hw, if_true] at hh; exact .inl (Oper.wp_mono (fun _ _ k => h _ _ k.2) hh)
  ·rename_i hw; simp only [hw] at hh; exact h _ _ hh
theorem eh : ∀ (fuel : Nat) (listed : Array Bool) (a : Act) (w : World), QY P ops m Q fuel listed a w -> wpAny P .any ops Q fuel listed a w
 | 0, _, _, _, h => h
 | fuel + 1, _, _, _, h => ⟨h.1, fun i hi => Jp (fun a w => eh fuel _ a w) (h.2 i hi)⟩
variable {o : Oper}
theorem YB.opB {v : Value} (hi : ops[i]? = some o) (hy : YB P ops m o v a) (hle : Le m (mp w.heap)) (h : K (a.put o.dst v) w) : opB P ops m Q i K a w := by
 unfold Eng.opB;simp only [hi];rcases hy with ⟨hw, hv⟩ | ⟨hw, rfl⟩
 ·simp only [hw, if_true, Oper.wp, hv w hle, Oper.upon]; exact ⟨hle, h⟩
 ·simp only [hw, Bool.false_eq_true, if_false]; exact h
theorem YB.of_same {v : Value} {a' : Act} (hy : YB P ops m o v a) (he : execOp a'.eval o = execOp a.eval o) (hw : Region.wanted o (yielded ops a'.tmps) = Region.wanted o (yielded ops a.tmps)) : YB P ops m o v a' := by
 unfold YB at *;rw [he, hw];exact hy
variable {oi : Oper}
theorem PK {j : Nat} {oj : Oper} {v : Value} (hj : ops[j]? = some oj) (hap : oi.apart ops oj = true) (hsi : ∀ cs b, oi.op ≠ .select cs b) (hsj : ∀ cs b, oj.op ≠ .select cs b) (hQ : ∀ c a w, Q (.panic c) (a.put oi.dst v) w -> Q (.panic c) a w) (hy : YB P ops m oi v a) (h : opB P ops m Q j K (a.put oi.dst v) w) : opB P ops m Q j (fun a' w' => YB P ops m oi v a' /\ K (a'.put oi.dst v) w') a w := by
 obtain ⟨h1, h2, h3⟩ := Oper.apart_spec hap;have keep : ∀ (a : Act), YB P ops m oi v a -> ∀ u, YB P ops m oi v (a.put oj.dst u) := fun a hy u => hy.of_same (execOp_put oi hsi a oj.dst u h3) (wanted_put oi a oj.dst u h3);have keepD : ∀ d, YB P ops m oi v { a with defers := d :: a.defers } := fun d => hy.of_same rfl rfl;unfold opB at *;simp only [hj] at *;rw [wanted_put oj a oi.dst v h1] at h
 split
 ·rename_i hw
  simp only [hw, if_true] at h;unfold Oper.wp at *;rw [execOp_put oj hsj a oi.dst v h1] at h;generalize (execOp a.eval oj).run P w = r at *;cases r with
  | ok n w' =>
    cases n <;> simp only [Oper.upon] at h ⊢
    case value u => exact ⟨h.1, keep a hy u, by rw [<- Act.put_comm a v u h2]; exact h.2⟩
    case skip => exact ⟨h.1, keep a hy _, by rw [<- Act.put_comm a v undef h2]; exact h.2⟩
    case defer d =>
     refine ⟨h.1, keep _ (keepD d) _, ?_⟩;have := h.2;rw [<- Act.put_comm _ v undef h2, <- Act.put_defers];exact this
    case enter f args =>
     refine Calls.mono h fun e w'' he => ?_;cases e with
     | returned u => exact ⟨he.1, keep a hy u, by rw [<- Act.put_comm a v u h2]; exact he.2⟩
     | panicked c => exact hQ _ _ _ he
     | outgrown => exact he
    case row row args => exact Rows.mono h fun u w'' he => ⟨he.1, keep a hy u, by rw [<- Act.put_comm a v u h2]; exact he.2⟩
  | halt x w' =>
    cases x <;> simp only [Oper.upon] at h ⊢
    case panic u => exact hQ _ _ _ h
 ·rename_i hw
  simp only [hw] at h;exact ⟨keep a hy _, by rw [<- Act.put_comm a v undef h2]; exact h⟩
theorem Vd {l : List Oper} {v : Value} (hops : ops = l.toArray) (hi : ops[i]? = some oi) (hsel : ∀ (j : Nat) (o : Oper) cs b, ops[j]? = some o -> o.op ≠ .select cs b) (hQ : ∀ c a w, Q (.panic c) (a.put oi.dst v) w -> Q (.panic c) a w) :
  ∀ (fuel : Nat) (listed : Array Bool) (a : Act) (w : World), Le m (mp w.heap) ->
   (∀ j oj, ops[j]? = some oj -> j ≠ i -> listed.getD j true = false -> j ∉ uz l i -> oi.apart ops oj = true) ->
   (∀ k, listed.getD k false = true -> k ∉ uz l i) ->
   i ∈ Region.ready .any ops listed -> YB P ops m oi v a ->
   QY P ops m Q fuel (listed.setIfInBounds i true) (a.put oi.dst v) w -> QY P ops m Q (fuel + 1) listed a w := by
 intro fuel
 induction fuel with
 | zero =>
   intro listed a w hle _ _ hr hy H;refine ⟨fun h => (by rw [h] at hr; cases hr), fun j hj => ?_⟩;by_cases hji : j = i
   ·subst hji; exact hy.opB hi hle H
   ·have := ready_mono hj hji;rw [H.1] at this;cases this
 | succ fuel ih =>
   intro listed a w hle hfree hinv hr hy H;refine ⟨fun h => (by rw [h] at hr; cases hr), fun j hj => ?_⟩;by_cases hji : j = i
   ·subst hji; exact hy.opB hi hle H
   ·have h1 := H.2 j (ready_mono hj hji);obtain ⟨hjun, oj, hoj, hall⟩ := mem_ready.1 hj
    have hnot : j ∉ uz l i := fun hmem => by
     obtain ⟨o, ho, e, he, hb, h3⟩ := Wi hmem;rw [<- hops, hoj] at ho
     injection ho with ho
     subst ho;have h1 := hall e he hb;rcases h3 with heq | h3
     ·have h0 := (mem_ready.1 hr).1;rw [heq] at h1;rcases Nat.lt_or_ge i listed.size with h' | h'
      ·simp [h'] at h0 h1; rw [h0] at h1; cases h1
      ·simp [Array.getElem?_eq_none h'] at h1
     ·exact hinv _ h1 h3
    have hf1 := hfree j oj hoj hji hjun hnot;have h2 := PK hoj hf1 (fun cs b => hsel i oi cs b hi) (fun cs b => hsel j oj cs b hoj) hQ hy h1
    have hfree' : ∀ k ok, ops[k]? = some ok -> k ≠ i -> (listed.setIfInBounds j true).getD k true = false -> k ∉ uz l i -> oi.apart ops ok = true := fun k ok hk hki hun hno => by
     refine hfree k ok hk hki ?_ hno;by_cases hjk : j = k
     ·subst hjk; exact hjun
     ·rw [getD_set_ne true hjk] at hun; exact hun
    have hinv' : ∀ k, (listed.setIfInBounds j true).getD k false = true -> k ∉ uz l i := fun k hk => by
     by_cases hjk : j = k
     ·subst hjk; exact hnot
     ·rw [getD_set_ne false hjk] at hk; exact hinv k hk
    refine JS (fun a' w' hle' h3 => ih (listed.setIfInBounds j true) a' w' hle' hfree' hinv' (ready_mono hr (Ne.symm hji)) h3.1 ?_) hle h2;rw [Array.setIfInBounds_comm _ _ hji];exact h3.2
end
inductive OB where
 | done
 | step (i : Nat) (q : Bool) (t : OB)
 | fork (s t : OB)
def kB : OB -> List Nat
 | .done => []
 | .step i _ _ => [i]
 | .fork s t => kB s ++ kB t
def Uj (l : List Oper) (listed : Array Bool) (i : Nat) (oi : Oper) : Bool :=
 (fun rs => (List.range l.length).all fun j => j == i || rs.contains j || listed.getD j true || match fe l j with
  | none => true
  | some oj => oi.apart l.toArray oj) (uz l i) &&
 (uz l i).all fun k => !listed.getD k false
def aq (l : List Oper) : OB -> Bool -> Nat -> Array Bool -> Bool
 | .done, b, n, listed => !b && Nat.beq n 0 && (Region.ready .any l.toArray listed).isEmpty
 | .step i q t, b, n, listed => match n with
   | 0 => false
   | k + 1 =>
     (match fe l i with
      | none => false
      | some o => if q then !b && (Region.ready .any l.toArray listed).contains i && Uj l listed i o else b || Region.ready .any l.toArray listed == [i]) &&
     aq l t false k (listed.setIfInBounds i true)
 | .fork s t, b, n, listed => (b || (!(Region.ready .any l.toArray listed).isEmpty && (Region.ready .any l.toArray listed).all (kB s ++ kB t).contains)) && aq l s true n listed && aq l t true n listed
def Xr (P : Program) (l : List Oper) (m : Mp) (Q : Exit -> Act -> World -> Prop) : OB -> Act -> World -> Prop
 | .done, a, w => Q .normal a w
 | .step i q t, a, w =>
   if q then ∃ o v, fe l i = some o /\ YB P l.toArray m o v a /\ Xr P l m Q t (a.put o.dst v) w
   else opB P l.toArray m Q i (Xr P l m Q t) a w
 | .fork s t, a, w => Xr P l m Q s a w /\ Xr P l m Q t a w
theorem QX {P : Program} {l : List Oper} {m : Mp} {Q : Exit -> Act -> World -> Prop} (hsel : ak l = true)
  (hQ : ∀ c a a' w, a'.tmps.size = a.tmps.size -> a'.defers = a.defers -> Q (.panic c) a' w -> Q (.panic c) a w) :
  ∀ (t : OB) (n : Nat) (listed : Array Bool) (a : Act) (w : World), Le m (mp w.heap) -> Xr P l m Q t a w ->
   (aq l t false n listed = true -> QY P l.toArray m Q n listed a w) /\
   (aq l t true n listed = true -> kB t ≠ [] /\ 0 < n /\ ∀ i ∈ kB t, opB P l.toArray m Q i (QY P l.toArray m Q (n - 1) (listed.setIfInBounds i true)) a w) := by
 intro t
 induction t with
 | done =>
   intro n listed a w _ hs;refine ⟨fun hc => ?_, fun hc => by simp [aq] at hc⟩;simp only [aq, Bool.not_false, Bool.true_and, Bool.and_eq_true, List.isEmpty_iff] at hc;have hn := Nat.eq_of_beq_eq_true hc.1;subst hn;exact ⟨hc.2, hs⟩
 | step i q t ih =>
   intro n listed a w hle hs;cases n with
   | zero => exact ⟨fun hc => by simp [aq] at hc, fun hc => by simp [aq] at hc⟩
   | succ k =>
     unfold Xr at hs;cases hk : q with
     | true =>
       rw [if_pos hk] at hs;obtain ⟨o, v, ho, hy, hs⟩ := hs;refine ⟨fun hc => ?_, fun hc => ?_⟩
       ·unfold aq at hc;rw [Bool.and_eq_true] at hc;obtain ⟨hc, hc'⟩ := hc;rw [ho] at hc;simp only [if_true, Bool.not_false, Bool.true_and, Bool.and_eq_true] at hc;obtain ⟨hr, hf⟩ := hc;have hi : l.toArray[i]? = some o := by rw [qw]; exact ho
        unfold Uj at hf;rw [Bool.and_eq_true] at hf;obtain ⟨hf, hf2⟩ := hf;refine Vd rfl hi (ff hsel) (fun c a w h => hQ c a _ w ?_ ?_ h) k listed a w hle ?_ ?_ (by simpa using hr) hy ((ih k _ _ _ hle hs).1 hc')
        ·cases o.dst <;> simp [Act.put]
        ·cases o.dst <;> simp [Act.put]
        ·intro j oj hj hji hun hno;rw [List.all_eq_true] at hf
         have hlt : j < l.length := by
          have := (Array.getElem?_eq_some_iff.1 hj).1
          simpa using this
         have := hf j (List.mem_range.2 hlt);rw [qw] at hj;rw [hj] at this
         have hno' : (uz l i).contains j = false := by
          cases hcn : (uz l i).contains j with
          | false => rfl
          | true => exact absurd (List.contains_iff_mem.1 hcn) hno
         simpa only [hun, hno', beq_eq_false_iff_ne.2 hji, Bool.false_or] using this
        ·intro k hk hmem;rw [List.all_eq_true] at hf2;have := hf2 k hmem;rw [hk] at this;cases this
       ·unfold aq at hc;rw [Bool.and_eq_true] at hc;rw [ho] at hc
        simp at hc
     | false =>
       rw [if_neg (by rw [hk]; simp)] at hs
       have hb : ∀ b, aq l (.step i false t) b (k + 1) listed = true -> opB P l.toArray m Q i (QY P l.toArray m Q k (listed.setIfInBounds i true)) a w := fun b hc => by
        unfold aq at hc;rw [Bool.and_eq_true] at hc;exact JS (fun a w hle' hs => (ih k _ a w hle' hs).1 hc.2) hle hs
       refine ⟨fun hc => ?_, fun hc => ⟨by simp [kB], Nat.succ_pos _, fun j hj => ?_⟩⟩
       ·have hrd : Region.ready .any l.toArray listed = [i] := by
         unfold aq at hc;rw [Bool.and_eq_true] at hc;have hc1 := hc.1
         split at hc1
         ·cases hc1
         ·simp only [Bool.false_eq_true, if_false, Bool.false_or] at hc1
          simpa using hc1
        refine ⟨(fun h => by rw [hrd] at h; cases h), fun j hj => ?_⟩;rw [hrd] at hj;have : j = i := by simpa using hj
        subst this;exact hb _ hc
       ·have : j = i := by simpa [kB] using hj
        subst this;exact hb _ hc
 | fork s t ih1 ih2 =>
   intro n listed a w hle hs;unfold Xr at hs
   have key : ∀ b, aq l (.fork s t) b n listed = true -> kB (.fork s t) ≠ [] /\ 0 < n /\ ∀ i ∈ kB (.fork s t), opB P l.toArray m Q i (QY P l.toArray m Q (n - 1) (listed.setIfInBounds i true)) a w := fun b hc => by
    unfold aq at hc;simp only [Bool.and_eq_true] at hc;obtain ⟨h1, h0, h2⟩ := (ih1 n listed a w hle hs.1).2 hc.1.2;obtain ⟨_, _, h3⟩ := (ih2 n listed a w hle hs.2).2 hc.2;refine ⟨by simp [kB, h1], h0, fun i hi => ?_⟩;simp only [kB, List.mem_append] at hi;rcases hi with hi | hi
    ·exact h2 i hi
    ·exact h3 i hi
   refine ⟨fun hc => ?_, key true⟩;obtain ⟨k1, k2, k3⟩ := key false hc;unfold aq at hc;simp only [Bool.and_eq_true, Bool.false_or] at hc;have hall := hc.1.1.2;have hne := hc.1.1.1;rw [List.all_eq_true] at hall;obtain ⟨k, rfl⟩ : ∃ k, n = k + 1 := ⟨n - 1, by omega⟩;refine ⟨fun hnil => (by rw [hnil] at hne; cases hne), fun i hi => ?_⟩;have := hall i hi;exact k3 i (by simpa [kB] using this)
def G5 (l : List Oper) (t : OB) : Bool := ak l && aq l t false l.length (Array.replicate l.length false)
def Z1 (P : Program) (n : Nat) (l : List Oper) (t : OB) (env : yW) (m : Mp) (L : List yb) (Q : yR) : Prop :=
 ∀ h, HS m L h -> ∀ (x : Fx) (d : Nat) (a : Act), dB n x env a -> Xr P l m (ZA n x Q) t a (W x h d)
section
variable {P : Program} {n : Nat} {env : yW} {m : Mp} {L : List yb} {Q : yR} {l : List Oper} {s t : OB} {o : Oper} {v : Value} {d i : Nat}
theorem OS {id : Nat} (t : OB) (hm : P.follows .mixedOrders = true) (hck : G5 l t = true) (hQ : ∀ c env env' h, Q (.panic c) env h -> Q (.panic c) env' h) (hv : Z1 P n l t env m L Q) : TS P n (.region id l.toArray true) env m L Q := by
 intro h hs x d a hag;unfold G5 at hck;simp only [Bool.and_eq_true] at hck;obtain ⟨h1, h3⟩ := hck;have hs' := hv h hs x (d + 1) a hag
 have := (QX h1 (Q := ZA n x Q) (by
  rintro c a a' w hsz hdf ⟨env, h, d, hag, rfl, hq⟩
  refine ⟨[], h, d, ⟨⟨by rw [<- hsz]; exact hag.size, fun t v ht => by simp [lk] at ht⟩, by rw [<- hdf]; exact hag.defers⟩, rfl, hQ _ _ _ _ hq⟩) t l.length _ a _ hs.base hs').1 h3
 refine wp_region_any hm (eh (m := m) _ _ _ _ ?_);rw [List.size_toArray];exact this
theorem RF (hq : QS Q .normal env m L) : Z1 P n l .done env m L Q := fun h hs _ d _ hag => ⟨env, h, d, hag, rfl, hq h hs⟩
theorem xl (h1 : Z1 P n l s env m L Q) (h2 : Z1 P n l t env m L Q) : Z1 P n l (.fork s t) env m L Q := fun h hs x d a hag => ⟨h1 h hs x d a hag, h2 h hs x d a hag⟩
theorem KW (ho : fe l i = some o) (hr : yz P n o env v) (hd : o.dst = some d) (hn : Nat.blt d n = true) (hw : wanted l env o = some true) (hk : Z1 P n l t ((d, v) :: env) m L Q) : Z1 P n l (.step i true t) env m L Q := by
 intro h hs x dr a hag;unfold Xr;rw [if_pos rfl];refine ⟨o, v, ho, .inl ⟨wg hag.toAg hw, fun w' _ => hr a w' hag⟩, ?_⟩;rw [hd];exact hk h hs x dr _ (hag.put d v (by simpa [Nat.blt_eq] using hn))
theorem OL (ho : fe l i = some o) (hr : ∀ h, HS m [] h -> vj P n o env h v) (hd : o.dst = some d) (hn : Nat.blt d n = true) (hw : wanted l env o = some true) (hk : Z1 P n l t ((d, v) :: env) m L Q) : Z1 P n l (.step i true t) env m L Q := by
 intro h hs x dr a hag;unfold Xr;rw [if_pos rfl];refine ⟨o, v, ho, .inl ⟨wg hag.toAg hw, fun w' hl => hr w'.heap (HS.nil hl) a w' hag (Le.refl _)⟩, ?_⟩;rw [hd];exact hk h hs x dr _ (hag.put d v (by simpa [Nat.blt_eq] using hn))
theorem OK (ho : fe l i = some o) (hw : wanted l env o = some false) (hd : o.dst = some d) (hn : Nat.blt d n = true) (hk : Z1 P n l t ((d, undef) :: env) m L Q) : Z1 P n l (.step i true t) env m L Q := by
 intro h hs x dr a hag;unfold Xr;rw [if_pos rfl];refine ⟨o, undef, ho, .inr ⟨wg hag.toAg hw, rfl⟩, ?_⟩;rw [hd];exact hk h hs x dr _ (hag.put d undef (by simpa [Nat.blt_eq] using hn))
theorem zf {kept : Bool} (ho : fe l i = some o) (hst : ve P n Q o env m L kept fun env' L' => Z1 P n l t env' m L' Q) (hw : wanted l env o = some true) : Z1 P n l (.step i false t) env m L Q := by
 intro h hs x dr a hag;unfold Xr;rw [if_neg yA];unfold opB;rw [qw, ho];simp only;rw [if_pos (wg hag.toAg hw)];refine Oper.wp_mono ?_ (hst h hs x dr a hag);rintro a' w' ⟨env', h', d', hag', rfl, _, L', hh, hv⟩;exact ⟨hh.base, hv h' hh x d' a' hag'⟩
theorem LJ (ho : fe l i = some o) (hr : ∀ h, HS m L h -> vj P n o env h v) (hd : o.dst = some d) (hn : Nat.blt d n = true) (hw : wanted l env o = some true) (hk : Z1 P n l t ((d, v) :: env) m L Q) : Z1 P n l (.step i false t) env m L Q :=
 zf ho (vg hr hd hn hk) hw
end
theorem gT {P : Program} {rs : List ResultVar} {env : yW} {m m2 : Mp} {L : List yb} {post : Value -> List yb -> Prop} (hl : Le m m2) (vs : Lv) (hv : cv P env L rs vs) (L' : List yb) (hp : zN L L') (hq : post (ao vs) L') : QS (U6 P rs (wB m post)) .ret env m2 L :=
 fun h hs => ⟨vs, hv.ok hs, L', hq, (hp m2 h hs).weaken hl⟩
section
variable {P : Program} {n : Nat} {env : yW} {m : Mp} {L : List yb} {Q : yR} {β : Type}
def Gs (m : Mp) (S : Nat -> Oa -> Nat -> β -> yW) (LL : Nat -> Oa -> Nat -> β -> List yb) (F : Nat -> β -> Prop) (μ : Nat -> Nat) (k : Nat) (Q : yR) : yR := j2 m (fun y : Nat × Oa × Nat × β => S y.1 y.2.1 y.2.2.1 y.2.2.2) (fun y => LL y.1 y.2.1 y.2.2.1 y.2.2.2) (fun y => F y.1 y.2.2.2) (fun y => μ y.1) k Q
variable {F : Nat -> β -> Prop} {LL : Nat -> Oa -> Nat -> β -> List yb} {S : Nat -> Oa -> Nat -> β -> yW} {m0 : Mp} {μ : Nat -> Nat}
theorem uu {k i : Nat} (hq : QS Q (.exit i) env m L) : QS (Gs m0 S LL F μ k Q) (.exit i) env m L := hq
theorem kJ {k : Nat} (hl : Le m0 m) (j : Nat) (A : Oa) (c : Nat) (b : β) (hs : ba (S j A c b) env) (hp : zN L (LL j A c b)) (hF : F j b) (hk : μ j < k) : QS (Gs m0 S LL F μ k Q) .normal env m L :=
 fun h hh => ⟨(j, A, c, b), hs, ⟨hF, (hp m h hh).weaken hl⟩, hk⟩
theorem cn {c : Code} (S : Nat -> Oa -> Nat -> β -> yW) (LL : Nat -> Oa -> Nat -> β -> List yb) (F : Nat -> β -> Prop) (μ : Nat -> Nat) (j : Nat) (A : Oa) (cc : Nat) (b : β) (hs : ba (S j A cc b) env) (hp : zN L (LL j A cc b)) (hF : F j b) (hr : ∀ (j : Nat) (A : Oa) (cc : Nat) (b : β), F j b -> TS P n c (S j A cc b) m (LL j A cc b) (Gs m S LL F μ (μ j) Q)) : TS P n (.loop c) env m L Q :=
 yv (fun y : Nat × Oa × Nat × β => S y.1 y.2.1 y.2.2.1 y.2.2.2) (fun y => LL y.1 y.2.1 y.2.2.1 y.2.2.2) (fun y => F y.1 y.2.2.2) (fun y => μ y.1) (j, A, cc, b) hs hp hF fun y hF => hr y.1 y.2.1 y.2.2.1 y.2.2.2 hF
end
theorem ZG {P : Program} {t : TypeId} (ht : uJ P t = true) : ∃ ms, P.underlying t = some (.interface ms) := by
 unfold uJ at ht
 split at ht
 ·exact ⟨_, by assumption⟩
 ·cases ht
section
variable {P : Program} {n : Nat} {env : yW} {dst : Option Tmp} {ty : TypeId} {pos : String} {aft : Array Edge} {gd : Option (Nat × Bool)} {t yt u : TypeId} {x : Operand} {v : Value}
theorem Hv (ht : uJ P t = true) (hx : ev env x = some (.iface u v)) : yz P n ⟨dst, .binOp .eql t x (.const .nilIface) yt, ty, pos, aft, gd⟩ env (.bool false) := by
 intro a w hag;obtain ⟨ms, hu⟩ := ZG ht;have hy : a.eval (.const .nilIface) = .nilIface := rfl
 have h1 : (eqGuard .eql t x (.const .nilIface) (.iface u v) .nilIface).run P w = .ok () w := by
  unfold eqGuard
  simp
 have h2 : (Op.equal t (.iface u v) .nilIface).run P w = .ok false w := by
  show (Op.equalIn (9999 + 1) t _ _).run P w = _;rw [Op.equalIn]
  simp [run_underlying hu]
 simp [execOp, hag.eval hx, hy, h1, binOp, h2]
theorem K6 (ht : uJ P t = true) (hx : ev env x = some .nilIface) : yz P n ⟨dst, .binOp .eql t x (.const .nilIface) yt, ty, pos, aft, gd⟩ env (.bool true) := by
 intro a w hag;obtain ⟨ms, hu⟩ := ZG ht;have hy : a.eval (.const .nilIface) = .nilIface := rfl
 have h1 : (eqGuard .eql t x (.const .nilIface) .nilIface .nilIface).run P w = .ok () w := by
  unfold eqGuard
  simp
 have h2 : (Op.equal t .nilIface .nilIface).run P w = .ok true w := by
  show (Op.equalIn (9999 + 1) t _ _).run P w = _;rw [Op.equalIn]
  simp [run_underlying hu]
 simp [execOp, hag.eval hx, hy, h1, binOp, h2]
end
end Go.Eng
namespace Go.Eng
section
variable {P : Program} {n : Nat} {env : yW} {h : yB} {Q : yR}
def Nx {α : Type} (l : Nat) (S : α -> yW) (H : α -> yB -> Prop) (μ : α -> Nat) (k : Option Nat) (Q : yR) : yR
 | .goto l', env, h => l' = l /\ ∃ y, ba (S y) env /\ H y h /\ ∀ k0, k = some k0 -> μ y < k0
 | e, env, h => Q e env h
theorem OO {α : Type} {c rest : Code} (l : Nat) (hf : findLabel c l = some rest) (S : α -> yW) (H : α -> yB -> Prop) (μ : α -> Nat) (first : T P n c env h (Nx l S H μ none Q))
  (pass : ∀ (y : α) (h : yB), H y h -> T P n rest (S y) h (Nx l S H μ (some (μ y)) Q)) : T P n (.scope c) env h Q := by
 intro x d a hag b k cs;have hg : gotoIn l (.inScope c :: k) = some (.code rest :: .inScope c :: k) := by simp [gotoIn, hf]
 have key : ∀ (m : Nat) (y : α) (h : yB) (d : Nat) (a : Act), μ y = m -> dB n x (S y) a -> H y h ->
   ∃ e a' w', ZA n x Q e a' w' /\ Arrives P (lone (b.at a (.code rest :: .inScope c :: k)) cs (W x h d)) b k cs e a' w' := by
  intro m
  induction m using Nat.strongRecOn with
  | _ m ih =>
    intro y h d a hm hag hH;obtain ⟨e, a₁, w₁, hq, harr⟩ := pass y h hH x d a hag b (.inScope c :: k) cs;obtain ⟨env₁, h₁, d₁, hag₁, rfl, hq⟩ := hq;cases e with
    | normal => exact ⟨.normal, a₁, _, ⟨env₁, h₁, d₁, hag₁, rfl, hq⟩, Steps.trans harr (.one step_inScope)⟩
    | exit id => exact ⟨.exit id, a₁, _, ⟨env₁, h₁, d₁, hag₁, rfl, hq⟩, fun k' hk => harr k' (by simp [exitTo, hk])⟩
    | goto l' =>
      obtain ⟨rfl, y₁, hs₁, hH₁, hlt⟩ := hq;obtain ⟨e₂, a₂, w₂, hq₂, harr₂⟩ := ih (μ y₁) (hm ▸ hlt _ rfl) y₁ h₁ d₁ a₁ rfl (hag₁.sub hs₁) hH₁;exact ⟨e₂, a₂, w₂, hq₂, .of_steps (harr _ hg) harr₂⟩
    | ret => exact ⟨_, a₁, _, ⟨env₁, h₁, d₁, hag₁, rfl, hq⟩, harr⟩
    | panic ch => exact ⟨_, a₁, _, ⟨env₁, h₁, d₁, hag₁, rfl, hq⟩, harr⟩
    | outgrown => exact ⟨_, a₁, _, ⟨env₁, h₁, d₁, hag₁, rfl, hq⟩, harr⟩
 obtain ⟨e, a₁, w₁, hq, harr⟩ := first x d a hag b (.inScope c :: k) cs
 obtain ⟨env₁, h₁, d₁, hag₁, rfl, hq⟩ := hq;cases e with
 | normal => exact ⟨.normal, a₁, _, ⟨env₁, h₁, d₁, hag₁, rfl, hq⟩, .head step_scope (Steps.trans harr (.one step_inScope))⟩
 | exit id => exact ⟨.exit id, a₁, _, ⟨env₁, h₁, d₁, hag₁, rfl, hq⟩, fun k' hk => .head step_scope (harr k' (by simp [exitTo, hk]))⟩
 | goto l' =>
   obtain ⟨rfl, y₁, hs₁, hH₁, _⟩ := hq;obtain ⟨e₂, a₂, w₂, hq₂, harr₂⟩ := key _ y₁ h₁ d₁ a₁ rfl (hag₁.sub hs₁) hH₁;exact ⟨e₂, a₂, w₂, hq₂, .of_steps (.head step_scope (harr _ hg)) harr₂⟩
 | ret => exact ⟨_, a₁, _, ⟨env₁, h₁, d₁, hag₁, rfl, hq⟩, .of_steps (.one step_scope) harr⟩
 | panic ch => exact ⟨_, a₁, _, ⟨env₁, h₁, d₁, hag₁, rfl, hq⟩, .of_steps (.one step_scope) harr⟩
 | outgrown => exact ⟨_, a₁, _, ⟨env₁, h₁, d₁, hag₁, rfl, hq⟩, .of_steps (.one step_scope) harr⟩
end
section
variable {P : Program} {n : Nat} {env : yW} {m : Mp} {L : List yb} {Q : yR} {α : Type} {l : Nat} {S : α -> yW} {LL : α -> List yb} {F : α -> Prop} {μ : α -> Nat} {k : Option Nat}
def dn (m : Mp) (l : Nat) (S : α -> yW) (LL : α -> List yb) (F : α -> Prop) (μ : α -> Nat) (k : Option Nat) (Q : yR) : yR := Nx l S (fun y h => F y /\ HS m (LL y) h) μ k Q
theorem Xm (hq : QS Q .ret env m L) : QS (dn m l S LL F μ k Q) .ret env m L := hq
theorem ed {ch : List PanicEntry} (hq : QS Q (.panic ch) env m L) : QS (dn m l S LL F μ k Q) (.panic ch) env m L := hq
theorem Z6 (y : α) (hs : ba (S y) env) (hp : zN L (LL y)) (hF : F y) (hk : ∀ k0, k = some k0 -> μ y < k0) : QS (dn m l S LL F μ k Q) (.goto l) env m L := fun h hh => ⟨rfl, y, hs, ⟨hF, hp m h hh⟩, hk⟩
theorem Hp (hq : QS Q (.goto l) env m L) : TS P n (.goto l) env m L Q := fun h hs _ d _ hag => wp_goto ⟨env, h, d, hag, rfl, hq h hs⟩
variable {c : Code} {i : Nat}
theorem gS (hq : QS Q (.goto i) env m L) : QS (uT P n c Q) (.goto i) env m L := hq
theorem kW {id : Nat} (hq : QS Q (.goto i) env m L) : QS (qf id Q) (.goto i) env m L := hq
theorem dx {β : Type} {S : β -> yW} {LL : β -> List yb} {F : β -> Prop} {μ : β -> Nat} {k : Nat} (hq : QS Q (.goto i) env m L) : QS (j2 m S LL F μ k Q) (.goto i) env m L := hq
variable {rest : Code}
theorem LK (l : Nat) (hf : findLabel c l = some rest) (S : α -> yW) (LL : α -> List yb) (F : α -> Prop) (μ : α -> Nat) (first : TS P n c env m L (dn m l S LL F μ none Q)) (pass : ∀ (y : α), F y -> TS P n rest (S y) m (LL y) (dn m l S LL F μ (some (μ y)) Q)) : TS P n (.scope c) env m L Q :=
 fun h hs => OO l hf S _ μ (first h hs) fun y h ⟨h1, h2⟩ => pass y h1 h h2
theorem KZ {k0 : Nat} (y : α) (pass : TS P n rest (S y) m (LL y) (dn m l S LL F μ (some k0) Q)) (hs : ba (S y) env) (hp : zN L (LL y)) : TS P n rest env m L (dn m l S LL F μ none Q) := fun h hh =>
 YN (Vh (S y) hs (pass h (hp m h hh))) fun e env h hq => by
  cases e with
  | goto i => obtain ⟨e, y, h1, h2, _⟩ := hq; exact ⟨e, y, h1, h2, fun k0 h => by cases h⟩
  | _ => exact hq
end
theorem vJ {P : Program} {n : Nat} {env : yW} {m : Mp} {L : List yb} {Q : yR} {K : yW -> List yb -> Prop} {ty : TypeId} {pos : String} {aft : Array Edge} {gd : Option (Nat × Bool)} {t et : TypeId} {x y z : Operand} {v : Value} {b : Nat} {es : List (Bt × Value)} {k : Bt} {L' : List yb} (ht : fj P t = some et) (hx : ev env x = some (.map (some b))) (hy : ev env y = some (.string (bs k))) (hz : ev env z = some v)
  (hT : gz L (uF b es) (uF b (gK es k v)) L') (hk : K env L') : ve P n Q ⟨none, .insert t x y z, ty, pos, aft, gd⟩ env m L false K :=
 wY (P := P) (n := n) (Q := Q) (ty := ty) (pos := pos) (aft := aft) (gd := gd) ht hx hy hz hT hk
def ON (P : Program) (n : Nat) (l : List Oper) (fuel : Nat) (listed : Array Bool) (env : yW) (m : Mp) (L : List yb) (Q : yR) : Prop :=
 ∀ h, HS m L h -> ∀ (x : Fx) (d : Nat) (a : Act), dB n x env a -> QY P l.toArray m (ZA n x Q) fuel listed a (W x h d)
section
variable {P : Program} {n : Nat} {env : yW} {m : Mp} {L : List yb} {Q : yR} {l : List Oper} {o : Oper} {v : Value} {d i : Nat}
theorem OU {id : Nat} (hm : P.follows .mixedOrders = true) (hv : ON P n l l.length (Array.replicate l.length false) env m L Q) : TS P n (.region id l.toArray true) env m L Q := by
 intro h hs x d a hag;refine wp_region_any hm (eh (m := m) _ _ _ _ ?_);rw [List.size_toArray];exact hv h hs x (d + 1) a hag
variable {fuel : Nat} {listed : Array Bool}
theorem UH (ho : fe l i = some o) (hck : (ak l && ((Region.ready .any l.toArray listed).contains i && Uj l listed i o)) = true) (hQ : ∀ c env env' h, Q (.panic c) env h -> Q (.panic c) env' h) (hy : ∀ x a, dB n x env a -> YB P l.toArray m o v a) (hd : o.dst = some d) (hn : Nat.blt d n = true) (hk : ON P n l fuel (listed.setIfInBounds i true) ((d, v) :: env) m L Q) : ON P n l (fuel + 1) listed env m L Q := by
 intro h hs x dr a hag;simp only [Bool.and_eq_true] at hck;obtain ⟨hsel, hr, hf⟩ := hck;have hi : l.toArray[i]? = some o := by rw [qw]; exact ho
 unfold Uj at hf;rw [Bool.and_eq_true] at hf;obtain ⟨hf, hf2⟩ := hf;refine Vd rfl hi (ff hsel) (fun c a w h => ?_) fuel listed a _ hs.base ?_ ?_ (by simpa using hr) (hy x a hag) ?_
 ·obtain ⟨env1, h1, d1, hag1, rfl, hq1⟩ := h;refine ⟨[], h1, d1, ⟨⟨?_, fun t v ht => by simp [lk] at ht⟩, ?_⟩, rfl, hQ _ _ _ _ hq1⟩
  ·rw [<- hag1.size]; cases o.dst <;> simp [Act.put]
  ·rw [<- hag1.defers]; cases o.dst <;> simp [Act.put]
 ·intro j oj hj hji hun hno;rw [List.all_eq_true] at hf
  have hlt : j < l.length := by
   have := (Array.getElem?_eq_some_iff.1 hj).1
   simpa using this
  have := hf j (List.mem_range.2 hlt);rw [qw] at hj;rw [hj] at this
  have hno' : (uz l i).contains j = false := by
   cases hcn : (uz l i).contains j with
   | false => rfl
   | true => exact absurd (List.contains_iff_mem.1 hcn) hno
  simpa only [hun, hno', beq_eq_false_iff_ne.2 hji, Bool.false_or] using this
 ·intro k hk hmem;rw [List.all_eq_true] at hf2;have := hf2 k hmem;rw [hk] at this;cases this
 ·rw [hd];exact hk h hs x dr _ (hag.put d v (by simpa [Nat.blt_eq] using hn))
theorem jl (ho : fe l i = some o) (hck : (ak l && ((Region.ready .any l.toArray listed).contains i && Uj l listed i o)) = true) (hQ : ∀ c env env' h, Q (.panic c) env h -> Q (.panic c) env' h) (hr : yz P n o env v) (hd : o.dst = some d) (hn : Nat.blt d n = true) (hw : wanted l env o = some true) (hk : ON P n l fuel (listed.setIfInBounds i true) ((d, v) :: env) m L Q) : ON P n l (fuel + 1) listed env m L Q :=
 UH ho hck hQ (fun _ a hag => .inl ⟨wg hag.toAg hw, fun w' _ => hr a w' hag⟩) hd hn hk
theorem OM (ho : fe l i = some o) (hck : (ak l && ((Region.ready .any l.toArray listed).contains i && Uj l listed i o)) = true) (hQ : ∀ c env env' h, Q (.panic c) env h -> Q (.panic c) env' h) (hr : ∀ h, HS m [] h -> vj P n o env h v) (hd : o.dst = some d) (hn : Nat.blt d n = true) (hw : wanted l env o = some true) (hk : ON P n l fuel (listed.setIfInBounds i true) ((d, v) :: env) m L Q) : ON P n l (fuel + 1) listed env m L Q :=
 UH ho hck hQ (fun _ a hag => .inl ⟨wg hag.toAg hw, fun w' hl => hr w'.heap (HS.nil hl) a w' hag (Le.refl _)⟩) hd hn hk
theorem Hl {σ : Type} (f : σ -> Array Bool) (μ : σ -> Nat) (Inv : σ -> yW -> List yb -> Prop) (step : ∀ s env L, Inv s env L -> (Region.ready .any l.toArray (f s) = [] -> QS Q .normal env m L) /\ (μ s = 0 -> Region.ready .any l.toArray (f s) = []) /\
   ∀ i ∈ Region.ready .any l.toArray (f s), ∃ o kept s', fe l i = some o /\ wanted l env o = some true /\ f s' = (f s).setIfInBounds i true /\ μ s' + 1 = μ s /\ ve P n Q o env m L kept fun env' L' => Inv s' env' L') :
  ∀ (k : Nat) (s : σ) (env : yW) (L : List yb), μ s = k -> Inv s env L -> ON P n l k (f s) env m L Q
 | 0, s, env, L, hk, hi => fun h hs x d a hag => by
   obtain ⟨h1, h2, -⟩ := step s env L hi;exact ⟨h2 hk, env, h, d, hag, rfl, h1 (h2 hk) h hs⟩
 | k + 1, s, env, L, hk, hi => fun h hs x d a hag => by
   obtain ⟨h1, -, h3⟩ := step s env L hi;refine ⟨fun hr => ⟨env, h, d, hag, rfl, h1 hr h hs⟩, fun i hin => ?_⟩;obtain ⟨o, kept, s', ho, hw, hf, hm, hst⟩ := h3 i hin;unfold opB;rw [qw, ho];simp only;rw [if_pos (wg hag.toAg hw)];refine Oper.wp_mono ?_ (hst h hs x d a hag);rintro a' w' ⟨env', h', d', hag', rfl, _, L', hh, hv⟩;refine ⟨hh.base, ?_⟩;rw [<- hf]
   exact Hl f μ Inv step k s' env' L' za hv h' hh x d' a' hag'
end
variable {l : List Oper}
theorem PN {i : Nat} {o : Oper} (h : fe l i = some o) : o ∈ l := by
 induction l generalizing i with
 | nil => cases h
 | cons x r ih =>
   cases i with
   | zero => cases h; exact .head _
   | succ i => exact .tail _ (ih h)
variable {P : Program}
theorem QV {wild : Nat -> Bool} {Q : Exit -> Act -> World -> Prop} (hsel : ak l = true) (hQ : ∀ o ∈ l, ∀ v c a w, Q (.panic c) (a.put o.dst v) w -> Q (.panic c) a w) :
  ∀ (t : OT) (n : Nat) (listed : Array Bool) (a : Act) (w : World), b9 P l wild Q t a w ->
   (ji l wild t false n listed = true -> YM P l.toArray wild Q n listed a w) /\
   (ji l wild t true n listed = true -> vS t ≠ [] /\ 0 < n /\ ∀ i ∈ vS t, opE P l.toArray wild Q i (YM P l.toArray wild Q (n - 1) (listed.setIfInBounds i true)) a w) := by
 intro t
 induction t with
 | done =>
   intro n listed a w hs;refine ⟨fun hc => ?_, fun hc => by simp [ji] at hc⟩;simp only [ji, Bool.not_false, Bool.true_and, Bool.and_eq_true, List.isEmpty_iff] at hc;have hn := Nat.eq_of_beq_eq_true hc.1;subst hn;exact ⟨hc.2, hs⟩
 | step i k t ih =>
   intro n listed a w hs;cases n with
   | zero => exact ⟨fun hc => by simp [ji] at hc, fun hc => by simp [ji] at hc⟩
   | succ m =>
     unfold b9 at hs;cases hk : k.quiet with
     | true =>
       rw [if_pos hk] at hs;obtain ⟨o, v, ho, hy, hs⟩ := hs;refine ⟨fun hc => ?_, fun hc => ?_⟩
       ·unfold ji at hc;rw [Bool.and_eq_true] at hc;obtain ⟨hc, hc'⟩ := hc;rw [ho] at hc;simp only [hk, if_true, Bool.not_false, Bool.true_and, Bool.and_eq_true] at hc;obtain ⟨hr, hf⟩ := hc;have hi : l.toArray[i]? = some o := by rw [qw]; exact ho
        unfold NL at hf;rw [Bool.and_eq_true] at hf;obtain ⟨hf, hf2⟩ := hf;refine d5 rfl hi (ff hsel) (fun c a w h => hQ o (PN ho) _ c a w h) m listed a w ?_ ?_ (by simpa using hr) hy ((ih m _ _ _ hs).1 hc')
        ·intro j oj hj hji hun hno;rw [List.all_eq_true] at hf
         have hlt : j < l.length := by
          have := (Array.getElem?_eq_some_iff.1 hj).1
          simpa using this
         have := hf j (List.mem_range.2 hlt);rw [qw] at hj;rw [hj] at this
         have hno' : (uz l i).contains j = false := by
          cases hcn : (uz l i).contains j with
          | false => rfl
          | true => exact absurd (List.contains_iff_mem.1 hcn) hno
         simp only [hun, hno', beq_eq_false_iff_ne.2 hji, Bool.false_or, Bool.and_eq_true] at this;exact ⟨this.1, by cases hw : wild j <;> simp [hw] at this ⊢ <;> simp [this]⟩
        ·intro k hk hmem;rw [List.all_eq_true] at hf2;have := hf2 k hmem;rw [hk] at this;cases this
       ·unfold ji at hc;rw [Bool.and_eq_true] at hc;rw [ho] at hc
        simp [hk] at hc
     | false =>
       rw [if_neg (by rw [hk]; simp)] at hs
       have hb : ∀ b, ji l wild (.step i k t) b (m + 1) listed = true -> opE P l.toArray wild Q i (YM P l.toArray wild Q m (listed.setIfInBounds i true)) a w := fun b hc => by
        unfold ji at hc;rw [Bool.and_eq_true] at hc;exact Zs (fun a w hs => (ih m _ a w hs).1 hc.2) hs
       refine ⟨fun hc => ?_, fun hc => ⟨by simp [vS], Nat.succ_pos _, fun j hj => ?_⟩⟩
       ·have hrd : Region.ready .any l.toArray listed = [i] := by
         unfold ji at hc;rw [Bool.and_eq_true] at hc;have hc1 := hc.1
         split at hc1
         ·cases hc1
         ·simp only [hk, Bool.false_eq_true, if_false, Bool.false_or] at hc1
          simpa using hc1
        refine ⟨(fun h => by rw [hrd] at h; cases h), fun j hj => ?_⟩;rw [hrd] at hj;have : j = i := by simpa using hj
        subst this;exact hb _ hc
       ·have : j = i := by simpa [vS] using hj
        subst this;exact hb _ hc
 | fork s t ih1 ih2 =>
   intro n listed a w hs;unfold b9 at hs
   have key : ∀ b, ji l wild (.fork s t) b n listed = true -> vS (.fork s t) ≠ [] /\ 0 < n /\ ∀ i ∈ vS (.fork s t), opE P l.toArray wild Q i (YM P l.toArray wild Q (n - 1) (listed.setIfInBounds i true)) a w := fun b hc => by
    unfold ji at hc;simp only [Bool.and_eq_true] at hc;obtain ⟨h1, h0, h2⟩ := (ih1 n listed a w hs.1).2 hc.1.2;obtain ⟨_, _, h3⟩ := (ih2 n listed a w hs.2).2 hc.2;refine ⟨by simp [vS, h1], h0, fun i hi => ?_⟩;simp only [vS, List.mem_append] at hi;rcases hi with hi | hi
    ·exact h2 i hi
    ·exact h3 i hi
   refine ⟨fun hc => ?_, key true⟩;obtain ⟨k1, k2, k3⟩ := key false hc;unfold ji at hc;simp only [Bool.and_eq_true, Bool.false_or] at hc;have hall := hc.1.1.2;have hne := hc.1.1.1;rw [List.all_eq_true] at hall;obtain ⟨m, rfl⟩ : ∃ m, n = m + 1 := ⟨n - 1, by omega⟩;refine ⟨fun hnil => (by rw [hnil] at hne; cases hne), fun i hi => ?_⟩;have := hall i hi;exact k3 i (by simpa [vS] using this)
def ka (d : Nat) (env : yW) : yW := env.filter fun p => !Nat.beq p.1 d
variable {d : Nat}
theorem Zy {t : Nat} : ∀ {env : yW}, d ≠ t -> lk (ka d env) t = lk env t
 | [], _ => rfl
 | (k, v) :: r, h => by
   have ih := Zy (env := r) h;by_cases hk : k = d
   ·subst hk;have e : ka k ((k, v) :: r) = ka k r := by simp [ka]
    rw [e, ih];show lk r t = (match Nat.beq k t with | true => some v | false => lk r t);rw [YL h]
   ·have e : ka d ((k, v) :: r) = (k, v) :: ka d r := by unfold ka; rw [List.filter_cons_of_pos (by rw [YL hk]; rfl)]
    rw [e];show (match Nat.beq k t with | true => some v | false => lk (ka d r) t) = (match Nat.beq k t with | true => some v | false => lk r t);rw [ih]
theorem dj {d : Nat} : ∀ {env : yW}, lk (ka d env) d = none
 | [] => rfl
 | (k, v) :: r => by
   have ih := dj (d := d) (env := r);by_cases hk : k = d
   ·subst hk;have e : ka k ((k, v) :: r) = ka k r := by simp [ka]
    rw [e, ih]
   ·have e : ka d ((k, v) :: r) = (k, v) :: ka d r := by unfold ka; rw [List.filter_cons_of_pos (by rw [YL hk]; rfl)]
    rw [e];show (match Nat.beq k d with | true => some v | false => lk (ka d r) d) = none;rw [YL hk, ih]
def OF (k : Nat) (l : List Oper) : Bool := l.all fun o => match o.dst with
 | none => true
 | some d => Nat.blt k d
theorem co {n : Nat} {env : yW} {m : Mp} {L : List yb} {Q : yR} {id : Nat} (t : OT) (hm : P.follows .mixedOrders = true) (hck : W5 l t = true) (k : Nat) (hk : OF k l = true) (hQ : ∀ d c env h, Nat.blt k d = true -> Q (.panic c) env h -> Q (.panic c) (ka d env) h) (hv : ZZ P n l (Zd t) t env m L Q) : TS P n (.region id l.toArray true) env m L Q := by
 intro h hs x d a hag;unfold W5 at hck;simp only [Bool.and_eq_true] at hck;obtain ⟨h1, h3⟩ := hck;have hs := hv h hs x (d + 1) a hag
 have := (QV h1 (Q := ZA n x Q) (by
  rintro o ho v c a w ⟨env, h, d, hag, rfl, hq⟩;cases hod : o.dst with
  | none => rw [hod] at hag; exact ⟨env, h, d, hag, rfl, hq⟩
  | some j =>
    rw [hod] at hag;unfold OF at hk;rw [List.all_eq_true] at hk;have hj := hk o ho;rw [hod] at hj;refine ⟨ka j env, h, d, ⟨⟨by rw [<- hag.size]; simp [Act.put], fun t u ht => ?_⟩, hag.defers⟩, rfl, hQ j c env h hj hq⟩
    have hne : j ≠ t := by
     rintro rfl;rw [dj] at ht;cases ht
    rw [Zy hne] at ht;have h5 := hag.toAg.at_ t u ht
    simpa [Act.put, hne] using h5) t l.length _ a _ hs).1 h3
 refine wp_region_any hm (kN (wild := Zd t) _ _ _ _ ?_);rw [List.size_toArray];exact this
end Go.Eng
namespace Go.Eng
open Go.ChangeShapes Go.WideShapes Go.ChangeAt Go.RowKit
def O5 {H : Type} (P : Program) (w : World) (t : TypeId) (x : DataW H × List MemPlace) : Prop := w.noneFrozen x.2 /\ ∀ k ∈ DataW.weights P t x.1, k <= reachBytes
section
variable {H : Type} {enc : TypeId × Value -> H} {P : Program} {w : World} {base : Nat} {spare : Nat -> Bool} {held : Bool}
theorem Pr {t fuel : Nat} {cs : Lv} {x : DataW H × List MemPlace} (ht : gE P t = true) (h : DataW.trod enc P w base spare held fuel t cs = some x) (hg : O5 P w t x) : ∃ l : Bt, cs = [.string (bs l)] /\ l.length <= 140737488355328 := by
 obtain ⟨s, h1, h3, h2⟩ := DataW.trod_string (GT ht) h;refine ⟨s.data.toList, by rw [G8]; exact h1, ?_⟩;have := hg.2 s.data.toList.length (by rw [h3]; simp [DataW.weights]);unfold reachBytes at this;omega
end
end Go.Eng
namespace Go.Eng
section
variable {P : Program} {n : Nat} {env : yW} {x : Operand} {t yt : TypeId} {dst : Option Tmp} {ty : TypeId} {pos : String} {aft : Array Edge} {gd : Option (Nat × Bool)}
variable {A : Oa} {c m : Nat}
theorem VK {op : BinOp} {y : Operand} {v : Value} : eqGuard op t x y (.slice A m c) v = pure () := by cases op <;> rfl
theorem Hu (ht : j6 P t = true) (hx : ev env x = some (.slice A m c)) : yz P n ⟨dst, .binOp .eql t x (.const (.slice none 0 0)) yt, ty, pos, aft, gd⟩ env (.bool A.isNone) := by
 intro a' w ha;obtain ⟨e, he⟩ := Jz ht;simp only [execOp, ha.eval hx, ha.eval (rfl : ev env (.const (.slice none 0 0)) = some (.slice none 0 0)), VK]
 simp [Go.run_eql_slice_nil w t e A m c he]
end
end Go.Eng
namespace Go.Eng
theorem zN.tr {L1 L2 L3 : List yb} (h1 : zN L1 L2) (h2 : zN L2 L3) : zN L1 L3 := fun m h hs => h2 m h (h1 m h hs)
theorem zN.packSnoc {os r : List yb} {o : yb} : zN (yF os :: o :: r) (yF (os ++ [o]) :: r) := fun m h hs => by
 have h1 : HS m (os ++ o :: r) h := HS.pack_iff.2 hs;rw [show os ++ o :: r = (os ++ [o]) ++ r by simp] at h1;exact HS.pack_iff.1 h1
section
variable {P : Program} {n : Nat} {env : yW} {m : Mp} {L r : List yb} {Q : yR}
end
end Go.Eng
namespace Go.Eng
section
variable {P : Program} {n : Nat} {env : yW} {m : Mp} {L r : List yb} {Q : yR} {ty : TypeId} {pos : String} {aft : Array Edge} {gd : Option (Nat × Bool)} {d : Nat}
theorem cu {K : yW -> List yb -> Prop} {f : FuncId} {fv : Operand} {args : List Operand} {ats : Array TypeId} {vs p q : Lv} {pre : List yb} {post : Value -> List yb -> Prop} (hcl : yX P f = true) (hf : ev env fv = some (.func (.func f) p.toArray q.toArray)) (hx : Zb env args = some vs) (hT : XS L pre r)
  (hc : ∀ m', Le m m' -> HE r m' -> CS P f ((p ++ vs) ++ q) m' pre post) (hn : Nat.blt d n = true) (hk : ∀ v L', post v L' -> K ((d, v) :: env) (L' ++ r)) : ve P n Q ⟨some d, .call ⟨.value fv, args.toArray, ats⟩, ty, pos, aft, gd⟩ env m L false K :=
 vV (ppost := fun _ _ => False) hcl hf hx hT (fun m' h1 h2 => (hc m' h1 h2).toP) hn (fun _ _ h => h.elim) hk
end
end Go.Eng
namespace Go.Eng
section
variable {P : Program} {n : Nat} {env : yW} {m : Mp} {L : List yb} {x y : Operand} {t et : TypeId} {dst : Option Tmp} {ty : TypeId} {pos : String} {aft : Array Edge} {gd : Option (Nat × Bool)}
def gG (m : Mp) (b : Nat) (es : List (Bt × Value)) : Prop := m b = some (.map (vO 0 es).toArray es.length)
variable {b : Nat} {es : List (Bt × Value)}
theorem gG.mono {m' : Mp} (h : gG m b es) (hl : Le m m') : gG m' b es := hl _ _ h
theorem gG.of (h : (uF b es).inv m) : gG m b es := h
variable {zv : Value}
theorem UI {k : Bt} (hm : gG m b es) (ht : fj P t = some et) (hx : ev env x = some (.map (some b))) (hy : ev env y = some (.string (bs k))) (hzz : ∀ w, (zeroValue et).run P w = .ok zv w) :
  ∀ h, HS m L h -> vj P n ⟨dst, .lookup t x y false, ty, pos, aft, gd⟩ env h ((gv es k).getD zv) := fun h hs a w ha hl => by
 have h1 : mp w.heap b = some (.map (vO 0 es).toArray es.length) := hl _ _ (hs.base _ _ hm);have := j1 (P := P) (fx := ⟨w.tape, w.os, w.output, []⟩) (h := w.heap) (dr := w.drawn) (cm := false) (k := k) ht h1 hzz;simp only [execOp, ha.eval hx, ha.eval hy, Sem.run_bind];rw [<- Rz] at this;rw [this]
 rfl
theorem d7 {k : Bt} (hm : gG m b es) (ht : fj P t = some et) (hx : ev env x = some (.map (some b))) (hy : ev env y = some (.string (bs k))) (hzz : ∀ w, (zeroValue et).run P w = .ok zv w) :
  ∀ h, HS m L h -> vj P n ⟨dst, .lookup t x y true, ty, pos, aft, gd⟩ env h (.tuple [(gv es k).getD zv, .bool (gv es k).isSome].toArray) := fun h hs a w ha hl => by
 have h1 : mp w.heap b = some (.map (vO 0 es).toArray es.length) := hl _ _ (hs.base _ _ hm);have := j1 (P := P) (fx := ⟨w.tape, w.os, w.output, []⟩) (h := w.heap) (dr := w.drawn) (cm := true) (k := k) ht h1 hzz;simp only [execOp, ha.eval hx, ha.eval hy, Sem.run_bind];rw [<- Rz] at this;rw [this]
 rfl
end
end Go.Eng
namespace Go.Eng
section
variable {P : Program} {n : Nat} {env : yW} {h : yB} {Q : yR} {K : yW -> yB -> Prop} {d : Nat} {ty : TypeId} {pos : String} {aft : Array Edge} {gd : Option (Nat × Bool)} {x y : Operand} {t u : TypeId}
theorem Jw (s : Bt) : Lib.strCells (bs s) = s.map vI := by
 unfold Lib.strCells bs
 rfl
theorem Px (s : Bt) : (bs s).size = s.length := by simp [bs, ByteArray.size]
theorem L0 {A : Oa} {k c e xI : Nat} {z xs : Lv} {s : Bt} (hs : vD P t = some (e, 1, xI, z)) (hzl : z.length = 1) (hus : P.underlying u = some .string)
  (hx : ev env x = some (.slice A k c)) (hy : ev env y = some (.string (bs s))) (hown : Own (mp h) e 1 A k c xs)
  (hm : k + s.length <= maxLen) (hb : (k + s.length) * xI <= 140737488355328) (hn : Nat.blt d n = true)
  (hk : ∀ A' c' h', Own (mp h') e 1 A' (k + s.length) c' (xs ++ s.map vI) -> Vk h A h' A' -> ((A' = A /\ (A = none -> s = [])) \/ (A' = some ⟨h.size, 0, none⟩ /\ s ≠ [])) -> K ((d, .slice A' (k + s.length) c') :: env) h') :
  gj P n Q ⟨some d, .call ⟨.builtin .append, #[x, y], #[t, u]⟩, ty, pos, aft, gd⟩ env h K := by
 refine step_of_run' rfl hn fun fx dr a ha => ?_;obtain ⟨i, zv, hu, hi, hz, hsi, hby, hzc⟩ := av hs
 have hexec : ∀ r w', (Builtin.append_ #[t, u] ty #[.slice A k c, .string (bs s)]).run P (W fx h dr) = .ok r w' ->
   (execOp a.eval ⟨some d, .call ⟨.builtin .append, #[x, y], #[t, u]⟩, ty, pos, aft, gd⟩).run P (W fx h dr) = .ok (.value r) w' := by
  intro r w' hrun;simp only [execOp, resolve, invoke, builtin, List.map_toArray, List.map_cons, List.map_nil, ha.eval hx, ha.eval hy, Sem.run_bind, Sem.run_pure, Result.andThen_ok, hrun]
 have hsz := Px s;have hsc := Jw s;have hnl : (s.map vI).length = s.length := List.length_map _;have hlen : (xs ++ s.map vI).length = (k + s.length) * 1 := by rw [List.length_append, hown.1, hnl, Nat.add_mul, Nat.mul_one, Nat.mul_one]
 have hsmall : k + s.length <= 9223372036854775807 := by simp only [maxLen] at hm; omega
 have grown : ∀ (old : Nat), old < k + s.length -> ∃ A' c' h', (some (⟨h.size, 0, none⟩ : Addr)) = A' /\ grownCap (W fx h dr) (k + s.length) old e = c' /\
   ((W fx h dr).drew.alloc (.cells (xs.toArray ++ (s.map vI).toArray ++ Builtin.zeroCells zv.cells (grownCap (W fx h dr) (k + s.length) old e - (k + s.length))) e)) = W fx h' (dr + 1) /\
   Own (mp h') e 1 A' (k + s.length) c' (xs ++ s.map vI) /\ Vk h A h' A' := by
  intro old ho;have hge := grownCap_ge (W fx h dr) (k + s.length) old e;have hcm : grownCap (W fx h dr) (k + s.length) old e <= maxLen := grownCap_le_maxLen (W fx h dr) (k + s.length) old e hm;refine ⟨_, _, h.push _, rfl, rfl, rfl, ⟨hlen, hge, .inr ⟨h.size, 0, _, rfl, uA h _, hcm, ?_, ?_⟩⟩, XK (.inr rfl) yA fun j hj _ => ?_⟩
  ·have hz1 : zv.cells.size = 1 := by rw [hzc]; simpa using hzl
   have hx1 := hown.1;simp only [Array.size_append, List.size_toArray, size_zeroCells, hz1, hx1, hnl];omega
  ·simp only [Array.toList_append, List.append_assoc, List.drop_zero];rw [<- List.append_assoc, <- hlen];exact List.take_left
  ·unfold mp; rw [Array.getElem?_push, if_neg za]
 obtain ⟨hxl, hkc, ⟨rfl, rfl⟩ | ⟨g, o, cur, rfl, hg, hcm, hcs, htake⟩⟩ := hown
 ·have hk0 : k = 0 := by omega
  subst hk0;have hx : xs = [] := List.eq_nil_of_length_eq_zero (by simpa using hxl);subst hx;by_cases hm0 : s.length = 0
  ·have hsn : s = [] := List.eq_nil_of_length_eq_zero hm0;subst hsn;refine ⟨.slice none 0 0, h, dr, hexec _ _ ?_, hk none 0 h (Own.nil _ _ _) ⟨Le.refl _, .inl rfl, Nat.le_refl _, fun _ _ _ => rfl⟩ (.inl ⟨rfl, fun _ => rfl⟩)⟩;have hf := Lib.run_firstCells_string (P := P) (W fx h dr) i.size (bs []);have h0 : (bs []).size = 0 := rfl;rw [h0] at hf
   simp [Builtin.append_, run_underlying hu, run_underlying hus, sizeOf, typeInfo, hi, Builtin.lenOf, h0, hf]
  ·have hrun := run_append_nil_string (P := P) (W fx h dr) t u ty e i zv hu hus hi hz (bs s) za za (by rw [<- hby] at hb; simp only [Nat.zero_add] at hb; rw [hsz]; omega);obtain ⟨A', c', h', rfl, rfl, hw, h5, h6⟩ := grown 0 za;simp only [Nat.zero_add, List.nil_append, Array.empty_append] at hw h5
   refine ⟨_, h', dr + 1, ?_, hk _ _ h' (by simpa using h5) h6 (.inr ⟨rfl, fun e => hm0 (by rw [e]; rfl)⟩)⟩;rw [<- hw];simp only [Nat.zero_add];refine hexec _ _ ?_;rw [hsz] at hrun
   have e1 : (bs s).data.map (fun b => Value.int .u8 b.toNat) = (s.map vI).toArray := by
    simp only [bs, List.map_toArray]
    rfl
   rw [e1] at hrun;exact hrun
 ·by_cases hroom : k + s.length <= c
  ·have hfit : o + k + (s.map vI).length <= cur.size := by
    rw [hnl];simp only [Nat.mul_one] at hcs;omega
   have hf := Lib.run_firstCells_string (P := P) (W fx h dr) 1 (bs s);rw [hsc, hsz] at hf;have hst := run_storeCells_at P g (o + k) e (s.map vI) 0 cur (W fx h dr) hg (by simpa using hfit) (fun u hu => cN (GK s u hu));simp only [Nat.add_zero] at hst
   have hrun : (Builtin.append_ #[t, u] ty #[.slice (some ⟨g, o, none⟩) k c, .string (bs s)]).run P (W fx h dr) =
     .ok (.slice (some ⟨g, o, none⟩) (k + s.length) c) ((W fx h dr).setRow g (cur.toList.take (o + k) ++ s.map vI ++ cur.toList.drop (o + k + (s.map vI).length)).toArray) := by
    simp [Builtin.append_, run_underlying hu, run_underlying hus, sizeOf, typeInfo, hi, hsi, Builtin.lenOf, hsz, hroom, hf, Addr.add_lit, hst]
   obtain ⟨h', hw, hsz2, hoth⟩ := bD fx h dr g (cur.toList.take (o + k) ++ s.map vI ++ cur.toList.drop (o + k + (s.map vI).length)).toArray
   have hg' : mp h' g = some (.cells (cur.toList.take (o + k) ++ s.map vI ++ cur.toList.drop (o + k + (s.map vI).length)).toArray e (0, 0)) := by
    have := setRow_heap (W fx h dr) g cur (cur.toList.take (o + k) ++ s.map vI ++ cur.toList.drop (o + k + (s.map vI).length)).toArray e (0, 0) hg;rw [hw] at this;exact this
   rw [hw] at hrun;refine ⟨_, h', dr, hexec _ _ hrun, hk _ _ h' ⟨hlen, hroom, .inr ⟨g, o, _, rfl, hg', hcm, ?_, ?_⟩⟩ (XK (.inl rfl) za fun j hj hne => hoth j (fun e => hne (by subst e; rfl))) (.inl ⟨rfl, fun h => by cases h⟩)⟩
   ·simp only [List.size_toArray, List.length_append, List.length_take, List.length_drop, Array.length_toList];omega
   ·have e1 : (cur.toList.take (o + k)).drop o = xs := by
     rw [List.drop_take];have : o + k - o = k := by omega
     rw [this]
     simpa using htake
    simp only [List.append_assoc];rw [List.drop_append_of_le_length (by rw [List.length_take, Array.length_toList]; simp only [Nat.mul_one] at hcs; omega), e1, <- List.append_assoc, <- hlen];exact List.take_left
  ·have holds : ∀ j u, xs[j]? = some u -> (W fx h dr).cell? ((⟨g, o, none⟩ : Addr).add j) = some u := by
    intro j u hj;rw [<- htake, List.getElem?_take] at hj
    split at hj
    ·rw [gO, Yh];simp only [mc];have hg2 : mp (W fx h dr).heap g = some (.cells cur e (0, 0)) := hg;rw [hg2];rw [List.getElem?_drop] at hj
     simpa using hj
    ·cases hj
   have hrun := Lib.run_append_grow_string (P := P) (W fx h dr) t u ty e i zv hu hus hi hz ⟨g, o, none⟩ k c xs (by rw [hsi]; exact hxl) holds (bs s) za za (growslice_fits za (by rw [hby, hsz]; exact hb));obtain ⟨A', c', h', rfl, rfl, hw, h5, h6⟩ := grown c za;refine ⟨_, h', dr + 1, ?_, hk _ _ h' h5 h6 (.inr ⟨rfl, fun e => hroom (by rw [e]; exact hkc)⟩)⟩;rw [<- hw]
   refine hexec _ _ ?_;rw [hsz, hsc] at hrun;exact hrun
end
section
variable {P : Program} {n : Nat} {env : yW} {m : Mp} {L : List yb} {Q : yR} {K : yW -> List yb -> Prop} {d : Nat} {ty : TypeId} {pos : String} {aft : Array Edge} {gd : Option (Nat × Bool)} {x y : Operand} {t u : TypeId}
def Gf (A : Oa) (l : Bt) : Prop := (l = [] /\ A = none) \/ (l ≠ [] /\ ∃ g, A = some ⟨g, 0, none⟩)
theorem Gf.nil : Gf none [] := .inl ⟨rfl, rfl⟩
variable {c e : Nat} {l : Bt}
theorem LN {A : Oa} {k xI : Nat} {z : Lv} {s : Bt} {L' : Oa -> Nat -> List yb} (hs : vD P t = some (e, 1, xI, z)) (hzl : z.length = 1) (hus : P.underlying u = some .string) (hx : ev env x = some (.slice A k c)) (hy : ev env y = some (.string (bs s))) (hT : ∀ A' c', gz L (own e 1 A k c (l.map vI)) (own e 1 A' (k + s.length) c' ((l ++ s).map vI)) (L' A' c')) (hA : Gf A l) (hm : k + s.length <= maxLen) (hb : (k + s.length) * xI <= 140737488355328) (hn : Nat.blt d n = true) (hk : ∀ A' c', Gf A' (l ++ s) -> K ((d, .slice A' (k + s.length) c') :: env) (L' A' c')) :
  ve P n Q ⟨some d, .call ⟨.builtin .append, #[x, y], #[t, u]⟩, ty, pos, aft, gd⟩ env m L false K := fun h hh => by
 obtain ⟨r, h2, _⟩ := (hT none 0).split;have h3 := hh.take h2;refine L0 hs hzl hus hx hy (show Own (mp h) e 1 A k c (l.map vI) from h3.head) hm hb hn fun A' c' h' g1 g2 g3 => ⟨(fun hf => by cases hf), L' A' c', ?_, hk A' c' ?_⟩
 ·refine hh.sel (hT A' c') fun r h4 => h4.upd (e' := own e 1 A' (k + s.length) c' ((l ++ s).map vI)) (fun i hi hd => g2.other i hi ?_) ?_ fun i hi => ?_
  ·intro e;have hd' : aP A i = false := hd
   simp [aP, <- e] at hd'
  ·show Own _ _ _ _ _ _ _;rw [List.map_append];exact g1
  ·have : aP A' i = true := hi;simp only [aP, beq_iff_eq] at this;rcases g2.at_ with e | e
   ·left; show aP A i = true; rw [e] at this; simp [aP, this]
   ·right; rw [e] at this; injection this with this; omega
 ·rcases g3 with ⟨rfl, g3⟩ | ⟨rfl, g3⟩
  ·rcases hA with ⟨rfl, rfl⟩ | ⟨h1, h2⟩
   ·rw [g3 rfl]; exact .inl ⟨rfl, rfl⟩
   ·exact .inr ⟨by simp [h1], h2⟩
  ·exact .inr ⟨by simp [g3], _, rfl⟩
variable {ats : Array TypeId}
theorem fH {k : Nat} (hx : ev env x = some (.slice none k c)) : yz P n ⟨some d, .call ⟨.builtin .unsafeSliceData, #[x], ats⟩, ty, pos, aft, gd⟩ env (.pointer none) := by
 intro a' w ha;simp only [execOp, resolve, invoke, builtin, List.map_toArray, List.map_cons, List.map_nil, ha.eval hx, Sem.run_bind, Sem.run_pure, Result.andThen_ok]
 rfl
theorem be {A : Addr} {k : Nat} (hx : ev env x = some (.slice (some A) k c)) (hc : c ≠ 0) : yz P n ⟨some d, .call ⟨.builtin .unsafeSliceData, #[x], ats⟩, ty, pos, aft, gd⟩ env (.pointer (some A)) := by
 intro a' w ha
 have hrun : (Builtin.unsafeSliceData_ ats ty #[.slice (some A) k c]).run P w = .ok (.pointer (some A)) w := by
  have hdef : Builtin.unsafeSliceData_ ats ty #[.slice (some A) k c] =
   (do
    if c ≠ 0 then pure (.pointer (some A))
    else if (<- viewAt A.block).isSome then pure (.pointer (some A))
    else pure (.pointer (some ⟨<- newObj (.view A (<- elemOf ty)), 0, none⟩))) := rfl
  rw [hdef]
  simp [hc]
 simp only [execOp, resolve, invoke, builtin, List.map_toArray, List.map_cons, List.map_nil, ha.eval hx, Sem.run_bind, Sem.run_pure, Result.andThen_ok, hrun]
theorem gA {pt it : TypeId} {p : Oa} (hx : ev env x = some (.pointer p)) (hy : ev env y = some (.int .i64 0)) : yz P n ⟨some d, .call ⟨.builtin .unsafeString, #[x, y], #[pt, it]⟩, ty, pos, aft, gd⟩ env (.string (bs [])) := by
 intro a' w ha;simp only [execOp, resolve, invoke, builtin, List.map_toArray, List.map_cons, List.map_nil, ha.eval hx, ha.eval hy, Sem.run_bind, Sem.run_pure, Result.andThen_ok, Lib.run_unsafeString_none]
 rfl
theorem fG {pt it g : Nat} {r : List yb} (hp : P.underlying pt = some (.pointer e)) (hc : P.cellsOf e = 1) (hx : ev env x = some (.pointer (some ⟨g, 0, none⟩))) (hy : ev env y = some (.int .i64 (l.length : Nat))) (hT : Tk L (own e 1 (some ⟨g, 0, none⟩) l.length c (l.map vI)) r) (h0 : l ≠ []) (h63 : l.length <= 9223372036854775807) (hn : Nat.blt d n = true) (hk : K ((d, .string (bs l)) :: env) r) :
  ve P n Q ⟨some d, .call ⟨.builtin .unsafeString, #[x, y], #[pt, it]⟩, ty, pos, aft, gd⟩ env m L false K := fun h hs => by
 have h3 := hs.take hT;have ho : Own (mp h) e 1 (some ⟨g, 0, none⟩) l.length c (l.map vI) := h3.head;obtain ⟨hxl, hkc, ⟨h1, -⟩ | ⟨g', o, cur, h1, hg, hcm, hcs, htake⟩⟩ := ho
 ·cases h1
 cases h1;refine step_of_run' rfl hn fun fx dr a ha => ?_;have hg2 : (W fx h dr).heap[g]? = some (.cells cur e (0, 0)) := hg;have hsh : (W fx h dr).shape? g = some (e, cur.size) := by simp [World.shape?, hg2]
 have hcell : ∀ j x, l[j]? = some x -> (W fx h dr).cell? ((⟨g, 0, none⟩ : Addr).add j) = some (.int .u8 x.toNat) := fun j x hj => by
  have hj2 : (l.map vI)[j]? = some (vI x) := by rw [List.getElem?_map, hj]; rfl
  rw [<- htake, List.getElem?_take] at hj2
  split at hj2
  ·rw [gO, Yh];simp only [mc];have hg3 : mp (W fx h dr).heap g = some (.cells cur e (0, 0)) := hg;rw [hg3]
   simpa [vI] using hj2
  ·cases hj2
 have hrun := Lib.run_unsafeString_row (P := P) (W fx h dr) pt it ty e hp hc g cur.size hsh l h0 (by simp only [Nat.mul_one] at hcs; omega) h63 hcell
 obtain ⟨h', hw, hoth⟩ : ∃ h', (W fx h dr).freeze ⟨g, 0, none⟩ l.length = W fx h' dr /\ ∀ k, k ≠ g -> mp h' k = mp h k := by
  unfold World.freeze
  split
  ·exact ⟨h, rfl, fun _ _ => rfl⟩
  ·exact ⟨_, rfl, fun k hk => by
    unfold mp;rw [Array.getElem?_modify, if_neg (fun e => hk e.symm)]
    rfl⟩
 rw [hw] at hrun;refine ⟨.string (bs l), h', dr, ?_, (fun hf => by cases hf), r, ?_, hk⟩
 ·simp only [execOp, resolve, invoke, builtin, List.map_toArray, List.map_cons, List.map_nil, ha.eval hx, ha.eval hy, Sem.run_bind, Sem.run_pure, Result.andThen_ok, hrun]
  rfl
 ·obtain ⟨hr, -, hout, hap⟩ := HS.cons_iff.1 h3
  have hdom : ∀ k, (own e 1 (some ⟨g, 0, none⟩) l.length c (l.map vI)).dom k = true ↔ k = g := fun k => by
   show ((some g : Option Nat) == some k) = true ↔ _;rw [beq_iff_eq];exact ⟨fun e => (Option.some.inj e).symm, fun e => by rw [e]⟩
  refine ⟨fun k o hk => ?_, fun x hx => ?_, hr.out, hr.apart⟩
  ·have hne : k ≠ g := fun e => by
    have := hout k ((hdom k).2 e);rw [this] at hk;cases hk
   rw [hoth k hne];exact hr.base k o hk
  ·refine x.loc (fun k hk => ?_) (hr.inv x hx);refine hoth k fun e => ?_;have := hap x hx k ((hdom k).2 e);rw [this] at hk;cases hk
end
end Go.Eng
namespace Go.Eng
inductive Fm where
 | thn (c : Code)
 | blk (id : Nat)
def QT (P : Program) (n : Nat) : List Fm -> yR -> yR
 | [], Q => Q
 | .thn c :: r, Q => uT P n c (QT P n r Q)
 | .blk i :: r, Q => qf i (QT P n r Q)
inductive Hy where
 | code (c : Code)
 | ops (l0 l : List Oper)
 | exit (e : Exit)
def vk (P : Program) (n : Nat) (g : Hy) (fs : List Fm) (env : yW) (m : Mp) (L : List yb) (Q : yR) : Prop := match g with
 | .code c => TS P n c env m L (QT P n fs Q)
 | .ops l0 l => VS P n l0 l env m L (QT P n fs Q)
 | .exit e => QS (QT P n fs Q) e env m L
structure Q5 where
 fo : List (Nat × Nat × Nat)
 il : List Nat
def Q5.foff (T : List (Nat × Nat × Nat)) (s f : Nat) : Option Nat := match T with
 | [] => none
 | (a, b, o) :: r => match Nat.beq a s && Nat.beq b f with
   | true => some o
   | false => Q5.foff r s f
def Q5.has (T : List Nat) (s : Nat) : Bool := match T with
 | [] => false
 | a :: r => Nat.beq a s || Q5.has r s
structure fF (P : Program) (T : Q5) : Prop where
 fo : T.fo.all (fun x => decide (Eng.foff P x.1 x.2.1 = some x.2.2)) = true
 il : T.il.all (fun x => j6 P x) = true
variable {P : Program} {T : Q5} {s : Nat}
theorem fF.foff (h : fF P T) {f o : Nat} (hf : Q5.foff T.fo s f = some o) : Eng.foff P s f = some o := by
 have h1 := h.fo;generalize T.fo = l at h1 hf
 induction l with
 | nil => cases hf
 | cons x r ih =>
   obtain ⟨a, b, c⟩ := x;simp only [List.all_cons, Bool.and_eq_true, decide_eq_true_eq] at h1;unfold Q5.foff at hf
   split at hf
   ·rename_i hb
    simp only [Bool.and_eq_true] at hb;have e1 := Nat.eq_of_beq_eq_true hb.1;have e2 := Nat.eq_of_beq_eq_true hb.2;subst e1 e2;cases hf;exact h1.1
   ·exact ih h1.2 hf
theorem fF.has (h : fF P T) (hf : Q5.has T.il s = true) : j6 P s = true := by
 have h1 := h.il;generalize T.il = l at h1 hf
 induction l with
 | nil => cases hf
 | cons x r ih =>
   simp only [List.all_cons, Bool.and_eq_true] at h1;unfold Q5.has at hf;rw [Bool.or_eq_true] at hf;rcases hf with hb | hb
   ·have e1 := Nat.eq_of_beq_eq_true hb;subst e1;exact h1.1
   ·exact ih h1.2 hb
def FG (T : Q5) (env : yW) : Op -> Option Value
 | .move x => ev env x
 | .assign x => ev env x
 | .pick c x y => match ev env c with
   | some (.bool true) => ev env x
   | some (.bool false) => ev env y
   | _ => none
 | .nilCheck x => match ev env x with
   | some (.pointer (some b)) => some (.pointer (some b))
   | _ => none
 | .fieldAddr s x f => match Q5.foff T.fo s f with
   | some o => match ev env x with
     | some (.pointer (some b)) => some (.pointer (some (b.add o)))
     | _ => none
   | none => none
 | .unOp .not _ x => match ev env x with
   | some (.bool b) => some (.bool (!b))
   | _ => none
 | .extract x i => match ev env x with
   | some (.tuple a) => cF a.toList i
   | _ => none
 | .makeFunc fn fi ca => match Zb env fi.toList with
   | some p => match Zb env ca.toList with
     | some q => some (.func fn p.toArray q.toArray)
     | none => none
   | none => none
 | .call c => match c.callee with
   | .builtin .len => match c.args.toList, c.argTypes.toList with
     | [x], [t] => match Q5.has T.il t with
       | true => match ev env x with
         | some (.slice _ m _) => some (.int .i64 m)
         | _ => none
       | false => none
     | _, _ => none
   | _ => none
 | _ => none
variable {env : yW} {n : Nat} {o : Oper}
theorem Ye (hT : fF P T) {v : Value} (h : FG T env o.op = some v) : yz P n o env v := by
 obtain ⟨dst, op, ty, pos, aft, gd⟩ := o;change FG T env op = some v at h;unfold FG at h
 split at h
 ·exact z7 h
 ·exact zr h
 ·split at h
  ·exact wG ‹_› h
  ·exact jm ‹_› h
  ·cases h
 ·split at h
  ·cases h; exact Il ‹_›
  ·cases h
 ·split at h
  ·split at h
   ·cases h; exact Xo (hT.foff ‹_›) ‹_›
   ·cases h
  ·cases h
 ·split at h
  ·cases h; exact kg ‹_›
  ·cases h
 ·split at h
  ·rename_i a ha
   exact LS (l := a.toList) (by rw [ha]) h
  ·cases h
 ·rename_i fn fi ca
  split at h
  ·split at h
   ·cases h;have e1 : fi = fi.toList.toArray := by simp
    have e2 : ca = ca.toList.toArray := by simp
    rw [e1, e2];exact y0 ‹_› ‹_›
   ·cases h
  ·cases h
 ·rename_i c
  obtain ⟨callee, args, ats⟩ := c;dsimp only at h
  split at h
  ·split at h
   ·rename_i x t h1 h2
    split at h
    ·split at h
     ·cases h;have e1 : args = #[x] := by rw [<- Array.toArray_toList (xs := args), h1]
      have e2 : ats = #[t] := by rw [<- Array.toArray_toList (xs := ats), h2]
      subst e1 e2;exact UN (hT.has ‹_›) ‹_›
     ·cases h
    ·cases h
   ·cases h
  ·cases h
 ·cases h
def Mz (T : Q5) (n : Nat) (g : Hy) (fs : List Fm) (env : yW) : Option (Hy × List Fm × yW) := match g with
 | .code (.seq a b) => some (.code a, .thn b :: fs, env)
 | .code (.region _ l false) => some (.ops l.toList l.toList, fs, env)
 | .code (.block id c) => some (.code c, .blk id :: fs, env)
 | .code .skip => some (.exit .normal, fs, env)
 | .code .ret => some (.exit .ret, fs, env)
 | .code (.exit id) => some (.exit (.exit id), fs, env)
 | .code (.cond c a b) => match ev env c with
   | some (.bool true) => some (.code a, fs, env)
   | some (.bool false) => some (.code b, fs, env)
   | _ => none
 | .code _ => none
 | .ops _ [] => some (.exit .normal, fs, env)
 | .ops l0 (o :: l) => match o.dst with
   | none => none
   | some d => match Nat.blt d n with
     | false => none
     | true => match wanted l0 env o with
       | some false => some (.ops l0 l, fs, (d, undef) :: env)
       | some true => match FG T env o.op with
         | some v => some (.ops l0 l, fs, (d, v) :: env)
         | none => none
       | none => none
 | .exit .normal => match fs with
   | .thn c :: fs => some (.code c, fs, env)
   | .blk _ :: fs => some (.exit .normal, fs, env)
   | [] => none
 | .exit .ret => match fs with
   | .thn _ :: fs => some (.exit .ret, fs, env)
   | .blk _ :: fs => some (.exit .ret, fs, env)
   | [] => none
 | .exit (.exit i) => match fs with
   | .thn _ :: fs => some (.exit (.exit i), fs, env)
   | .blk id :: fs => match Nat.beq i id with
     | true => some (.exit .normal, fs, env)
     | false => some (.exit (.exit i), fs, env)
   | [] => none
 | .exit _ => none
def jf (T : Q5) (n : Nat) : Nat -> Hy -> List Fm -> yW -> Hy × List Fm × yW
 | 0, g, fs, env => (g, fs, env)
 | k + 1, g, fs, env => match Mz T n g fs env with
   | some (g, fs, env) => jf T n k g fs env
   | none => (g, fs, env)
variable {L : List yb} {Q : yR} {env' : yW} {fs fs' : List Fm} {g' : Hy} {m : Mp}
theorem Jx (hT : fF P T) {g : Hy} (h : Mz T n g fs env = some (g', fs', env')) (hk : vk P n g' fs' env' m L Q) : vk P n g fs env m L Q := by
 unfold Mz at h
 split at h
 ·cases h; exact OQ hk
 ·rename_i id l
  cases h;show TS P n (.region id l false) env m L _;have : l = l.toList.toArray := by simp
  rw [this];exact LM hk
 ·cases h; exact OV hk
 ·cases h; exact Ho hk
 ·cases h; exact Fu hk
 ·cases h; exact RK hk
 ·split at h
  ·cases h; exact RI ‹_› hk
  ·cases h; exact OR ‹_› hk
  ·cases h
 ·cases h
 ·cases h; exact Fr hk
 ·split at h
  ·cases h
  ·split at h
   ·cases h
   ·split at h
    ·cases h; exact RD ‹_› ‹_› ‹_› hk
    ·split at h
     ·cases h; exact Q4 (Ye hT ‹_›) ‹_› ‹_› ‹_› hk
     ·cases h
    ·cases h
 ·split at h
  ·cases h; exact Ht hk
  ·cases h; exact qD hk
  ·cases h
 ·split at h
  ·cases h; exact zD hk
  ·cases h; exact zp hk
  ·cases h
 ·split at h
  ·cases h; exact Q6 hk
  ·split at h
   ·rename_i hb
    cases h;have e := Nat.eq_of_beq_eq_true hb;subst e;exact zk hk
   ·cases h; exact Ja ‹_› hk
  ·cases h
 ·cases h
theorem cK (hT : fF P T) : ∀ (k : Nat) {g g' : Hy} {fs fs' : List Fm} {env env' : yW}, jf T n k g fs env = (g', fs', env') -> vk P n g' fs' env' m L Q -> vk P n g fs env m L Q
 | 0, _, _, _, _, _, _, h, hk => by cases h; exact hk
 | k + 1, g, g', fs, fs', env, env', h, hk => by
   unfold jf at h
   split at h
   ·exact Jx hT ‹_› (cK hT k h hk)
   ·cases h; exact hk
def QJ (env : yW) : Op -> Option Prop
 | .binOp c _ x y _ => match ev env x, ev env y with
   | some (.int k a), some (.int k' b) => match decide (k = k') with
     | true => match c with
       | .eql => some (a = b)
       | .neq => some (¬ a = b)
       | .lss => some (a < b)
       | .leq => some (a <= b)
       | .gtr => some (b < a)
       | .geq => some (b <= a)
       | _ => none
     | false => none
   | some (.string s), some (.string u) => match c with
     | .eql => some (s.data.toList = u.data.toList)
     | .neq => some (¬ s.data.toList = u.data.toList)
     | _ => none
   | _, _ => none
 | _ => none
theorem Hg (s : ByteArray) : bs s.data.toList = s := by cases s; simp [bs]
theorem kG {p : Prop} (h : QJ env o.op = some p) : (p -> yz P n o env (.bool true)) /\ (¬ p -> yz P n o env (.bool false)) := by
 have gen : ∀ {q : Prop} [Decidable q], yz P n o env (.bool (decide q)) -> (q -> yz P n o env (.bool true)) /\ (¬ q -> yz P n o env (.bool false)) := fun {q} _ hv => ⟨fun hq => by rwa [decide_eq_true hq] at hv, fun hq => by rwa [decide_eq_false hq] at hv⟩;obtain ⟨dst, op, ty, pos, aft, gd⟩ := o;change QJ env op = some p at h;unfold QJ at h
 split at h
 ·rename_i c t x y yt
  split at h
  ·rename_i k a k' b hx hy
   split at h
   ·rename_i hk
    have hk := of_decide_eq_true hk;subst hk
    split at h <;> first | (cases h) | skip
    ·exact gen (y3 hx hy)
    ·exact gen (K5 hx hy)
    ·exact gen (qj hx hy)
    ·exact gen (Xn hx hy)
    ·exact gen (dy hx hy)
    ·exact gen (kh hx hy)
   ·cases h
  ·rename_i s u hx hy
   rw [<- Hg s] at hx;rw [<- Hg u] at hy
   split at h <;> first | (cases h) | skip
   ·exact gen (YR hx hy)
   ·exact gen (Ij hx hy)
  ·cases h
 ·cases h
class Reif (P : Program) (n : Nat) (Q : yR) (fs : outParam (List Fm)) (Q0 : outParam yR) : Prop where
 eq : Q = QT P n fs Q0
instance (priority := low) {P : Program} {n : Nat} {Q : yR} : Reif P n Q [] Q := ⟨rfl⟩
instance {P : Program} {n : Nat} {Q : yR} {fs : List Fm} : Reif P n (QT P n fs Q) fs Q := ⟨rfl⟩
instance {P : Program} {n : Nat} {Q Q0 : yR} {fs : List Fm} {c : Code} [r : Reif P n Q fs Q0] : Reif P n (uT P n c Q) (.thn c :: fs) Q0 := ⟨by rw [r.eq]; rfl⟩
instance {P : Program} {n : Nat} {Q Q0 : yR} {fs : List Fm} {i : Nat} [r : Reif P n Q fs Q0] : Reif P n (qf i Q) (.blk i :: fs) Q0 := ⟨by rw [r.eq]; rfl⟩
variable {Q0 : yR}
theorem F8 (hT : fF P T) (k : Nat) {c : Code} [r : Reif P n Q fs Q0] (h : jf T n k (.code c) fs env = (g', fs', env')) (hk : vk P n g' fs' env' m L Q0) : TS P n c env m L Q := by
 rw [r.eq]; exact cK hT k h hk
variable {l l0 : List Oper}
theorem Y5 (hT : fF P T) (k : Nat) [r : Reif P n Q fs Q0] (h : jf T n k (.ops l0 l) fs env = (g', fs', env')) (hk : vk P n g' fs' env' m L Q0) : VS P n l0 l env m L Q := by
 rw [r.eq]; exact cK hT k h hk
variable {d : Nat}
theorem Tb (hT : fF P T) (k : Nat) {v : Value} [r : Reif P n Q fs Q0] (hr : ∀ h, HS m L h -> vj P n o env h v) (hk : vk P n g' fs' env' m L Q0) (hd : o.dst = some d) (hn : Nat.blt d n = true) (hw : wanted l0 env o = some true) (h : jf T n k (.ops l0 l) fs ((d, v) :: env) = (g', fs', env')) : VS P n l0 (o :: l) env m L Q := RE hr hd hn hw (Y5 hT k h hk)
theorem dN (hT : fF P T) (k : Nat) {v : Value} [r : Reif P n Q fs Q0] (hr : yz P n o env v) (hk : vk P n g' fs' env' m L Q0) (hd : o.dst = some d) (hn : Nat.blt d n = true) (hw : wanted l0 env o = some true) (h : jf T n k (.ops l0 l) fs ((d, v) :: env) = (g', fs', env')) : VS P n l0 (o :: l) env m L Q := Q4 hr hd hn hw (Y5 hT k h hk)
end Go.Eng
namespace Go.Eng
variable {e : yb} {r : List yb} {x1 : yb}
theorem Tk.h1 : Tk (x1 :: e :: r) e (x1 :: r) := .there .here
variable {x2 : yb}
theorem Tk.h2 : Tk (x1 :: x2 :: e :: r) e (x1 :: x2 :: r) := .there .h1
variable {x3 : yb}
theorem Tk.h3 : Tk (x1 :: x2 :: x3 :: e :: r) e (x1 :: x2 :: x3 :: r) := .there .h2
variable {x4 : yb}
theorem Tk.h4 : Tk (x1 :: x2 :: x3 :: x4 :: e :: r) e (x1 :: x2 :: x3 :: x4 :: r) := .there .h3
variable {x5 : yb}
theorem Tk.h5 : Tk (x1 :: x2 :: x3 :: x4 :: x5 :: e :: r) e (x1 :: x2 :: x3 :: x4 :: x5 :: r) := .there .h4
variable {x6 : yb}
theorem Tk.h6 : Tk (x1 :: x2 :: x3 :: x4 :: x5 :: x6 :: e :: r) e (x1 :: x2 :: x3 :: x4 :: x5 :: x6 :: r) := .there .h5
variable {x7 : yb}
theorem Tk.h7 : Tk (x1 :: x2 :: x3 :: x4 :: x5 :: x6 :: x7 :: e :: r) e (x1 :: x2 :: x3 :: x4 :: x5 :: x6 :: x7 :: r) := .there .h6
variable {x8 : yb}
theorem Tk.h8 : Tk (x1 :: x2 :: x3 :: x4 :: x5 :: x6 :: x7 :: x8 :: e :: r) e (x1 :: x2 :: x3 :: x4 :: x5 :: x6 :: x7 :: x8 :: r) := .there .h7
variable {x9 : yb}
theorem Tk.h9 : Tk (x1 :: x2 :: x3 :: x4 :: x5 :: x6 :: x7 :: x8 :: x9 :: e :: r) e (x1 :: x2 :: x3 :: x4 :: x5 :: x6 :: x7 :: x8 :: x9 :: r) := .there .h8
variable {x10 : yb}
theorem Tk.h10 : Tk (x1 :: x2 :: x3 :: x4 :: x5 :: x6 :: x7 :: x8 :: x9 :: x10 :: e :: r) e (x1 :: x2 :: x3 :: x4 :: x5 :: x6 :: x7 :: x8 :: x9 :: x10 :: r) := .there .h9
variable {x11 : yb}
theorem Tk.h11 : Tk (x1 :: x2 :: x3 :: x4 :: x5 :: x6 :: x7 :: x8 :: x9 :: x10 :: x11 :: e :: r) e (x1 :: x2 :: x3 :: x4 :: x5 :: x6 :: x7 :: x8 :: x9 :: x10 :: x11 :: r) := .there .h10
variable {x12 : yb}
theorem Tk.h12 : Tk (x1 :: x2 :: x3 :: x4 :: x5 :: x6 :: x7 :: x8 :: x9 :: x10 :: x11 :: x12 :: e :: r) e (x1 :: x2 :: x3 :: x4 :: x5 :: x6 :: x7 :: x8 :: x9 :: x10 :: x11 :: x12 :: r) := .there .h11
variable {x13 : yb}
theorem Tk.h13 : Tk (x1 :: x2 :: x3 :: x4 :: x5 :: x6 :: x7 :: x8 :: x9 :: x10 :: x11 :: x12 :: x13 :: e :: r) e (x1 :: x2 :: x3 :: x4 :: x5 :: x6 :: x7 :: x8 :: x9 :: x10 :: x11 :: x12 :: x13 :: r) := .there .h12
variable {x14 : yb}
theorem Tk.h14 : Tk (x1 :: x2 :: x3 :: x4 :: x5 :: x6 :: x7 :: x8 :: x9 :: x10 :: x11 :: x12 :: x13 :: x14 :: e :: r) e (x1 :: x2 :: x3 :: x4 :: x5 :: x6 :: x7 :: x8 :: x9 :: x10 :: x11 :: x12 :: x13 :: x14 :: r) := .there .h13
variable {x15 : yb}
theorem Tk.h15 : Tk (x1 :: x2 :: x3 :: x4 :: x5 :: x6 :: x7 :: x8 :: x9 :: x10 :: x11 :: x12 :: x13 :: x14 :: x15 :: e :: r) e (x1 :: x2 :: x3 :: x4 :: x5 :: x6 :: x7 :: x8 :: x9 :: x10 :: x11 :: x12 :: x13 :: x14 :: x15 :: r) := .there .h14
variable {x16 : yb}
theorem Tk.h16 : Tk (x1 :: x2 :: x3 :: x4 :: x5 :: x6 :: x7 :: x8 :: x9 :: x10 :: x11 :: x12 :: x13 :: x14 :: x15 :: x16 :: e :: r) e (x1 :: x2 :: x3 :: x4 :: x5 :: x6 :: x7 :: x8 :: x9 :: x10 :: x11 :: x12 :: x13 :: x14 :: x15 :: x16 :: r) := .there .h15
variable {e' : yb}
theorem gz.h1 : gz (x1 :: e :: r) e e' (x1 :: e' :: r) := .there .here
theorem gz.h2 : gz (x1 :: x2 :: e :: r) e e' (x1 :: x2 :: e' :: r) := .there .h1
theorem gz.h3 : gz (x1 :: x2 :: x3 :: e :: r) e e' (x1 :: x2 :: x3 :: e' :: r) := .there .h2
theorem gz.h4 : gz (x1 :: x2 :: x3 :: x4 :: e :: r) e e' (x1 :: x2 :: x3 :: x4 :: e' :: r) := .there .h3
theorem gz.h5 : gz (x1 :: x2 :: x3 :: x4 :: x5 :: e :: r) e e' (x1 :: x2 :: x3 :: x4 :: x5 :: e' :: r) := .there .h4
theorem gz.h6 : gz (x1 :: x2 :: x3 :: x4 :: x5 :: x6 :: e :: r) e e' (x1 :: x2 :: x3 :: x4 :: x5 :: x6 :: e' :: r) := .there .h5
theorem gz.h7 : gz (x1 :: x2 :: x3 :: x4 :: x5 :: x6 :: x7 :: e :: r) e e' (x1 :: x2 :: x3 :: x4 :: x5 :: x6 :: x7 :: e' :: r) := .there .h6
theorem gz.h8 : gz (x1 :: x2 :: x3 :: x4 :: x5 :: x6 :: x7 :: x8 :: e :: r) e e' (x1 :: x2 :: x3 :: x4 :: x5 :: x6 :: x7 :: x8 :: e' :: r) := .there .h7
theorem gz.h9 : gz (x1 :: x2 :: x3 :: x4 :: x5 :: x6 :: x7 :: x8 :: x9 :: e :: r) e e' (x1 :: x2 :: x3 :: x4 :: x5 :: x6 :: x7 :: x8 :: x9 :: e' :: r) := .there .h8
theorem gz.h10 : gz (x1 :: x2 :: x3 :: x4 :: x5 :: x6 :: x7 :: x8 :: x9 :: x10 :: e :: r) e e' (x1 :: x2 :: x3 :: x4 :: x5 :: x6 :: x7 :: x8 :: x9 :: x10 :: e' :: r) := .there .h9
theorem gz.h11 : gz (x1 :: x2 :: x3 :: x4 :: x5 :: x6 :: x7 :: x8 :: x9 :: x10 :: x11 :: e :: r) e e' (x1 :: x2 :: x3 :: x4 :: x5 :: x6 :: x7 :: x8 :: x9 :: x10 :: x11 :: e' :: r) := .there .h10
theorem gz.h12 : gz (x1 :: x2 :: x3 :: x4 :: x5 :: x6 :: x7 :: x8 :: x9 :: x10 :: x11 :: x12 :: e :: r) e e' (x1 :: x2 :: x3 :: x4 :: x5 :: x6 :: x7 :: x8 :: x9 :: x10 :: x11 :: x12 :: e' :: r) := .there .h11
theorem gz.h13 : gz (x1 :: x2 :: x3 :: x4 :: x5 :: x6 :: x7 :: x8 :: x9 :: x10 :: x11 :: x12 :: x13 :: e :: r) e e' (x1 :: x2 :: x3 :: x4 :: x5 :: x6 :: x7 :: x8 :: x9 :: x10 :: x11 :: x12 :: x13 :: e' :: r) := .there .h12
theorem gz.h14 : gz (x1 :: x2 :: x3 :: x4 :: x5 :: x6 :: x7 :: x8 :: x9 :: x10 :: x11 :: x12 :: x13 :: x14 :: e :: r) e e' (x1 :: x2 :: x3 :: x4 :: x5 :: x6 :: x7 :: x8 :: x9 :: x10 :: x11 :: x12 :: x13 :: x14 :: e' :: r) := .there .h13
theorem gz.h15 : gz (x1 :: x2 :: x3 :: x4 :: x5 :: x6 :: x7 :: x8 :: x9 :: x10 :: x11 :: x12 :: x13 :: x14 :: x15 :: e :: r) e e' (x1 :: x2 :: x3 :: x4 :: x5 :: x6 :: x7 :: x8 :: x9 :: x10 :: x11 :: x12 :: x13 :: x14 :: x15 :: e' :: r) := .there .h14
theorem gz.h16 : gz (x1 :: x2 :: x3 :: x4 :: x5 :: x6 :: x7 :: x8 :: x9 :: x10 :: x11 :: x12 :: x13 :: x14 :: x15 :: x16 :: e :: r) e e' (x1 :: x2 :: x3 :: x4 :: x5 :: x6 :: x7 :: x8 :: x9 :: x10 :: x11 :: x12 :: x13 :: x14 :: x15 :: x16 :: e' :: r) := .there .h15
variable {u : Value}
theorem uN.h1 {x1 v : Value} {r : Lv} : uN (x1 :: u :: r) 1 v (x1 :: v :: r) := .there .here
theorem uN.h2 {x1 x2 v : Value} {r : Lv} : uN (x1 :: x2 :: u :: r) 2 v (x1 :: x2 :: v :: r) := .there .h1
theorem uN.h3 {x1 x2 x3 v : Value} {r : Lv} : uN (x1 :: x2 :: x3 :: u :: r) 3 v (x1 :: x2 :: x3 :: v :: r) := .there .h2
theorem uN.h4 {x1 x2 x3 x4 v : Value} {r : Lv} : uN (x1 :: x2 :: x3 :: x4 :: u :: r) 4 v (x1 :: x2 :: x3 :: x4 :: v :: r) := .there .h3
theorem uN.h5 {x1 x2 x3 x4 x5 v : Value} {r : Lv} : uN (x1 :: x2 :: x3 :: x4 :: x5 :: u :: r) 5 v (x1 :: x2 :: x3 :: x4 :: x5 :: v :: r) := .there .h4
theorem uN.h6 {x1 x2 x3 x4 x5 x6 v : Value} {r : Lv} : uN (x1 :: x2 :: x3 :: x4 :: x5 :: x6 :: u :: r) 6 v (x1 :: x2 :: x3 :: x4 :: x5 :: x6 :: v :: r) := .there .h5
theorem uN.h7 {x1 x2 x3 x4 x5 x6 x7 v : Value} {r : Lv} : uN (x1 :: x2 :: x3 :: x4 :: x5 :: x6 :: x7 :: u :: r) 7 v (x1 :: x2 :: x3 :: x4 :: x5 :: x6 :: x7 :: v :: r) := .there .h6
theorem uN.h8 {x1 x2 x3 x4 x5 x6 x7 x8 v : Value} {r : Lv} : uN (x1 :: x2 :: x3 :: x4 :: x5 :: x6 :: x7 :: x8 :: u :: r) 8 v (x1 :: x2 :: x3 :: x4 :: x5 :: x6 :: x7 :: x8 :: v :: r) := .there .h7
theorem uN.h9 {x1 x2 x3 x4 x5 x6 x7 x8 x9 v : Value} {r : Lv} : uN (x1 :: x2 :: x3 :: x4 :: x5 :: x6 :: x7 :: x8 :: x9 :: u :: r) 9 v (x1 :: x2 :: x3 :: x4 :: x5 :: x6 :: x7 :: x8 :: x9 :: v :: r) := .there .h8
theorem uN.h10 {x1 x2 x3 x4 x5 x6 x7 x8 x9 x10 v : Value} {r : Lv} : uN (x1 :: x2 :: x3 :: x4 :: x5 :: x6 :: x7 :: x8 :: x9 :: x10 :: u :: r) 10 v (x1 :: x2 :: x3 :: x4 :: x5 :: x6 :: x7 :: x8 :: x9 :: x10 :: v :: r) := .there .h9
theorem uN.h11 {x1 x2 x3 x4 x5 x6 x7 x8 x9 x10 x11 v : Value} {r : Lv} : uN (x1 :: x2 :: x3 :: x4 :: x5 :: x6 :: x7 :: x8 :: x9 :: x10 :: x11 :: u :: r) 11 v (x1 :: x2 :: x3 :: x4 :: x5 :: x6 :: x7 :: x8 :: x9 :: x10 :: x11 :: v :: r) := .there .h10
theorem uN.h12 {x1 x2 x3 x4 x5 x6 x7 x8 x9 x10 x11 x12 v : Value} {r : Lv} : uN (x1 :: x2 :: x3 :: x4 :: x5 :: x6 :: x7 :: x8 :: x9 :: x10 :: x11 :: x12 :: u :: r) 12 v (x1 :: x2 :: x3 :: x4 :: x5 :: x6 :: x7 :: x8 :: x9 :: x10 :: x11 :: x12 :: v :: r) := .there .h11
theorem uN.h13 {x1 x2 x3 x4 x5 x6 x7 x8 x9 x10 x11 x12 x13 v : Value} {r : Lv} : uN (x1 :: x2 :: x3 :: x4 :: x5 :: x6 :: x7 :: x8 :: x9 :: x10 :: x11 :: x12 :: x13 :: u :: r) 13 v (x1 :: x2 :: x3 :: x4 :: x5 :: x6 :: x7 :: x8 :: x9 :: x10 :: x11 :: x12 :: x13 :: v :: r) := .there .h12
theorem uN.h14 {x1 x2 x3 x4 x5 x6 x7 x8 x9 x10 x11 x12 x13 x14 v : Value} {r : Lv} : uN (x1 :: x2 :: x3 :: x4 :: x5 :: x6 :: x7 :: x8 :: x9 :: x10 :: x11 :: x12 :: x13 :: x14 :: u :: r) 14 v (x1 :: x2 :: x3 :: x4 :: x5 :: x6 :: x7 :: x8 :: x9 :: x10 :: x11 :: x12 :: x13 :: x14 :: v :: r) := .there .h13
theorem uN.h15 {x1 x2 x3 x4 x5 x6 x7 x8 x9 x10 x11 x12 x13 x14 x15 v : Value} {r : Lv} : uN (x1 :: x2 :: x3 :: x4 :: x5 :: x6 :: x7 :: x8 :: x9 :: x10 :: x11 :: x12 :: x13 :: x14 :: x15 :: u :: r) 15 v (x1 :: x2 :: x3 :: x4 :: x5 :: x6 :: x7 :: x8 :: x9 :: x10 :: x11 :: x12 :: x13 :: x14 :: x15 :: v :: r) := .there .h14
theorem uN.h16 {x1 x2 x3 x4 x5 x6 x7 x8 x9 x10 x11 x12 x13 x14 x15 x16 v : Value} {r : Lv} : uN (x1 :: x2 :: x3 :: x4 :: x5 :: x6 :: x7 :: x8 :: x9 :: x10 :: x11 :: x12 :: x13 :: x14 :: x15 :: x16 :: u :: r) 16 v (x1 :: x2 :: x3 :: x4 :: x5 :: x6 :: x7 :: x8 :: x9 :: x10 :: x11 :: x12 :: x13 :: x14 :: x15 :: x16 :: v :: r) := .there .h15
theorem XS.k0 { e : yb} : XS (e :: r) [e] (r) := .cons .here .nil
theorem XS.k1 : XS (x1 :: e :: r) [e] (x1 :: r) := .cons .h1 .nil
theorem XS.k2 : XS (x1 :: x2 :: e :: r) [e] (x1 :: x2 :: r) := .cons .h2 .nil
theorem XS.k3 : XS (x1 :: x2 :: x3 :: e :: r) [e] (x1 :: x2 :: x3 :: r) := .cons .h3 .nil
theorem XS.k4 : XS (x1 :: x2 :: x3 :: x4 :: e :: r) [e] (x1 :: x2 :: x3 :: x4 :: r) := .cons .h4 .nil
theorem XS.k5 : XS (x1 :: x2 :: x3 :: x4 :: x5 :: e :: r) [e] (x1 :: x2 :: x3 :: x4 :: x5 :: r) := .cons .h5 .nil
theorem zN.p0 { e : yb} : zN (e :: r) [e] := .cons .here (.nil _)
theorem zN.p1 : zN (x1 :: e :: r) [e] := .cons .h1 (.nil _)
theorem zN.p2 : zN (x1 :: x2 :: e :: r) [e] := .cons .h2 (.nil _)
theorem zN.p3 : zN (x1 :: x2 :: x3 :: e :: r) [e] := .cons .h3 (.nil _)
theorem zN.p4 : zN (x1 :: x2 :: x3 :: x4 :: e :: r) [e] := .cons .h4 (.nil _)
theorem zN.p5 : zN (x1 :: x2 :: x3 :: x4 :: x5 :: e :: r) [e] := .cons .h5 (.nil _)
theorem zN.p6 : zN (x1 :: x2 :: x3 :: x4 :: x5 :: x6 :: e :: r) [e] := .cons .h6 (.nil _)
theorem zN.p9 : zN (x1 :: x2 :: x3 :: x4 :: x5 :: x6 :: x7 :: x8 :: x9 :: e :: r) [e] := .cons .h9 (.nil _)
theorem zN.pp {a b : yb} : zN (a :: b :: r) [a, b] := .cons .here .p0
class Pans (Q : yR) (Q0 : outParam yR) : Prop where
 h : ∀ ch env h, Q0 (.panic ch) env h -> Q (.panic ch) env h
instance (priority := low) {Q : yR} : Pans Q Q := ⟨fun _ _ _ h => h⟩
instance {P : Program} {n : Nat} {c : Code} {Q Q0 : yR} [r : Pans Q Q0] : Pans (uT P n c Q) Q0 := ⟨fun ch env h k => r.h ch env h k⟩
instance {i : Nat} {Q Q0 : yR} [r : Pans Q Q0] : Pans (qf i Q) Q0 := ⟨fun ch env h k => r.h ch env h k⟩
variable {P : Program} {Q : yR} {ch : List PanicEntry} {env : yW} {n : Nat}
theorem Vc {h : yB} : ∀ fs : List Fm, Q (.panic ch) env h -> QT P n fs Q (.panic ch) env h
 | [], hq => hq
 | .thn _ :: r, hq => Vc r hq
 | .blk _ :: r, hq => Vc r hq
instance {P : Program} {n : Nat} {fs : List Fm} {Q Q0 : yR} [r : Pans Q Q0] : Pans (QT P n fs Q) Q0 := ⟨fun ch env h k => Vc fs (r.h ch env h k)⟩
variable {L : List yb} {Q0 : yR} {m : Mp}
theorem yk [r : Pans Q Q0] (hq : QS Q0 (.panic ch) env m L) : QS Q (.panic ch) env m L := fun h hs => r.h _ _ _ (hq h hs)
variable {post ppost : Value -> List yb -> Prop} {rs : List ResultVar}
theorem pn {v : Value} [Pans Q (VA P rs (wB m post) (wB m ppost))] (hq : ppost v []) : QS Q (.panic (pan v)) env m L := yk (Fw [] ya hq)
variable {m2 : Mp}
theorem pW {v : Value} [Pans Q (VA P rs (wB m post) (wB m ppost))] (hl : Le m m2) (hq : ppost v []) : QS Q (.panic (pan v)) env m2 L := yk fun h hs => ⟨v, rfl, [], hq, (zN.nil _ m2 h hs).weaken hl⟩
def sq : List Nat -> OB -> OB
 | [], t => t
 | i :: r, t => match Nat.blt i 100 with
   | true => .step i true (sq r t)
   | false => .step (i - 100) false (sq r t)
def sT : List Nat -> OT -> OT
 | [], t => t
 | i :: r, t => match Nat.blt i 100 with
   | true => .step i .pure (sT r t)
   | false => match Nat.blt i 200 with
     | true => .step (i - 100) .read (sT r t)
     | false => match Nat.blt i 300 with
       | true => .step (i - 200) .kept (sT r t)
       | false => .step (i - 300) .wild (sT r t)
def dh (T : Q5) (n : Nat) (l : List Oper) : Nat -> OB -> yW -> OB × yW
 | 0, t, env => (t, env)
 | k + 1, t0, env => match t0 with
   | .step i true t => match fe l i with
     | some o => match o.dst with
       | some d => match Nat.blt d n with
         | true => match wanted l env o with
           | some true => match FG T env o.op with
             | some v => dh T n l k t ((d, v) :: env)
             | none => (t0, env)
           | some false => dh T n l k t ((d, undef) :: env)
           | none => (t0, env)
         | false => (t0, env)
       | none => (t0, env)
     | none => (t0, env)
   | _ => (t0, env)
variable {T : Q5} {l : List Oper}
theorem fQ (hT : fF P T) : ∀ (k : Nat) {t t' : OB} {env env' : yW}, dh T n l k t env = (t', env') -> Z1 P n l t' env' m L Q -> Z1 P n l t env m L Q := by
 intro k
 induction k with
 | zero => intro t t' env env' h hk; unfold dh at h; cases h; exact hk
 | succ k ih =>
   intro t t' env env' h hk;unfold dh at h
   split at h
   ·split at h
    ·rename_i ho
     split at h
     ·rename_i hd
      split at h
      ·rename_i hn
       split at h
       ·rename_i hw
        split at h
        ·rename_i hv
         have h2 := ih h hk;exact KW ho (Ye hT hv) hd hn hw h2
        ·cases h; exact hk
       ·rename_i hw
        have h2 := ih h hk;exact OK ho hw hd hn h2
       ·cases h; exact hk
      ·cases h; exact hk
     ·cases h; exact hk
    ·cases h; exact hk
   ·cases h; exact hk
def Zm (T : Q5) (n : Nat) (l : List Oper) : Nat -> OT -> yW -> OT × yW
 | 0, t, env => (t, env)
 | k + 1, t0, env => match t0 with
   | .step i kd t => match kd.quiet with
     | true => match fe l i with
       | some o => match o.dst with
         | some d => match Nat.blt d n with
           | true => match wanted l env o with
             | some true => match kd with
               | .pure => match FG T env o.op with
                 | some v => Zm T n l k t ((d, v) :: env)
                 | none => (t0, env)
               | _ => (t0, env)
             | some false => Zm T n l k t ((d, undef) :: env)
             | none => (t0, env)
           | false => (t0, env)
         | none => (t0, env)
       | none => (t0, env)
     | false => (t0, env)
   | _ => (t0, env)
theorem ax (hT : fF P T) {wild : Nat -> Bool} : ∀ (k : Nat) {t t' : OT} {env env' : yW}, Zm T n l k t env = (t', env') -> ZZ P n l wild t' env' m L Q -> ZZ P n l wild t env m L Q := by
 intro k
 induction k with
 | zero => intro t t' env env' h hk; unfold Zm at h; cases h; exact hk
 | succ k ih =>
   intro t t' env env' h hk;unfold Zm at h
   split at h
   ·rename_i kd _
    split at h
    ·rename_i hq
     split at h
     ·rename_i ho
      split at h
      ·rename_i hd
       split at h
       ·rename_i hn
        split at h
        ·rename_i hw
         split at h
         ·split at h
          ·rename_i hv
           have h2 := ih h hk;exact KV ho (Ye hT hv) hd hn hw h2
          ·cases h; exact hk
         ·cases h; exact hk
        ·rename_i hw
         have h2 := ih h hk;exact OI hq ho hw hd hn h2
        ·cases h; exact hk
       ·cases h; exact hk
      ·cases h; exact hk
     ·cases h; exact hk
    ·cases h; exact hk
   ·cases h; exact hk
theorem xE {v : Value} (hv : cv P env L rs [v]) (hq : post (ao [v]) []) : QS (U6 P rs (wB m post)) .ret env m L := yn [v] hv [] ya hq
theorem JG {v : Value} (hl : Le m m2) (hv : cv P env L rs [v]) (hq : post (ao [v]) []) : QS (U6 P rs (wB m post)) .ret env m2 L := gT hl [v] hv [] ya hq
theorem C5 {v : Value} (hv : cv P env L rs [v]) (hq : post (ao [v]) []) : QS (VA P rs (wB m post) (wB m ppost)) .ret env m L := yp [v] hv [] ya hq
theorem Ta {v : Value} (hl : Le m m2) (hv : cv P env L rs [v]) (hq : post (ao [v]) []) : QS (VA P rs (wB m post) (wB m ppost)) .ret env m2 L := fun h hs => ⟨[v], hv.ok hs, [], hq, (zN.nil _ m2 h hs).weaken hl⟩
theorem QR {α : Type} {S : α -> yW} {LL : α -> List yb} {F : α -> Prop} {μ : α -> Nat} {k : Nat} (y : α) (hp : zN L (LL y)) (hF : F y) (hk : μ y < k) (hs : ba (S y) env := by (repeat (first | exact trivial | refine ⟨rfl, ?_⟩))) : QS (j2 m S LL F μ k Q) .normal env m L := xD y hs hp hF hk
theorem MJ (hT : fF P T) (k : Nat) {e : Exit} {fs : List Fm} {g' : Hy} {fs' : List Fm} {env' : yW} [r : Reif P n Q fs Q0] (h : jf T n k (.exit e) fs env = (g', fs', env')) (hk : vk P n g' fs' env' m L Q0) : QS Q e env m L := by
 rw [r.eq]; exact cK hT k (g := .exit e) h hk
end Go.Eng
