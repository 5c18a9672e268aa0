/- A Hoare logic over heaps for the model's code, and its lemmas, one an operation: all are proved here. No condition. -/
import Derived.Test.YtijakengkacnlaaGreatDoorEng
set_option linter.all false
namespace Go.Eng
structure ya where
 dom : Nat -> Bool
 inv : Mp -> Prop
 loc : ∀ {m m' : Mp}, (∀ k, dom k = true -> m' k = m k) -> inv m -> inv m'
 has : ∀ {m : Mp} {k : Nat}, inv m -> dom k = true -> m k ≠ none
def blk (b : Nat) (o : Obj) : ya where
 dom := fun k => Nat.beq b k
 inv := fun m => m b = some o
 loc := fun {m m'} h hi => by rw [h b vM]; exact hi
 has := fun {m k} hi hk => by
  have := Nat.eq_of_beq_eq_true hk;subst this;rw [hi];exact fun e => by cases e
abbrev cel (b : Nat) (l : Lv) (t : TypeId) : ya := blk b (.cells l.toArray t (0, 0))
def own (e sz : Nat) (A : Oa) (n c : Nat) (xs : Lv) : ya where
 dom := qG A
 inv := fun m => Own m e sz A n c xs
 loc := fun h hi => hi.of_eq h
 has := fun hi hk => by
  obtain ⟨cur, hm⟩ := hi.at_ hk;rw [hm];exact fun e => by cases e
structure HS (m : Mp) (L : List ya) (h : zZ) : Prop where
 base : Le m (mp h)
 inv : ∀ e ∈ L, e.inv (mp h)
 out : ∀ e ∈ L, ∀ k, e.dom k = true -> m k = none
 apart : L.Pairwise fun a b => ∀ k, a.dom k = true -> b.dom k = false
variable {h : zZ} {m : Mp}
theorem HS.nil (hl : Le m (mp h)) : HS m [] h := ⟨hl, (fun e he => by cases he), (fun e he => by cases he), List.Pairwise.nil⟩
variable {L : List ya} {e : ya}
theorem HS.cons_iff : HS m (e :: L) h ↔ HS m L h /\ e.inv (mp h) /\ (∀ k, e.dom k = true -> m k = none) /\ ∀ x ∈ L, ∀ k, e.dom k = true -> x.dom k = false := by
 constructor
 ·intro ⟨h1, h2, h3, h4⟩;rw [List.pairwise_cons] at h4;exact ⟨⟨h1, fun x hx => h2 x (List.mem_cons_of_mem _ hx), fun x hx => h3 x (List.mem_cons_of_mem _ hx), h4.2⟩, h2 e vM, h3 e vM, h4.1⟩
 ·intro ⟨⟨h1, h2, h3, h4⟩, g1, g2, g3⟩;refine ⟨h1, fun x hx => ?_, fun x hx => ?_, List.pairwise_cons.2 ⟨g3, h4⟩⟩
  ·rcases List.mem_cons.1 hx with rfl | hx
   ·exact g1
   ·exact h2 x hx
  ·rcases List.mem_cons.1 hx with rfl | hx
   ·exact g2
   ·exact h3 x hx
theorem HS.tail (hs : HS m (e :: L) h) : HS m L h := (HS.cons_iff.1 hs).1
theorem HS.head (hs : HS m (e :: L) h) : e.inv (mp h) := (HS.cons_iff.1 hs).2.1
inductive Tk : List ya -> ya -> List ya -> Prop
 | here {e : ya} {r : List ya} : Tk (e :: r) e r
 | there {x e : ya} {r r' : List ya} (h : Tk r e r') : Tk (x :: r) e (x :: r')
inductive qB : List ya -> ya -> ya -> List ya -> Prop
 | here {e e' : ya} {r : List ya} : qB (e :: r) e e' (e' :: r)
 | there {x e e' : ya} {r r' : List ya} (h : qB r e e' r') : qB (x :: r) e e' (x :: r')
variable {r : List ya}
theorem Tk.mem (h : Tk L e r) : ∀ x, x ∈ L ↔ x = e \/ x ∈ r := by
 induction h with
 | here => intro x; simp
 | there _ ih => intro x; simp only [List.mem_cons, ih]; exact or_left_comm
theorem HS.take (ht : Tk L e r) : HS m L h -> HS m (e :: r) h := by
 induction ht with
 | here => exact id
 | @there x e r r' ht ih =>
   intro hs;obtain ⟨h1, h2, h3, h4⟩ := HS.cons_iff.1 hs;have h5 := ih h1;obtain ⟨g1, g2, g3, g4⟩ := HS.cons_iff.1 h5;refine HS.cons_iff.2 ⟨HS.cons_iff.2 ⟨g1, h2, h3, fun y hy => h4 y ((ht.mem y).2 (.inr hy))⟩, g2, g3, fun y hy k hk => ?_⟩;rcases List.mem_cons.1 hy with rfl | hy
   ·cases hd : y.dom k with
    | false => rfl
    | true => have := h4 e ((ht.mem e).2 (.inl rfl)) k hd; rw [hk] at this; cases this
   ·exact g4 y hy k hk
theorem HS.untake (ht : Tk L e r) : HS m (e :: r) h -> HS m L h := by
 induction ht with
 | here => exact id
 | @there x e r r' ht ih =>
   intro hs;obtain ⟨h1, h2, h3, h4⟩ := HS.cons_iff.1 hs;obtain ⟨g1, g2, g3, g4⟩ := HS.cons_iff.1 h1;refine HS.cons_iff.2 ⟨ih (HS.cons_iff.2 ⟨g1, h2, h3, fun y hy => h4 y (List.mem_cons_of_mem _ hy)⟩), g2, g3, fun y hy k hk => ?_⟩;rcases (ht.mem y).1 hy with rfl | hy
   ·cases hd : y.dom k with
    | false => rfl
    | true => have := h4 x vM k hd; rw [hk] at this; cases this
   ·exact g4 y hy k hk
variable {L' : List ya} {e' : ya}
theorem qB.split (hs : qB L e e' L') : ∃ r, Tk L e r /\ Tk L' e' r := by
 induction hs with
 | here => exact ⟨_, .here, .here⟩
 | there _ ih => obtain ⟨r, h1, h2⟩ := ih; exact ⟨_, .there h1, .there h2⟩
variable {h' : zZ}
theorem HS.sel (hs : qB L e e' L') (hh : HS m L h) (hk : ∀ r, HS m (e :: r) h -> HS m (e' :: r) h') : HS m L' h' := by
 obtain ⟨r, h1, h2⟩ := hs.split;exact (hk r (hh.take h1)).untake h2
theorem gI {b : Nat} : mp h b = none ↔ h.size <= b := by unfold mp; rw [Array.getElem?_eq_none_iff]
theorem HS.upd (hs : HS m (e :: r) h) (ho : ∀ k, k < h.size -> e.dom k = false -> mp h' k = mp h k) (hi : e'.inv (mp h')) (hd : ∀ k, e'.dom k = true -> e.dom k = true \/ h.size <= k) : HS m (e' :: r) h' := by
 obtain ⟨⟨h1, h2, h3, h5⟩, g1, g2, g3⟩ := HS.cons_iff.1 hs
 have same : ∀ x ∈ r, ∀ k, x.dom k = true -> mp h' k = mp h k := fun x hx k hk => by
  refine ho k ?_ ?_
  ·rcases Nat.lt_or_ge k h.size with hlt | hge
   ·exact hlt
   ·exact absurd (gI.2 hge) (x.has (h2 x hx) hk)
  ·cases he : e.dom k with
   | false => rfl
   | true => have := g3 x hx k he; rw [hk] at this; cases this
 refine HS.cons_iff.2 ⟨⟨fun k o hk => ?_, fun x hx => x.loc (same x hx) (h2 x hx), h3, h5⟩, hi, fun k hk => ?_, fun x hx k hk => ?_⟩
 ·have h6 := h1 k o hk;rw [ho k (vy h6) ?_]
  ·exact h6
  ·cases he : e.dom k with
   | false => rfl
   | true => rw [g2 k he] at hk; cases hk
 ·rcases hd k hk with he | he
  ·exact g2 k he
  ·cases hm : m k with
   | none => rfl
   | some o => have := vy (h1 k o hm); omega
 ·cases hxk : x.dom k with
  | false => rfl
  | true =>
    rcases hd k hk with he | he
    ·have := g3 x hx k he; rw [hxk] at this; cases this
    ·exact absurd (gI.2 he) (x.has (h2 x hx) hxk)
theorem HS.new (hs : HS m r h) (hl : Le (mp h) (mp h')) (hi : e'.inv (mp h')) (hd : ∀ k, e'.dom k = true -> mp h k = none) : HS m (e' :: r) h' := by
 have h0 : HS m (⟨fun _ => false, fun _ => True, fun _ _ => trivial, fun _ h => by cases h⟩ :: r) h := HS.cons_iff.2 ⟨hs, trivial, fun k hk => by (exact absurd hk vM), fun x hx k hk => by (exact absurd hk vM)⟩;refine h0.upd (fun k hk _ => ?_) hi fun k hk => .inr (gI.1 (hd k hk));have : mp h k = some h[k] := by simp [mp, hk]
 rw [this];exact hl _ _ this
theorem HS.le (hs : HS m r h) (hl : Le (mp h) (mp h')) : HS m r h' :=
 (hs.new (e' := ⟨fun _ => false, fun _ => True, fun _ _ => trivial, fun _ h => by cases h⟩) hl trivial fun k hk => by (exact absurd hk vM)).tail
def zJ (L L' : List ya) : Prop := ∀ (m : Mp) (h : zZ), HS m L h -> HS m L' h
theorem zJ.refl (L : List ya) : zJ L L := fun _ _ h => h
theorem zJ.nil (L : List ya) : zJ L [] := fun _ _ h => HS.nil h.base
theorem zu {L : List ya} : zJ L L := zJ.refl L
theorem fV {L : List ya} : zJ L [] := zJ.nil L
theorem zJ.cons (ht : Tk L e r) (hp : zJ r L') : zJ L (e :: L') := fun m h hs => by
 have h0 := hs.take ht;obtain ⟨h1, h2, h3, h4⟩ := HS.cons_iff.1 h0;have h5 := hp m h h1;refine HS.cons_iff.2 ⟨h5, h2, h3, fun x hx k hk => ?_⟩
 -- an entry of L' has no block of e
 have key : HS (fun j => if e.dom j then mp h j else m j) r h := by
  refine ⟨fun j o hj => ?_, h1.inv, fun x hx j hj => ?_, h1.apart⟩
  ·split at hj
   ·exact hj
   ·exact h1.base j o hj
  ·split
   ·rename_i he
    have := h4 x hx j he;rw [hj] at this;cases this
   ·exact h1.out x hx j hj
 cases hxk : x.dom k with
 | false => rfl
 | true =>
   have h6 := (hp _ h key).out x hx k hxk;simp only [hk, if_true] at h6;exact absurd h6 (e.has h2 hk)
theorem zJ.drop : zJ (e :: L) L := fun _ _ hs => hs.tail
section
variable {P : Program} {n : Nat} {env : Env} {m : Mp} {L : List ya} {Q : yd}
def TS (P : Program) (n : Nat) (c : Code) (env : Env) (m : Mp) (L : List ya) (Q : yd) : Prop := ∀ h, HS m L h -> T P n c env h Q
def QS (Q : yd) (e : Exit) (env : Env) (m : Mp) (L : List ya) : Prop := ∀ h, HS m L h -> Q e env h
def VS (P : Program) (n : Nat) (l0 l : List Oper) (env : Env) (m : Mp) (L : List ya) (Q : yd) : Prop := ∀ h, HS m L h -> V P n l0 l env h Q
def aB (P : Program) (n : Nat) (l : List Oper) (wild : Nat -> Bool) (t : OT) (env : Env) (m : Mp) (L : List ya) (Q : yd) : Prop := ∀ h, HS m L h -> VT P n l wild t env h Q
variable {a b : Code}
theorem DC (ht : TS P n a env m L (xJ P n b Q)) : TS P n (.seq a b) env m L Q := fun h hs => zm (ht h hs)
variable {c : Code} {id : Nat}
theorem Ou (ht : TS P n c env m L (wE id Q)) : TS P n (.block id c) env m L Q := fun h hs => wG (ht h hs)
theorem Qt (ht : TS P n c env m L (Wf Q)) : TS P n (.scope c) env m L Q := fun h hs => SL (ht h hs)
theorem SO (hq : QS Q .normal env m L) : TS P n .skip env m L Q := fun h hs => ud (hq h hs)
theorem Qu {l : Nat} (hq : QS Q .normal env m L) : TS P n (.label l) env m L Q := fun h hs => SM (hq h hs)
theorem SQ (hq : QS Q (.exit id) env m L) : TS P n (.exit id) env m L Q := fun h hs => br (hq h hs)
theorem DD (hq : QS Q .ret env m L) : TS P n .ret env m L Q := fun h hs => yS (hq h hs)
theorem SN {c : Operand} (hc : ev env c = some (.bool true)) (ht : TS P n a env m L Q) : TS P n (.cond c a b) env m L Q := fun h hs => y9 hc (ht h hs)
theorem Or {c : Operand} (hc : ev env c = some (.bool false)) (ht : TS P n b env m L Q) : TS P n (.cond c a b) env m L Q := fun h hs => xw hc (ht h hs)
theorem ST {c : Operand} {t : Bool} (hc : ev env c = some (.bool t)) (h1 : t = true -> TS P n a env m L Q) (h2 : t = false -> TS P n b env m L Q) : TS P n (.cond c a b) env m L Q := fun h hs => DB hc (fun e => h1 e h hs) (fun e => h2 e h hs)
theorem S3 (ht : TS P n c env m L Q) : QS (xJ P n c Q) .normal env m L := fun h hs => za (ht h hs)
theorem Vf {i : Nat} (hq : QS Q (.exit i) env m L) : QS (xJ P n c Q) (.exit i) env m L := fun h hs => uP (hq h hs)
theorem zU (hq : QS Q .ret env m L) : QS (xJ P n c Q) .ret env m L := fun h hs => yN (hq h hs)
theorem xr (hq : QS Q .normal env m L) : QS (wE id Q) .normal env m L := fun h hs => yP (hq h hs)
theorem zf (hq : QS Q .normal env m L) : QS (wE id Q) (.exit id) env m L := fun h hs => uo (hq h hs)
theorem Vg {i : Nat} (hne : Nat.beq i id = false) (hq : QS Q (.exit i) env m L) : QS (wE id Q) (.exit i) env m L := fun h hs => JZ hne (hq h hs)
theorem zz (hq : QS Q .ret env m L) : QS (wE id Q) .ret env m L := fun h hs => xp (hq h hs)
theorem qO (hq : QS Q .ret env m L) : QS (Wf Q) .ret env m L := fun h hs => QX (hq h hs)
def vX {α : Type} (m : Mp) (S : α -> Env) (LL : α -> List ya) (F : α -> Prop) (μ : α -> Nat) (k : Nat) (Q : yd) : yd := dY S (fun y h => F y /\ HS m (LL y) h) μ k Q
variable {α : Type} {F : α -> Prop} {LL : α -> List ya} {S : α -> Env} {μ : α -> Nat}
theorem zh {k i : Nat} (hq : QS Q (.exit i) env m L) : QS (vX m S LL F μ k Q) (.exit i) env m L := fun h hs => ui (hq h hs)
theorem zC {k : Nat} (hq : QS Q .ret env m L) : QS (vX m S LL F μ k Q) .ret env m L := fun h hs => jd (hq h hs)
theorem Ya {k : Nat} (y : α) (hs : dF (S y) env) (hp : zJ L (LL y)) (hF : F y) (hk : μ y < k) : QS (vX m S LL F μ k Q) .normal env m L :=
 fun h hh => ⟨y, hs, ⟨hF, hp m h hh⟩, hk⟩
theorem zN (S : α -> Env) (LL : α -> List ya) (F : α -> Prop) (μ : α -> Nat) (y : α) (hs : dF (S y) env) (hp : zJ L (LL y)) (hF : F y) (hr : ∀ (y : α), F y -> TS P n c (S y) m (LL y) (vX m S LL F μ (μ y) Q)) : TS P n (.loop c) env m L Q :=
 fun h hh => bq S (fun y h => F y /\ HS m (LL y) h) μ y hs ⟨hF, hp m h hh⟩ fun y h ⟨h1, h2⟩ => hr y h1 h h2
theorem bt (S : α -> Env) (LL : α -> List ya) (F : α -> Prop) (h1 : TS P n a env m L (vX m S LL F (fun _ => 0) 1 Q)) (h2 : ∀ y, F y -> TS P n b (S y) m (LL y) Q) : TS P n a env m L (xJ P n b Q) :=
 fun h hh => Fl S (fun y h => F y /\ HS m (LL y) h) (h1 h hh) fun y h ⟨a1, a2⟩ => h2 y a1 h a2
theorem SS (S : α -> Env) (LL : α -> List ya) (F : α -> Prop) (h1 : TS P n a env m L (xJ P n c (vX m S LL F (fun _ => 0) 1 Q))) (h2 : ∀ y, F y -> TS P n b (S y) m (LL y) Q) : TS P n a env m L (xJ P n (.seq c b) Q) := by
 intro h hh;refine gW (h1 h hh) ?_;intro e env' h' hq
 have key : ∀ e env' h', vX m S LL F (fun _ => 0) 1 Q e env' h' -> xJ P n b Q e env' h' := by
  intro e env' h' hq;cases e with
  | normal =>
    obtain ⟨y, hs, ⟨hF, hH⟩, _⟩ := hq;exact Z8 (S y) hs (h2 y hF h' hH)
  | exit i => exact hq
  | goto l => exact hq
  | ret => exact hq
  | panic c => exact hq
  | outgrown => exact hq
 cases e with
 | normal => exact zm (gW hq key)
 | exit i => exact hq
 | goto l => exact hq
 | ret => exact hq
 | panic c => exact hq
 | outgrown => exact hq
theorem ap (S : α -> Env) (LL : α -> List ya) (F : α -> Prop) (h1 : TS P n a env m L (xJ P n c (vX m S LL F (fun _ => 0) 1 Q))) (h2 : ∀ y, F y -> TS P n b (S y) m (LL y) Q) : TS P n a env m L (xJ P n c (xJ P n b Q)) := by
 intro h hh;refine gW (h1 h hh) ?_;intro e env' h' hq
 have key : ∀ e env' h', vX m S LL F (fun _ => 0) 1 Q e env' h' -> xJ P n b Q e env' h' := by
  intro e env' h' hq;cases e with
  | normal =>
    obtain ⟨y, hs, ⟨hF, hH⟩, _⟩ := hq;exact Z8 (S y) hs (h2 y hF h' hH)
  | exit i => exact hq
  | goto l => exact hq
  | ret => exact hq
  | panic c => exact hq
  | outgrown => exact hq
 cases e with
 | normal => exact gW hq key
 | exit i => exact hq
 | goto l => exact hq
 | ret => exact hq
 | panic c => exact hq
 | outgrown => exact hq
variable {l0 l : List Oper} {o : Oper} {v : Value} {d : Nat}
theorem HP (hv : VS P n l0 l0 env m L Q) : TS P n (.region id l0.toArray false) env m L Q := fun h hs => zd (hv h hs)
theorem DA (hq : QS Q .normal env m L) : VS P n l0 [] env m L Q := fun h hs => zo (hq h hs)
theorem GK (hr : zP P n o env v) (hd : o.dst = some d) (hn : Nat.blt d n = true) (hw : wanted l0 env o = some true) (hk : VS P n l0 l ((d, v) :: env) m L Q) : VS P n l0 (o :: l) env m L Q := fun h hs => zc hr hd hn hw (hk h hs)
theorem SJ (hr : ∀ h, HS m L h -> xM P n o env h v) (hd : o.dst = some d) (hn : Nat.blt d n = true) (hw : wanted l0 env o = some true) (hk : VS P n l0 l ((d, v) :: env) m L Q) : VS P n l0 (o :: l) env m L Q := fun h hs => zq (hr h hs) hd hn hw (hk h hs)
theorem SI (hw : wanted l0 env o = some false) (hd : o.dst = some d) (hn : Nat.blt d n = true) (hk : VS P n l0 l ((d, undef) :: env) m L Q) : VS P n l0 (o :: l) env m L Q := fun h hs => kO hw hd hn (hk h hs)
theorem kb {p : Prop} [Decidable p] (hr : zP P n o env (.bool (decide p))) (hd : o.dst = some d) (hn : Nat.blt d n = true) (hw : wanted l0 env o = some true) (h1 : p -> VS P n l0 l ((d, .bool true) :: env) m L Q) (h2 : ¬ p -> VS P n l0 l ((d, .bool false) :: env) m L Q) : VS P n l0 (o :: l) env m L Q := fun h hs => SF hr hd hn hw (fun hp => h1 hp h hs) (fun hp => h2 hp h hs)
def wj (P : Program) (n : Nat) (Q : yd) (o : Oper) (env : Env) (m : Mp) (L : List ya) (kept : Bool) (K : Env -> List ya -> Prop) : Prop :=
 ∀ h, HS m L h -> qM P n Q o env h fun env' h' => (kept = true -> Le (mp h) (mp h')) /\ ∃ L', HS m L' h' /\ K env' L'
variable {kept : Bool}
theorem zg (hs : wj P n Q o env m L kept fun env' L' => VS P n l0 l env' m L' Q) (hw : wanted l0 env o = some true) : VS P n l0 (o :: l) env m L Q :=
 fun h hh => zH ((hs h hh).mono fun _ _ ⟨_, _, h1, h2⟩ => h2 _ h1) hw
variable {wild : Nat -> Bool} {t : OT} {i : Nat}
theorem yf (t : OT) (hm : P.follows .mixedOrders = true) (hck : JS l t = true) (hQ : ∀ c env env' h, Q (.panic c) env h -> Q (.panic c) env' h) (hv : aB P n l (dL t) t env m L Q) : TS P n (.region id l.toArray true) env m L Q := fun h hs => GL t hm hck hQ (hv h hs)
theorem SH (hq : QS Q .normal env m L) : aB P n l wild .done env m L Q := fun h hs => W9 (hq h hs)
theorem Ok {s : OT} (h1 : aB P n l wild s env m L Q) (h2 : aB P n l wild t env m L Q) : aB P n l wild (.fork s t) env m L Q := fun h hs => Va (h1 h hs) (h2 h hs)
theorem Qp (ho : nth l i = some o) (hr : zP P n o env v) (hd : o.dst = some d) (hn : Nat.blt d n = true) (hw : wanted l env o = some true) (hk : aB P n l wild t ((d, v) :: env) m L Q) : aB P n l wild (.step i .pure t) env m L Q := fun h hs => fG ho hr hd hn hw (hk h hs)
theorem Oj (ho : nth l i = some o) (hr : ∀ h, HS m L h -> xM P n o env h v) (hd : o.dst = some d) (hn : Nat.blt d n = true) (hw : wanted l env o = some true) (hk : aB P n l wild t ((d, v) :: env) m L Q) : aB P n l wild (.step i .read t) env m L Q := fun h hs => W8 ho (hr h hs) hd hn hw (hk h hs)
theorem Oi {k : Kd} (hq : k.quiet = true) (ho : nth l i = some o) (hw : wanted l env o = some false) (hd : o.dst = some d) (hn : Nat.blt d n = true) (hk : aB P n l wild t ((d, undef) :: env) m L Q) : aB P n l wild (.step i k t) env m L Q := fun h hs => SG hq ho hw hd hn (hk h hs)
theorem yo (ho : nth l i = some o) (hs : wj P n Q o env m L true fun env' L' => aB P n l wild t env' m L' Q) (hw : wanted l env o = some true) : aB P n l wild (.step i .kept t) env m L Q :=
 fun h hh => qL ho ((hs h hh).mono fun _ _ ⟨h0, _, h1, h2⟩ => ⟨h0 rfl, h2 _ h1⟩) hw
theorem z8 (ho : nth l i = some o) (hwl : wild i = true) (hs : wj P n Q o env m L kept fun env' L' => aB P n l wild t env' m L' Q) (hw : wanted l env o = some true) : aB P n l wild (.step i .wild t) env m L Q :=
 fun h hh => dC ho hwl ((hs h hh).mono fun _ _ ⟨_, _, h1, h2⟩ => h2 _ h1) hw
end
section
variable {P : Program} {n : Nat} {env : Env} {m : Mp} {L r : List ya} {Q : yd} {K : Env -> List ya -> Prop} {dst : Option Tmp} {d : Nat} {ty : TypeId} {pos : String} {aft : Array Edge} {gd : Option (Nat × Bool)} {t : TypeId} {x y : Operand} {v : Value} {kept : Bool}
variable {h : zZ}
theorem HS.get {e : ya} (hs : HS m L h) (ht : Tk L e r) : e.inv (mp h) := hs.inv e ((ht.mem e).2 (.inl rfl))
variable {a : Addr}
theorem zw (ht : single P t = true) (hx : ev env x = some (.pointer (some a))) (hc : mc m a = some v) : ∀ h, HS m L h -> xM P n ⟨dst, .load t x, ty, pos, aft, gd⟩ env h v :=
 fun _ hs => zL ht hx (yA hs.base hc)
variable {l : Lv} {q : Nat}
theorem yg (ht : xb P t = some q) (hx : ev env x = some (.pointer (some a))) (hl : l.length = q) (hc : At m a l) : ∀ h, HS m L h -> xM P n ⟨dst, .load t x, ty, pos, aft, gd⟩ env h (.agg l.toArray) :=
 fun _ hs => zI ht hx hl (hc.mono hs.base)
variable {b i : Nat}
theorem au {e : TypeId} (ht : single P t = true) (hx : ev env x = some (.pointer (some ⟨b, i, none⟩))) (hT : Tk L (cel b l e) r) (hv : qZ l i = some v) : ∀ h, HS m L h -> xM P n ⟨dst, .load t x, ty, pos, aft, gd⟩ env h v :=
 fun _ hs => zL ht hx (zy (hs.get hT) hv)
theorem aq {e : TypeId} (ht : xb P t = some q) (hx : ev env x = some (.pointer (some ⟨b, 0, none⟩))) (hT : Tk L (cel b l e) r) (hl : l.length = q) : ∀ h, HS m L h -> xM P n ⟨dst, .load t x, ty, pos, aft, gd⟩ env h (.agg l.toArray) :=
 fun _ hs => zI ht hx hl (At.blk (hs.get hT))
variable {A : Oa} {c e sz : Nat} {xs : Lv}
theorem kQ {k : Nat} (ht : single P t = true) (hx : ev env x = some (.pointer (some ((sa A).add i)))) (hT : Tk L (own e sz A k c xs) r) (hv : xs[i]? = some v) : ∀ h, HS m L h -> xM P n ⟨dst, .load t x, ty, pos, aft, gd⟩ env h v :=
 fun _ hs => zL ht hx ((Own.rd (hs.get hT)).at_ hv)
variable {elem : TypeId}
theorem Fp (hx : ev env x = some v) (hn : Nat.blt d n = true) (hk : ∀ b, K ((d, .pointer (some ⟨b, 0, none⟩)) :: env) (cel b v.cells.toList elem :: L)) : wj P n Q ⟨some d, .box elem x, ty, pos, aft, gd⟩ env m L true K := fun h hs =>
 wx hx hn fun b h' hn' hb hl => ⟨fun _ => hl, _, hs.new (e' := cel b v.cells.toList elem) hl (by show mp h' b = _; simpa using hb) fun k hk => by have := Nat.eq_of_beq_eq_true hk; subst this; exact hn', hk b⟩
variable {z : Lv}
theorem Ve (hz : yB P elem = some z) (hn : Nat.blt d n = true) (hk : ∀ b, K ((d, .pointer (some ⟨b, 0, none⟩)) :: env) (cel b z elem :: L)) : wj P n Q ⟨some d, .alloc elem, ty, pos, aft, gd⟩ env m L true K := fun h hs =>
 vV hz hn fun b h' hn' hb hl => ⟨fun _ => hl, _, hs.new (e' := cel b z elem) hl hb fun k hk => by have := Nat.eq_of_beq_eq_true hk; subst this; exact hn', hk b⟩
variable {cs : Lv}
theorem wb {len xn : Nat} {parts : List (Nat × Operand)} {ps : List (Nat × Value)} (hs : wO P t = some (e, sz, xn, z)) (hx : evp env parts = some ps) (hsmall : Nat.ble (len * sz) 16777216 = true) (hf : fillS sz (jc (if len * sz = 0 then [] else z) (len * sz)) ps = some cs) (hn : Nat.blt d n = true) (hk : ∀ b, K ((d, .slice (some ⟨b, 0, none⟩) len len) :: env) (cel b cs e :: L)) : wj P n Q ⟨some d, .buildSlice t len parts.toArray, ty, pos, aft, gd⟩ env m L true K := fun h hh =>
 ay hs hx hsmall hf hn fun b h' hn' hb hl => ⟨fun _ => hl, _, hh.new (e' := cel b cs e) hl hb fun k hk => by have := Nat.eq_of_beq_eq_true hk; subst this; exact hn', hk b⟩
inductive USet : Lv -> Nat -> Value -> Lv -> Prop
 | here {u v : Value} {r : Lv} : USet (u :: r) 0 v (v :: r)
 | there {u v : Value} {r r' : Lv} {i : Nat} (h : USet r i v r') : USet (u :: r) (i + 1) v (u :: r')
variable {l' : Lv}
theorem USet.eq (h : USet l i v l') : i < l.length /\ l' = l.set i v := by
 induction h with
 | here => simp
 | there _ ih => obtain ⟨h1, h2⟩ := ih; exact ⟨by simp; omega, by simp [h2]⟩
theorem WM {k : Nat} {o : Obj} (hk : (blk b o).dom k = true) : k = b := (Nat.eq_of_beq_eq_true hk).symm
variable {L' : List ya}
theorem yx {e : TypeId} (ht : kK P t = true) (hx : ev env x = some (.pointer (some ⟨b, i, none⟩))) (hy : ev env y = some v) (hv : uI v = true) (hT : qB L (cel b l e) (cel b l' e) L') (hu : USet l i v l') (hk : K env L') : wj P n Q ⟨none, .store t x y, ty, pos, aft, gd⟩ env m L false K := fun h hs => by
 obtain ⟨r, h1, h2⟩ := hT.split;obtain ⟨hi, rfl⟩ := hu.eq;have h3 := hs.take h1;refine S7 ht hx hy hv (show mp h b = some (.cells l.toArray e (0, 0)) from h3.head) (by simpa [Nat.blt_eq] using hi) fun h' g1 g2 g3 => ⟨(fun hf => by cases hf), L', (h3.upd (e' := cel b (l.set i v) e) (fun k _ hk => g2 k ?_) g1 fun k hk => .inl hk).untake h2, hk⟩;rintro rfl
 simp [blk] at hk
theorem yh {vs : Lv} {e : TypeId} (ht : xb P t = some q) (hx : ev env x = some (.pointer (some ⟨b, 0, none⟩))) (hy : ev env y = some (.agg vs.toArray)) (hq : Nat.beq vs.length q = true) (hT : qB L (cel b l e) (cel b vs e) L') (hl : Nat.beq l.length q = true) (h1 : vs.all uI = true) (hk : K env L') : wj P n Q ⟨none, .store t x y, ty, pos, aft, gd⟩ env m L false K := fun h hs => by
 obtain ⟨r, g1, g2⟩ := hT.split;have h3 := hs.take g1;refine yK ht hx hy hq (show mp h b = some (.cells l.toArray e (0, 0)) from h3.head) hl h1 fun h' k1 k2 k3 => ⟨(fun hf => by cases hf), L', (h3.upd (e' := cel b vs e) (fun k _ hk => k2 k ?_) k1 fun k hk => .inl hk).untake g2, hk⟩;rintro rfl
 simp [blk] at hk
theorem Qv {k : Nat} (ht : kK P t = true) (hx : ev env x = some (.pointer (some ((sa A).add i)))) (hy : ev env y = some v) (hv : uI v = true) (hT : qB L (own e 1 A k c xs) (own e 1 A k c (xs.set i v)) L') (hi : i < k) (hk : K env L') : wj P n Q ⟨none, .store t x y, ty, pos, aft, gd⟩ env m L false K := fun h hs => by
 obtain ⟨r, h1, h2⟩ := hT.split;have h3 := hs.take h1;exact Kk ht hx hy hv (show Own (mp h) e 1 A k c xs from h3.head) hi fun h' g1 g2 g3 => ⟨(fun hf => by cases hf), L', (h3.upd (e' := own e 1 A k c (xs.set i v)) (fun k _ hk => g2 k hk) g1 fun k hk => .inl hk).untake h2, hk⟩
theorem Own.ofCel {k : Nat} (hb : m b = some (.cells l.toArray e (0, 0))) (hl : l.length = k * sz) (hm : k <= maxLen) : Own m e sz (some ⟨b, 0, none⟩) k k l := Own.new hb hl hm
variable {c2 j : Nat} {news : Lv}
theorem up {A2 : Oa} {k xn : Nat} {L' : Oa -> Nat -> List ya} (hs : wO P t = some (e, sz, xn, z)) (hsz : Nat.blt 0 sz = true) (hzl : z.length = sz) (hx : ev env x = some (.slice A k c)) (hy : ev env y = some (.slice A2 j c2)) (hT : ∀ A' c', qB L (own e sz A k c xs) (own e sz A' (k + j) c' (xs ++ news)) (L' A' c')) (hr : ∀ h, HS m L h -> Rd (mp h) A2 news) (hl : news.length = j * sz) (h1 : ∀ u ∈ news, uI u = true) (hm : k + j <= maxLen) (hb : (k + j) * xn <= 140737488355328) (hn : Nat.blt d n = true) (hk : ∀ A' c', K ((d, .slice A' (k + j) c') :: env) (L' A' c')) :
  wj P n Q ⟨some d, .call ⟨.builtin .append, #[x, y], #[t, t]⟩, ty, pos, aft, gd⟩ env m L false K := fun h hh => by
 obtain ⟨r, h2, _⟩ := (hT none 0).split;have h3 := hh.take h2;refine OL hs hsz hzl hx hy (show Own (mp h) e sz A k c xs from h3.head) (hr h hh) hl h1 hm hb hn fun A' c' h' g1 g2 => ⟨(fun hf => by cases hf), L' A' c', ?_, hk A' c'⟩;refine hh.sel (hT A' c') fun r h4 => h4.upd (e' := own e sz A' (k + j) c' (xs ++ news)) (fun i hi hd => g2.other i hi ?_) g1 fun i hi => ?_
 ·intro e;have hd' : qG A i = false := hd
  simp [qG, <- e] at hd'
 ·have : qG A' i = true := hi;simp only [qG, beq_iff_eq] at this;rcases g2.at_ with e | e
  ·left; show qG A i = true; rw [e] at this; simp [qG, this]
  ·right; rw [e] at this; injection this with this; omega
theorem xq {k e2 xn : Nat} {L' : Oa -> Nat -> List ya} (hs : wO P t = some (e, sz, xn, z)) (hsz : Nat.blt 0 sz = true) (hzl : z.length = sz) (hx : ev env x = some (.slice A k c)) (hy : ev env y = some (.slice (some ⟨b, 0, none⟩) j c2)) (hT2 : Tk L (cel b news e2) r) (hT : ∀ A' c', qB L (own e sz A k c xs) (own e sz A' (k + j) c' (xs ++ news)) (L' A' c')) (hl : news.length = j * sz) (h1 : news.all uI = true) (hm : k + j <= maxLen) (hb : (k + j) * xn <= 140737488355328) (hn : Nat.blt d n = true) (hk : ∀ A' c', K ((d, .slice A' (k + j) c') :: env) (L' A' c')) :
  wj P n Q ⟨some d, .call ⟨.builtin .append, #[x, y], #[t, t]⟩, ty, pos, aft, gd⟩ env m L false K :=
 up hs hsz hzl hx hy hT (fun _ hh => Rd.blk (hh.get hT2)) hl (by rw [List.all_eq_true] at h1; exact h1) hm hb hn hk
theorem HS.nilOwn (e sz : Nat) (hs : HS m L h) : HS m (own e sz none 0 0 [] :: L) h := HS.cons_iff.2 ⟨hs, Own.nil _ _ _, (fun k hk => by cases hk), (fun x hx k hk => by cases hk)⟩
theorem HS.celOwn {k : Nat} (hl : l.length = k * sz) (hm : k <= maxLen) (hs : HS m (cel b l e :: L) h) : HS m (own e sz (some ⟨b, 0, none⟩) k k l :: L) h :=
 hs.upd (fun _ _ _ => rfl) (Own.ofCel hs.head hl hm) fun j hj => .inl (by have : qG (some ⟨b, 0, none⟩) j = true := hj; simp [qG, jO] at this; subst this; exact Nat.beq_refl _)
theorem uY {c : Code} (e sz : Nat) (ht : TS P n c env m (own e sz none 0 0 [] :: L) Q) : TS P n c env m L Q := fun h hs => ht h (hs.nilOwn e sz)
variable {l0 : List Oper}
theorem HN {l : List Oper} (e sz : Nat) (ht : VS P n l0 l env m (own e sz none 0 0 [] :: L) Q) : VS P n l0 l env m L Q := fun h hs => ht h (hs.nilOwn e sz)
theorem HO {l : List Oper} {k : Nat} (hT : qB L (cel b cs e) (own e sz (some ⟨b, 0, none⟩) k k cs) L') (hl : cs.length = k * sz) (hm : k <= maxLen) (ht : VS P n l0 l env m L' Q) : VS P n l0 l env m L Q :=
 fun h hs => ht h (hs.sel hT fun _ h2 => h2.celOwn hl hm)
def kA (b : Nat) (s : Bt) (p : Nat) : ya := blk b (.stringIter (bs s) p)
variable {s : Bt}
theorem SV (ht : xz P t = true) (hx : ev env x = some (.string (bs s))) (hn : Nat.blt d n = true) (hk : ∀ b, K ((d, .pointer (some ⟨b, 0, none⟩)) :: env) (kA b s 0 :: L)) : wj P n Q ⟨some d, .range t x, ty, pos, aft, gd⟩ env m L true K := fun h hs =>
 vh rfl hn fun fx dr a ha => by
  refine ⟨h.push (.stringIter (bs s) 0), dr, ?_, fun _ => vT h _, _, hs.new (e' := kA h.size s 0) (vT h _) (xc h _) (fun k hk => by have := WM hk; subst this; exact u6 h), hk _⟩;have := run_range_string (P := P) (W fx h dr) t (bs s) (aE ht);simp only [execOp, ha.eval hx, this, Sem.run_bind, Result.andThen_ok]
  rfl
variable {p : Nat}
theorem DF (hx : ev env x = some (.pointer (some ⟨b, 0, none⟩))) (hp : p < s.length) (hT : qB L (kA b s p) (kA b s (p + (Utf8.decode (bs s) p).2)) L') (hn : Nat.blt d n = true) (hk : K ((d, .tuple [.bool true, .int .i64 p, .int .i32 (Utf8.decode (bs s) p).1].toArray) :: env) L') : wj P n Q ⟨some d, .next x true, ty, pos, aft, gd⟩ env m L false K := fun h hs => by
 obtain ⟨r, h1, h2⟩ := hT.split;have h3 := hs.take h1;have hb : h[b]? = some (.stringIter (bs s) p) := h3.head;have hsz : p < (bs s).size := by rw [u9]; exact hp
 refine vh (v := .tuple [.bool true, .int .i64 p, .int .i32 (Utf8.decode (bs s) p).1].toArray) rfl hn fun fx dr a ha => ?_;have hblt : b < h.size := by have := (Array.getElem?_eq_some_iff.1 hb).1; exact this
 refine ⟨h.setIfInBounds b (.stringIter (bs s) (p + (Utf8.decode (bs s) p).2)), dr, ?_, (fun hf => by cases hf), L', (h3.upd (e' := kA b s (p + (Utf8.decode (bs s) p).2)) (fun k _ hk => ?_) (by show mp _ b = _; simp [mp, hblt]) fun k hk => .inl hk).untake h2, hk⟩
 ·have hb' : (W fx h dr).heap[b]? = some (.stringIter (bs s) p) := hb;simp only [execOp, ha.eval hx, Instr.next, getObj, setObj, Sem.run_bind, Sem.run, hb', Result.andThen, hsz, if_true]
  simp [goInt, Sem.run, hb', W]
 ·have hne : b ≠ k := by rintro rfl; simp [kA, blk] at hk
  simp [mp, Array.getElem?_setIfInBounds, hne]
theorem HQ (hx : ev env x = some (.pointer (some ⟨b, 0, none⟩))) (hp : ¬ p < s.length) (hT : Tk L (kA b s p) r) (hn : Nat.blt d n = true) (hk : K ((d, .tuple [.bool false].toArray) :: env) L) : wj P n Q ⟨some d, .next x true, ty, pos, aft, gd⟩ env m L true K := fun h hs => by
 have hb : h[b]? = some (.stringIter (bs s) p) := hs.get hT;have hsz : ¬ p < (bs s).size := by rw [u9]; exact hp
 refine vh rfl hn fun fx dr a ha => ⟨h, dr, ?_, fun _ => Le.refl _, L, hs, hk⟩;have hb' : (W fx h dr).heap[b]? = some (.stringIter (bs s) p) := hb
 simp [execOp, ha.eval hx, Instr.next, getObj, Sem.run, hb', hsz]
end
def CS (P : Program) (f : FuncId) (args : Lv) (m : Mp) (pre : List ya) (post : Value -> List ya -> Prop) : Prop :=
 ∀ h, HS m pre h -> C P f args.toArray h fun v h' => ∃ L', post v L' /\ HS m L' h'
def fX (m : Mp) (post : Value -> List ya -> Prop) : Value -> zZ -> Prop := fun v h' => ∃ L', post v L' /\ HS m L' h'
variable {P : Program} {f : FuncId} {m : Mp} {post : Value -> List ya -> Prop} {pre : List ya}
theorem CS.mono {args : Lv} {post' : Value -> List ya -> Prop} (hc : CS P f args m pre post) (hp : ∀ v L', post v L' -> post' v L') : CS P f args m pre post' :=
 fun h hs => (hc h hs).mono fun _ _ ⟨L', h1, h2⟩ => ⟨L', hp _ _ h1, h2⟩
def RvS (P : Program) (env : Env) (L : List ya) : ResultVar -> Value -> Prop
 | .tmp t, v => lk env t = some v
 | .cell a t, v => ∃ b l tt r, lk env a = some (.pointer (some ⟨b, 0, none⟩)) /\ Tk L (cel b l tt) r /\ ((single P t = true /\ l = [v]) \/ (xb P t = some l.length /\ v = .agg l.toArray))
def Yy (P : Program) (env : Env) (L : List ya) : List ResultVar -> Lv -> Prop
 | [], [] => True
 | r :: rs, v :: vs => RvS P env L r v /\ Yy P env L rs vs
 | _, _ => False
variable {L : List ya} {env : Env}
theorem Yy.ok {h : zZ} (hs : HS m L h) : ∀ {rs : List ResultVar} {vs : Lv}, Yy P env L rs vs -> gY P env h rs vs
 | [], [], _ => trivial
 | .tmp _ :: _, _ :: _, hr => ⟨hr.1, Yy.ok hs hr.2⟩
 | .cell a t :: _, v :: _, hr => by
   obtain ⟨⟨b, l, tt, r, h1, h2, h3⟩, hr2⟩ := hr;have h4 : mp h b = some (.cells l.toArray tt (0, 0)) := hs.get h2;refine ⟨⟨_, h1, ?_⟩, Yy.ok hs hr2⟩;rcases h3 with ⟨h5, rfl⟩ | ⟨h5, rfl⟩
   ·exact .inl ⟨h5, zy h4 rfl⟩
   ·exact .inr ⟨l, h5, At.blk h4, rfl⟩
theorem zM {fn : Func} {c : Code} {l : Lv} (rs : List ResultVar) (hf : P.funcs[f]? = some fn) (hb : fn.body = some c) (hrs : fn.results = rs.toArray) (hl : Nat.ble l.length fn.ntmps = true) (ht : TS P fn.ntmps c (WK l 0) m pre (Q2 P rs (fX m post))) : CS P f l m pre post :=
 fun h hs => OO rs hf hb hrs hl (ht h hs)
theorem zB {rs : List ResultVar} (vs : Lv) (hv : Yy P env L rs vs) (L' : List ya) (hp : zJ L L') (hq : post (VG vs) L') : QS (Q2 P rs (fX m post)) .ret env m L :=
 fun h hs => ⟨vs, hv.ok hs, L', hq, hp m h hs⟩
def HE (L : List ya) (m : Mp) : Prop := ∀ e ∈ L, e.inv m
def away (e : ya) (m : Mp) : Mp := fun k => if e.dom k then none else m k
section
variable {P : Program} {n : Nat} {env : Env} {m : Mp} {L r : List ya} {Q : yd} {K : Env -> List ya -> Prop} {d : Nat} {ty : TypeId} {pos : String} {aft : Array Edge} {gd : Option (Nat × Bool)}
variable {L' : List ya} {h h' : zZ}
theorem HS.frame0 (hs : HS m L h) (hc : HS (mp h) L' h') : HS m (L' ++ L) h' := by
 have h0 := hs.le hc.base;refine ⟨h0.base, fun e he => ?_, fun e he k hk => ?_, List.pairwise_append.2 ⟨hc.apart, h0.apart, fun a ha b hb k hk => ?_⟩⟩
 ·rcases List.mem_append.1 he with he | he
  ·exact hc.inv e he
  ·exact h0.inv e he
 ·rcases List.mem_append.1 he with he | he
  ·exact Le.none hs.base (hc.out e he k hk)
  ·exact h0.out e he k hk
 ·cases hbk : b.dom k with
  | false => rfl
  | true => exact absurd (hc.out a ha k hk) (b.has (hs.inv b hb) hbk)
variable {e : ya}
theorem HS.frame1 (hs : HS m (e :: r) h) (hc : HS (away e (mp h)) L' h') : HS m (L' ++ r) h' := by
 obtain ⟨h1, h2, h3, h4⟩ := HS.cons_iff.1 hs
 have same : ∀ x ∈ r, ∀ k, x.dom k = true -> away e (mp h) k = mp h k := fun x hx k hk => by
  unfold away;rw [if_neg];intro he;have := h4 x hx k he;rw [hk] at this;cases this
 have keep : ∀ k o, away e (mp h) k = some o -> mp h' k = some o := hc.base
 have same2 : ∀ x ∈ r, ∀ k, x.dom k = true -> mp h' k = mp h k := fun x hx k hk => by
  have h5 := same x hx k hk;cases h6 : mp h k with
  | none => exact absurd h6 (x.has (h1.inv x hx) hk)
  | some o => exact keep k o (by rw [h5, h6])
 have base : Le m (away e (mp h)) := fun k o hk => by
  unfold away;rw [if_neg]
  ·exact h1.base k o hk
  ·intro he; rw [h3 k he] at hk; cases hk
 refine ⟨base.trans hc.base, fun x hx => ?_, fun x hx k hk => ?_, List.pairwise_append.2 ⟨hc.apart, h1.apart, fun a ha b hb k hk => ?_⟩⟩
 ·rcases List.mem_append.1 hx with hx | hx
  ·exact hc.inv x hx
  ·exact x.loc (same2 x hx) (h1.inv x hx)
 ·rcases List.mem_append.1 hx with hx | hx
  ·exact Le.none base (hc.out x hx k hk)
  ·exact h1.out x hx k hk
 ·cases hbk : b.dom k with
  | false => rfl
  | true =>
    have h5 := hc.out a ha k hk;rw [same b hb k hbk] at h5;exact absurd h5 (b.has (h1.inv b hb) hbk)
theorem HS.away (hs : HS m (e :: r) h) : HS (away e (mp h)) [e] h /\ Le m (away e (mp h)) /\ HE r (Eng.away e (mp h)) := by
 obtain ⟨h1, h2, h3, h4⟩ := HS.cons_iff.1 hs;refine ⟨⟨fun k o hk => ?_, fun x hx => ?_, fun x hx k hk => ?_, List.pairwise_singleton _ _⟩, fun k o hk => ?_, fun x hx => ?_⟩
 ·unfold Eng.away at hk
  split at hk
  ·cases hk
  ·exact hk
 ·rw [List.mem_singleton.1 hx]; exact h2
 ·rw [List.mem_singleton.1 hx] at hk
  simp [Eng.away, hk]
 ·unfold Eng.away;rw [if_neg]
  ·exact h1.base k o hk
  ·intro he; rw [h3 k he] at hk; cases hk
 ·refine x.loc (fun k hk => ?_) (h1.inv x hx);unfold Eng.away;rw [if_neg];intro he;have := h4 x hx k he;rw [hk] at this;cases this
variable {args : List Operand} {ats : Array TypeId} {f : FuncId} {post : Value -> List ya -> Prop} {vs : Lv}
theorem zr (hcl : z7 P f = true) (hx : evs env args = some vs) (hc : ∀ m', Le m m' -> HE L m' -> CS P f vs m' [] post) (hn : Nat.blt d n = true) (hk : ∀ v L', post v L' -> K ((d, v) :: env) (L' ++ L)) : wj P n Q ⟨some d, .call ⟨.value (.func f), args.toArray, ats⟩, ty, pos, aft, gd⟩ env m L true K := fun h hs =>
 yG hcl hx (hc (mp h) hs.base hs.inv h (HS.nil (Le.refl _))) hn fun v h' ⟨L', h1, h2⟩ => ⟨fun _ => h2.base, _, hs.frame0 h2, hk v L' h1⟩
theorem SY (hcl : z7 P f = true) (hx : evs env args = some vs) (hT : Tk L e r) (hc : ∀ m', Le m m' -> HE r m' -> CS P f vs m' [e] post) (hn : Nat.blt d n = true) (hk : ∀ v L', post v L' -> K ((d, v) :: env) (L' ++ r)) : wj P n Q ⟨some d, .call ⟨.value (.func f), args.toArray, ats⟩, ty, pos, aft, gd⟩ env m L false K := fun h hs => by
 have h0 := hs.take hT;obtain ⟨h1, h2, h3⟩ := h0.away;exact yG hcl hx (hc _ h2 h3 h h1) hn fun v h' ⟨L', g1, g2⟩ => ⟨fun hf => (by cases hf), _, h0.frame1 g2, hk v L' g1⟩
theorem kS {R : Value -> Prop} (hcl : z7 P f = true) (hx : evs env args = some vs) (hc : ∀ m', Le m m' -> HE L m' -> CS P f vs m' [] fun v L' => R v /\ L' = []) (hn : Nat.blt d n = true) (hk : ∀ v, R v -> K ((d, v) :: env) L) : wj P n Q ⟨some d, .call ⟨.value (.func f), args.toArray, ats⟩, ty, pos, aft, gd⟩ env m L true K :=
 zr hcl hx hc hn fun v L' ⟨h1, h2⟩ => by subst h2; exact hk v h1
theorem kR {fv : Operand} {p q : Lv} (hcl : z7 P f = true) (hf : ev env fv = some (.func (.func f) p.toArray q.toArray)) (hx : evs env args = some vs) (hc : ∀ m', Le m m' -> HE L m' -> CS P f ((p ++ vs) ++ q) m' [] post) (hn : Nat.blt d n = true) (hk : ∀ v L', post v L' -> K ((d, v) :: env) (L' ++ L)) : wj P n Q ⟨some d, .call ⟨.value fv, args.toArray, ats⟩, ty, pos, aft, gd⟩ env m L true K := fun h hs =>
 vF (R := fX (mp h) post) hcl hf hx (hc (mp h) hs.base hs.inv h (HS.nil (Le.refl _))) hn fun v h' ⟨L', h1, h2⟩ => ⟨fun _ => h2.base, _, hs.frame0 h2, hk v L' h1⟩
theorem CS.toLe (hc : CS P f vs (mp h) [] post) : C P f vs.toArray h fun v h' => (∃ L', post v L') /\ Le (mp h) (mp h') :=
 (hc h (HS.nil (Le.refl _))).mono fun _ _ ⟨L', h1, h2⟩ => ⟨⟨L', h1⟩, h2.base⟩
end
end Go.Eng
namespace Go.Eng
def xn (s : Bt) (i : Nat) : Nat := (s.getD i 0).toNat
theorem T8 (s : Bt) (i : Nat) : xn s i < 256 := (s.getD i 0).toNat_lt
section
variable {P : Program} {n : Nat} {env : Env} {dst : Option Tmp} {ty : TypeId} {pos : String} {aft : Array Edge} {gd : Option (Nat × Bool)} {t yt : TypeId} {x y : Operand} {k : IntKind} {a b : Nat}
theorem Ki (hx : ev env x = some (.int .i64 (a : Nat))) (hy : ev env y = some (.int .i64 (b : Nat))) (hr : a + b <= 9223372036854775807) : zP P n ⟨dst, .binOp .add t x y yt, ty, pos, aft, gd⟩ env (.int .i64 ((a + b : Nat) : Int)) :=
 yp hx hy (by rw [qx ze ze]; simp)
theorem dH {ts : Array TypeId} (hx : ev env x = some (.int .i64 (a : Nat))) (hy : ev env y = some (.int .i64 (b : Nat))) : zP P n ⟨dst, .call ⟨.builtin .min, #[x, y], ts⟩, ty, pos, aft, gd⟩ env (.int .i64 ((min a b : Nat) : Int)) := by
 have := jQ (P := P) (n := n) (dst := dst) (ty := ty) (pos := pos) (aft := aft) (gd := gd) (ts := ts) hx hy;rwa [show min (a : Int) (b : Int) = ((min a b : Nat) : Int) by omega] at this
variable {A : Oa} {c m : Nat}
theorem zx {sz : Nat} (ht : de P t = some sz) (hx : ev env x = some (.slice A m c)) (hy : ev env y = some (.int k (a : Nat))) (hA : A.isSome = true) (h1 : a < m) :
  zP P n ⟨dst, .indexAddr t x y, ty, pos, aft, gd⟩ env (.pointer (some ((sa A).add (a * sz)))) := we ht hx hy hA ze ze
theorem yE (ht : de P t = some 1) (hx : ev env x = some (.slice A m c)) (hy : ev env y = some (.int k (a : Nat))) (hA : A.isSome = true) (h1 : a < m) :
  zP P n ⟨dst, .indexAddr t x y, ty, pos, aft, gd⟩ env (.pointer (some ((sa A).add a))) := kT ht hx hy hA ze ze
end
section
variable {P : Program} {n : Nat} {env : Env} {m : Mp} {L : List ya} {Q : yd} {K : Env -> List ya -> Prop} {d : Nat} {ty : TypeId} {pos : String} {aft : Array Edge} {gd : Option (Nat × Bool)} {x : Operand}
variable {b : Nat}
theorem SX {i : Nat} {l : Lv} {e : TypeId} {r : List ya} {v : Value} {dst : Option Tmp} {t : TypeId} (ht : single P t = true) (hx : ev env x = some (.pointer (some ((sa (some ⟨b, 0, none⟩)).add i)))) (hT : Tk L (cel b l e) r) (hv : l[i]? = some v) : ∀ h, HS m L h -> xM P n ⟨dst, .load t x, ty, pos, aft, gd⟩ env h v :=
 fun _ hs => zL ht hx ((Rd.blk (hs.get hT)).at_ hv)
theorem SW {p : Nat} {s : Bt} {r : Nat × Nat} {L' : List ya} (hx : ev env x = some (.pointer (some ⟨b, 0, none⟩))) (hp : p < s.length) (hr : Utf8.decode (bs s) p = r) (hT : qB L (kA b s p) (kA b s (p + r.2)) L') (hn : Nat.blt d n = true) (hk : K ((d, .tuple [.bool true, .int .i64 p, .int .i32 r.1].toArray) :: env) L') : wj P n Q ⟨some d, .next x true, ty, pos, aft, gd⟩ env m L false K := by
 subst hr;exact DF hx hp hT hn hk
end
end Go.Eng
namespace Go.Eng
def xQ : Nat -> List (Bt × Value) -> List MapEntry
 | _, [] => []
 | i, (k, v) :: r => ⟨.string (bs k), v, i⟩ :: xQ (i + 1) r
def uA (k : Bt) : Nat -> List (Bt × Value) -> Option (Nat × Value)
 | _, [] => none
 | i, (k', v) :: r => if k = k' then some (i, v) else uA k (i + 1) r
def gk (es : List (Bt × Value)) (k : Bt) : Option Value := (uA k 0 es).map (·.2)
def cu (es : List (Bt × Value)) (k : Bt) (v : Value) : List (Bt × Value) := match uA k 0 es with
 | some (i, _) => es.set i (k, v)
 | none => es ++ [(k, v)]
def jZ (r : Nat) (es : List (Bt × Value)) : ya := blk r (.map (xQ 0 es).toArray es.length)
def ky (P : Program) (t : TypeId) : Option TypeId := match P.underlying t with
 | some (.map kt et) => match P.underlying kt with
   | some .string => some et
   | _ => none
 | _ => none
theorem bM {P : Program} {t et : TypeId} (h : ky P t = some et) : ∃ kt, P.underlying t = some (.map kt et) /\ P.underlying kt = some .string := by
 unfold ky at h
 split at h
 ·rename_i kt et' hu
  split at h
  ·rename_i hk; simp only [Option.some.injEq] at h; subst h; exact ⟨kt, hu, hk⟩
  ·cases h
 ·cases h
theorem WU {a b : Bt} : (bs a == bs b) = decide (a = b) := by
 show ((bs a).data == (bs b).data) = _;rw [Bool.eq_iff_iff, beq_iff_eq, decide_eq_true_eq]
 simp [bs]
theorem bQ (k : Bt) : ∀ (es : List (Bt × Value)) (i j : Nat), Instr.findNow .string (.string (bs k)) (xQ j es) i = some (uA k i es)
 | [], _, _ => rfl
 | (k', v) :: r, i, j => by
   unfold xQ Instr.findNow;simp only [Instr.sameNow, WU];by_cases h : k = k'
   ·simp [h, uA]
   ·simp only [h, decide_false];rw [bQ k r (i + 1) (j + 1)]
    simp [uA, h]
theorem ZC {k : Bt} : ∀ {es : List (Bt × Value)} {i j : Nat} {v : Value}, uA k i es = some (j, v) -> i <= j /\ es[j - i]? = some (k, v)
 | [], _, _, _, h => by cases h
 | (k', v') :: r, i, j, v, h => by
   unfold uA at h
   split at h
   ·rename_i hk
    injection h with h
    injection h with h1 h2
    subst h1 h2 hk
    simp
   ·obtain ⟨h1, h2⟩ := ZC h;refine ⟨by omega, ?_⟩;rw [show j - i = (j - (i + 1)) + 1 by omega]
    simpa using h2
theorem XR : ∀ (es : List (Bt × Value)) (i j : Nat), (xQ i es)[j]? = (es[j]?).map fun p => ⟨.string (bs p.1), p.2, i + j⟩
 | [], _, _ => by simp [xQ]
 | (k, v) :: r, i, 0 => by simp [xQ]
 | (k, v) :: r, i, j + 1 => by simp [xQ, XR r (i + 1) j]; congr 1; funext p; congr 1; omega
theorem JQ (es : List (Bt × Value)) (i : Nat) (k : Bt) (v : Value) : xQ i (es ++ [(k, v)]) = xQ i es ++ [⟨.string (bs k), v, i + es.length⟩] := by
 induction es generalizing i with
 | nil => simp [xQ]
 | cons p r ih => obtain ⟨k', v'⟩ := p; simp only [List.cons_append, xQ, ih, List.length_cons]; rw [show i + 1 + r.length = i + (r.length + 1) by omega]
theorem Hx (es : List (Bt × Value)) (i j : Nat) (k : Bt) (v v0 : Value) (h : es[j]? = some (k, v0)) : xQ i (es.set j (k, v)) = (xQ i es).modify j fun e => { e with key := .string (bs k), val := v } := by
 induction es generalizing i j with
 | nil => simp at h
 | cons p r ih =>
   obtain ⟨k', v'⟩ := p;cases j with
   | zero => simp at h; obtain ⟨rfl, rfl⟩ := h; simp [xQ]
   | succ j => simp only [List.set_cons_succ, xQ, List.modify_succ_cons, ih _ _ (by simpa using h)]
section
variable {P : Program} {n : Nat} {env : Env} {m : Mp} {L r : List ya} {Q : yd} {K : Env -> List ya -> Prop} {dst : Option Tmp} {d : Nat} {ty : TypeId} {pos : String} {aft : Array Edge} {gd : Option (Nat × Bool)} {t et : TypeId} {x y z : Operand} {v : Value}
theorem qV (hn : Nat.blt d n = true) (hk : ∀ b, K ((d, .map (some b)) :: env) (jZ b [] :: L)) : wj P n Q ⟨some d, .makeMap t none, ty, pos, aft, gd⟩ env m L true K := fun h hs =>
 vh rfl hn fun fx dr a ha => by
  refine ⟨h.push (.map #[] 0), dr, ?_, fun _ => vT h _, _, hs.new (e' := jZ h.size []) (vT h _) (xc h _) (fun k hk => by have := WM hk; subst this; exact u6 h), hk _⟩
  simp [execOp, Instr.makeMap, newObj, Sem.run, W]
variable {b c : Nat} {w : World}
theorem eB {es : Array MapEntry} (hb : w.heap[b]? = some (.map es c)) : (getObj b).run P w = .ok (.map es c) w := by simp [getObj, Sem.run, hb]
theorem dW {es : Array MapEntry} {o' : Obj} (hb : w.heap[b]? = some (.map es c)) : (setObj b o').run P w = .ok () { w with heap := w.heap.setIfInBounds b o' } := by simp [setObj, Sem.run, hb]
variable {kt : TypeId}
theorem kY (hk : P.underlying kt = some .string) (k : Bt) (es : List (Bt × Value)) : (Instr.findKey kt (.string (bs k)) (xQ 0 es)).run P w = .ok (uA k 0 es) w := by
 simp only [Instr.findKey, Sem.run_bind, run_underlying hk, Result.andThen_ok, bQ]
 rfl
theorem uR (b : Bool) (hk : P.underlying kt = some .string) (k : Bt) : (Instr.checkKey b 10000 kt (.string (bs k))).run P w = .ok () w := by
 show (Instr.checkKey b (9999 + 1) kt (.string (bs k))).run P w = .ok () w;rw [Instr.checkKey];simp only [Sem.run_bind, run_underlying hk, Result.andThen_ok]
 rfl
variable {es : List (Bt × Value)} {zv : Value}
theorem uy {fx : Fx} {h : zZ} {dr : Nat} {k : Bt} {cm : Bool} (ht : ky P t = some et) (hb : mp h b = some (.map (xQ 0 es).toArray es.length)) (hz : ∀ w, (zeroValue et).run P w = .ok zv w) :
  (Instr.lookup t (.map (some b)) (.string (bs k)) cm).run P (W fx h dr) = .ok (if cm then .tuple #[(gk es k).getD zv, .bool (gk es k).isSome] else (gk es k).getD zv) (W fx h dr) := by
 obtain ⟨kt, h1, h2⟩ := bM ht;have hb' : (W fx h dr).heap[b]? = some (.map (xQ 0 es).toArray es.length) := hb;simp only [Instr.lookup, Sem.run_bind, run_underlying h1, Result.andThen_ok, eB hb', uR _ h2, Sem.run_pure];have hfk := kY (P := P) (w := W fx h dr) h2 k es;simp only [hfk, Result.andThen_ok];unfold gk;cases hf : uA k 0 es with
 | none => simp [hz]
 | some p => simp
theorem gX {k : Bt} (ht : ky P t = some et) (hx : ev env x = some (.map (some b))) (hy : ev env y = some (.string (bs k))) (hT : Tk L (jZ b es) r) (hzz : ∀ w, (zeroValue et).run P w = .ok zv w) :
  ∀ h, HS m L h -> xM P n ⟨dst, .lookup t x y false, ty, pos, aft, gd⟩ env h ((gk es k).getD zv) := fun h hs a w ha hl => by
 have h1 : mp w.heap b = some (.map (xQ 0 es).toArray es.length) := hl _ _ (hs.get hT);have := uy (P := P) (fx := ⟨w.tape, w.os, w.output, []⟩) (h := w.heap) (dr := w.drawn) (cm := false) (k := k) ht h1 hzz;simp only [execOp, ha.eval hx, ha.eval hy, Sem.run_bind];rw [<- Qo] at this;rw [this]
 rfl
theorem X0 {k : Bt} (ht : ky P t = some et) (hx : ev env x = some (.map (some b))) (hy : ev env y = some (.string (bs k))) (hT : Tk L (jZ b es) r) (hzz : ∀ w, (zeroValue et).run P w = .ok zv w) :
  ∀ h, HS m L h -> xM P n ⟨dst, .lookup t x y true, ty, pos, aft, gd⟩ env h (.tuple [(gk es k).getD zv, .bool (gk es k).isSome].toArray) := fun h hs a w ha hl => by
 have h1 : mp w.heap b = some (.map (xQ 0 es).toArray es.length) := hl _ _ (hs.get hT);have := uy (P := P) (fx := ⟨w.tape, w.os, w.output, []⟩) (h := w.heap) (dr := w.drawn) (cm := true) (k := k) ht h1 hzz;simp only [execOp, ha.eval hx, ha.eval hy, Sem.run_bind];rw [<- Qo] at this;rw [this]
 rfl
def Ti (P : Program) (t : TypeId) (v : Value) : Prop := ∀ w, (zeroValue t).run P w = .ok v w
theorem Ld {i : TypeInfo} (h : P.info? t = some i) (hz : i.zero = some v) : Ti P t v := fun w => by simp [zeroValue, typeInfo, h, hz]
theorem wa {k : Bt} {L' : List ya} (ht : ky P t = some et) (hx : ev env x = some (.map (some b))) (hy : ev env y = some (.string (bs k))) (hz : ev env z = some v) (hT : qB L (jZ b es) (jZ b (cu es k v)) L') (hk : K env L') : wj P n Q ⟨none, .mapUpdate t x y z, ty, pos, aft, gd⟩ env m L false K := fun h hs => by
 obtain ⟨r, g1, g2⟩ := hT.split;have h3 := hs.take g1;have hb : mp h b = some (.map (xQ 0 es).toArray es.length) := h3.head;have hblt := vy hb;obtain ⟨kt, u1, u2⟩ := bM ht
 have put : ∀ o : Obj, (jZ b (cu es k v)).inv (mp (h.setIfInBounds b o)) -> HS m L' (h.setIfInBounds b o) := fun o ho =>
  (h3.upd (e' := jZ b (cu es k v)) (fun j _ hj => by
   have hne : b ≠ j := by rintro rfl; simp [jZ, blk] at hj
   simp [mp, Array.getElem?_setIfInBounds, hne]) ho fun j hj => .inl hj).untake g2
 refine qE rfl fun fx dr a ha => ?_;have hb' : (W fx h dr).heap[b]? = some (.map (xQ 0 es).toArray es.length) := hb;have hfk := kY (P := P) (w := W fx h dr) u2 k es;cases hf : uA k 0 es with
 | none =>
   rw [hf] at hfk;refine ⟨h.setIfInBounds b (.map ((xQ 0 es).toArray.push ⟨.string (bs k), v, es.length⟩) (es.length + 1)), dr, ?_, fun hh => (by cases hh), L', put _ ?_, hk⟩
   ·simp only [execOp, ha.eval hx, ha.eval hy, ha.eval hz, Instr.mapUpdate, Sem.run_bind, run_underlying u1, Result.andThen_ok, eB hb', uR _ u2, hfk, dW hb', Sem.run_pure]
    rfl
   ·show mp _ b = _;simp only [cu, hf, JQ, Nat.zero_add]
    simp [mp, hblt]
 | some p =>
   obtain ⟨i, v0⟩ := p;rw [hf] at hfk;obtain ⟨_, hg⟩ := ZC hf;simp only [Nat.sub_zero] at hg;have hgi : ((xQ 0 es).toArray)[i]? = some ⟨.string (bs k), v0, i⟩ := by rw [List.getElem?_toArray, XR, hg]; simp
   have hkey : (((xQ 0 es).toArray[i]?).map (·.key)).getD (.string (bs k)) = .string (bs k) := by rw [hgi]; rfl
   have hst : (Instr.keyThatStays (.string (bs k)) (.string (bs k))).run P (W fx h dr) = .ok (.string (bs k)) (W fx h dr) := by
    unfold Instr.keyThatStays;rw [if_pos]
    ·rfl
    ·show Instr.sameBits (9999 + 1) _ _ = true;show (bs k == bs k) = true;rw [WU]
     simp
   refine ⟨h.setIfInBounds b (.map ((xQ 0 es).toArray.modify i fun e => { e with key := .string (bs k), val := v }) es.length), dr, ?_, fun hh => (by cases hh), L', put _ ?_, hk⟩
   ·simp only [execOp, ha.eval hx, ha.eval hy, ha.eval hz, Instr.mapUpdate, Sem.run_bind, run_underlying u1, Result.andThen_ok, eB hb', uR _ u2, hfk, hkey, hst, dW hb', Sem.run_pure]
    rfl
   ·show mp _ b = _;simp only [cu, hf, Hx es 0 i k v v0 hg, List.length_set]
    simp [mp, hblt]
end
end Go.Eng
namespace Go.Eng
inductive Dt where
 | i (k : IntKind) (n : Int)
 | s (t : Bt)
 | b (x : Bool)
deriving DecidableEq
inductive Dk where
 | i (k : IntKind)
 | s
 | b
deriving DecidableEq
def Dt.v : Dt -> Value
 | .i k n => .int k n
 | .s t => .string (bs t)
 | .b x => .bool x
def Dt.k : Dt -> Dk
 | .i k _ => .i k
 | .s _ => .s
 | .b _ => .b
section
variable {P : Program} {n : Nat} {env : Env} {dst : Option Tmp} {ty : TypeId} {pos : String} {aft : Array Edge} {gd : Option (Nat × Bool)} {t yt : Nat} {x y : Operand} {ks : List Dk} {as bs : List Dt}
end
section
variable {P : Program} {n : Nat} {env : Env} {m : Mp} {L r : List ya} {dst : Option Tmp} {ty : TypeId} {pos : String} {aft : Array Edge} {gd : Option (Nat × Bool)} {t : TypeId} {x y : Operand} {v : Value}
end
section
variable {P : Program} {n : Nat} {env : Env} {m : Mp} {L r : List ya} {Q : yd} {p : Prop} {l0 l : List Oper}
theorem dD (hf : ∀ h, HS m L h -> p) (hk : p -> VS P n l0 l env m L Q) : VS P n l0 l env m L Q := fun h hs => hk (hf h hs) h hs
theorem am {c : Code} (hf : ∀ h, HS m L h -> p) (hk : p -> TS P n c env m L Q) : TS P n c env m L Q := fun h hs => hk (hf h hs) h hs
theorem vo {e sz c : Nat} {A : Oa} {xs : Lv} (hT : Tk L (own e sz A n c xs) r) (h0 : 0 < xs.length) : ∀ h, HS m L h -> A.isSome = true := fun _ hs => (Own.rd (hs.get hT)).isSome h0
end
end Go.Eng
namespace Go.Eng
def Wu (l : List Oper) : Bool := l.all fun o => match o.op with
 | .defer _ => false
 | _ => true
theorem Jl {l : List Oper} (h : Wu l = true) {o : Oper} (ho : o ∈ l) : ∀ c, o.op ≠ .defer c := fun c e => by
 have := List.all_eq_true.1 h o ho;rw [e] at this;cases this
theorem IT {n : Nat} {P : Program} {row : String} {args : Array Value} {w : World} {R : Value -> World -> Prop} (h : Rows P row args w R) : RowsIn Fence.wide n P row args w R := fun c cs _ => by
 obtain ⟨v, w', r, s⟩ := h c cs;exact ⟨v, w', r, stepsIn_wide.2 s⟩
section
variable {P : Program} {Q : Exit -> Act -> World -> Prop} {next : Act -> World -> Prop}
variable {l : Nat}
theorem PR {o : Oper} {a : Act} {w : World} {k : Nat} (hd : ∀ c, o.op ≠ .defer c) (h : o.wp P a w next Q) : o.wpIn (Fence.wide.inRound l) k P a w next Q := by
 refine ⟨fun _ _ => trivial, ?_⟩;rw [Oper.semAt_eq _ _ _ hd];unfold Oper.wp at h;generalize (execOp a.eval o).run P w = r at *;cases r with
 | ok x w' =>
   cases x <;> simp only [Oper.upon] at h <;> try exact h
   case enter f args => exact ⟨(fun e => by cases e), callsIn_wide.2 h⟩
   case row row args => exact ⟨(fun e => by cases e), IT h⟩
   all_goals exact h.elim
 | halt e w' => cases e <;> simp only [Oper.upon] at h <;> first | exact h | exact h.elim
theorem cC {ops : Array Oper} {k : Nat} (hd : Wu ops.toList = true) (hL : ¬ LetsOut Q) : ∀ (is : List Nat) (a : Act) (w : World), wpOps P ops Q is a w -> wpOpsIn (Fence.wide.inRound l) k P ops Q is a w
 | [], _, _, h => h
 | i :: r, a, w, h => by
   unfold wpOps at h;unfold wpOpsIn;cases ho : ops[i]? with
   | none => rw [ho] at h; exact cC hd hL r a w h
   | some o =>
     rw [ho] at h;simp only at h ⊢
     have hm : o ∈ ops.toList := by
      have := Array.mem_of_getElem? ho
      simpa using this
     split
     ·rename_i hw
      rw [if_pos hw] at h;rcases h with h | ⟨_, h⟩
      ·refine PR (Jl hd hm) (Oper.wp_mono (fun a' w' h' => ?_) h);exact cC hd hL r a' w' h'
      ·exact absurd h hL
     ·rename_i hw
      rw [if_neg hw] at h;exact ⟨fun _ _ => trivial, cC hd hL r _ w h⟩
end
def TR (P : Program) (n : Nat) (c : Code) (env : Env) (m : Mp) (L : List ya) (Q : yd) : Prop :=
 ∀ h, HS m L h -> ∀ (x : Fx) (d : Nat) (a : Act) (l k : Nat), kj n x env a -> c.wpIn (Fence.wide.inRound l) k P (cL n x Q) a (W x h d)
section
variable {P : Program} {n : Nat} {env : Env} {m : Mp} {L : List ya} {Q : yd}
def GM (Q : yd) : Prop := ∀ env h, ¬ Q .outgrown env h
theorem GM.lets {x : Fx} (h : GM Q) : ¬ LetsOut (cL n x Q) := fun ⟨_, _, _, _, _, _, _, hq⟩ => h _ _ hq
variable {id : Nat}
theorem bv {l : List Oper} (hd : Wu l = true) (hQ : GM Q) (hv : VS P n l l env m L Q) : TR P n (.region id l.toArray false) env m L Q := fun h hs x d a r k hag => by
 refine wpIn_region ?_;refine cC (by simpa using hd) hQ.lets _ _ _ ?_;have := hv h hs x d a hag;rw [List.range_eq_range', List.size_toArray, wpOps_eq_wpList (ops := l.toArray) l 0 vM];exact this
theorem SU (hq : QS Q .normal env m L) : TR P n .skip env m L Q := fun h hs _ d _ _ _ hag => wpIn_skip ⟨env, h, d, hag, rfl, hq h hs⟩
variable {a b : Code}
theorem Ow {c : Operand} (hc : ev env c = some (.bool false)) (h1 : TR P n b env m L Q) : TR P n (.cond c a b) env m L Q := fun h hs x d act l k hag => wpIn_cond_false (hag.toAg.eval hc) (h1 h hs x d act l k hag)
def Hg (m : Mp) (K : Env -> List ya -> Prop) (Q : yd) : yd
 | .normal, env, h => ∃ L', HS m L' h /\ K env L'
 | .ret, env, h => Q .ret env h
 | _, _, _ => False
variable {K : Env -> List ya -> Prop}
theorem eI : GM (Hg m K Q) := fun _ _ h => h
theorem jo (L' : List ya) (hp : zJ L L') (hk : K env L') : QS (Hg m K Q) .normal env m L := fun h hs => ⟨L', hp m h hs, hk⟩
theorem Ov (ht : TR P n a env m L (Hg m (fun env' L' => TR P n b env' m L' Q) Q)) : TR P n (.seq a b) env m L Q := fun h hs x d act l k hag => by
 refine wpIn_seq (wpIn_mono (ht h hs x d act l k hag) ?_);rintro e a' w' ⟨env', h', d', hag', rfl, hq⟩;cases e with
 | normal => obtain ⟨L', hs', hb⟩ := hq; exact hb h' hs' x d' a' l k hag'
 | ret => exact ⟨env', h', d', hag', rfl, hq⟩
 | exit i => exact hq.elim
 | goto i => exact hq.elim
 | panic c => exact hq.elim
 | outgrown => exact hq.elim
theorem Ox {c : Code} (ht : TR P n c env m L (wE id Q)) : TR P n (.block id c) env m L Q := fun h hs x d act l k hag => by
 refine wpIn_block (wpIn_mono (ht h hs x d act l k hag) ?_);rintro e a' w' ⟨env', h', d', hag', rfl, hq⟩;cases e with
 | exit i =>
   by_cases hi : i = id
   ·simp only [wE, if_pos hi] at hq;simp only [Exit.inBlock, if_pos hi];exact ⟨env', h', d', hag', rfl, hq⟩
   ·simp only [wE, if_neg hi] at hq;simp only [Exit.inBlock, if_neg hi];exact ⟨env', h', d', hag', rfl, hq⟩
 | normal => exact ⟨env', h', d', hag', rfl, hq⟩
 | ret => exact ⟨env', h', d', hag', rfl, hq⟩
 | goto i => exact ⟨env', h', d', hag', rfl, hq⟩
 | panic c => exact ⟨env', h', d', hag', rfl, hq⟩
 | outgrown => exact ⟨env', h', d', hag', rfl, hq⟩
end
section
variable {P : Program} {n : Nat} {env : Env} {m : Mp} {L : List ya} {Q : Exit -> Act -> World -> Prop} {x : Fx} {h : zZ} {d : Nat} {a : Act} {K : Env -> List ya -> Prop}
def noQ : yd := fun _ _ _ => False
variable {A : Code}
theorem qY {B : Code} (ht : TS P n A env m L (Hg m K noQ)) (hs : HS m L h) (hag : kj n x env a) (hk : ∀ env' L' h' d' a', K env' L' -> HS m L' h' -> kj n x env' a' -> B.wp P Q a' (W x h' d')) : (Code.seq A B).wp P Q a (W x h d) := by
 refine wp_seq (wp_mono (ht h hs x d a hag) ?_);rintro e a' w' ⟨env', h', d', hag', rfl, hq⟩;cases e with
 | normal => obtain ⟨L', hs', hb⟩ := hq; exact hk _ _ _ _ _ hb hs' hag'
 | ret => exact hq.elim
 | exit i => exact hq.elim
 | goto i => exact hq.elim
 | panic c => exact hq.elim
 | outgrown => exact hq.elim
theorem wp_T (ht : TS P n A env m L (Hg m K noQ)) (hs : HS m L h) (hag : kj n x env a) (hk : ∀ env' L' h' d' a', K env' L' -> HS m L' h' -> kj n x env' a' -> Q .normal a' (W x h' d')) : A.wp P Q a (W x h d) := by
 refine wp_mono (ht h hs x d a hag) ?_;rintro e a' w' ⟨env', h', d', hag', rfl, hq⟩;cases e with
 | normal => obtain ⟨L', hs', hb⟩ := hq; exact hk _ _ _ _ _ hb hs' hag'
 | ret => exact hq.elim
 | exit i => exact hq.elim
 | goto i => exact hq.elim
 | panic c => exact hq.elim
 | outgrown => exact hq.elim
theorem A8 {l : Lv} {t : Nat -> Question -> Nat} {o : Os} {u : Array (Nat × ByteArray)} (hl : l.length <= n) : kj n ⟨t, o, u, []⟩ (WK l 0) { tmps := l.toArray ++ Array.replicate (n - l.toArray.size) undef, defers := [] } := by
 refine ⟨⟨?_, ?_⟩, rfl⟩
 ·simp; omega
 ·intro t v hv;rw [fC] at hv;simp only [Nat.zero_le, if_true, Nat.sub_zero] at hv;have hlt : t < l.length := (List.getElem?_eq_some_iff.1 hv).1;rw [Array.getElem?_append_left (by simpa using hlt)]
  simpa using hv
theorem kj.re {x' : Fx} (h : kj n x env a) (e : x.ds = x'.ds) : kj n x' env a := ⟨h.toAg, h.defers.trans e⟩
theorem Sz {c : Code} {w : World} (e : w = W x h d) (hk : ∀ a, kj n x env a -> c.wp P Q a (W x h d)) (hag : kj n x env a) : c.wp P Q a w := by
 rw [e]; exact hk a hag
theorem UO {h' : zZ} {d' : Nat} (hl : Le (mp h) (mp h')) (row : Option Nat) : (W x h d).grownBy (W x h' d') row :=
 ⟨rfl, rfl, rfl, dv hl, fun k hk _ => by
  have hk' : k < h.size := hk;have h1 : mp h k = some h[k] := by unfold mp; exact Array.getElem?_eq_getElem hk'
  have h2 := hl k _ h1
  exact h2.trans h1.symm⟩
variable {l l0 : List Oper} {o : Oper} {v : Value} {t : Nat} {k : Nat} {w : World}
theorem kW (hr : zP P n o env v) (hd : o.dst = some t) (hw : wanted l0 env o = some true) (hag : kj n x env a) (hk : wpListIn Fence.wide k P l0.toArray Q l (a.put (some t) v) w) : wpListIn Fence.wide k P l0.toArray Q (o :: l) a w := by
 unfold wpListIn;rw [if_pos (yM hag.toAg hw)];refine ⟨fun _ _ => trivial, ?_⟩;rw [show Fence.wide.round = none from rfl, Oper.semAt_none, hr a w hag, Oper.uponIn_value, hd];exact hk
theorem Vo (hr : xM P n o env h v) (hd : o.dst = some t) (hw : wanted l0 env o = some true) (hag : kj n x env a) (hle : Le (mp h) (mp w.heap)) (hk : wpListIn Fence.wide k P l0.toArray Q l (a.put (some t) v) w) : wpListIn Fence.wide k P l0.toArray Q (o :: l) a w := by
 unfold wpListIn;rw [if_pos (yM hag.toAg hw)];refine ⟨fun _ _ => trivial, ?_⟩;rw [show Fence.wide.round = none from rfl, Oper.semAt_none, hr a w hag hle, Oper.uponIn_value, hd];exact hk
theorem OH {fv : Operand} {args : List Operand} {vs : Lv} {ats : Array TypeId} {ty : TypeId} {pos : String} {aft : Array Edge} {gd : Option (Nat × Bool)} {r : Nat} {R : Ending -> World -> Prop} (hf : ev env fv = some (.func (.yield r) #[] #[])) (hx : evs env args = some vs) (hw : wanted l0 env ⟨some t, .call ⟨.value fv, args.toArray, ats⟩, ty, pos, aft, gd⟩ = some true) (hag : kj n x env a) (hy : YieldAt Fence.wide k P r vs.toArray w R) (hk : ∀ e w', R e w' -> ∃ v, e = .returned v /\ wpListIn Fence.wide (k + 1) P l0.toArray Q l (a.put (some t) v) w') : wpListIn Fence.wide (k + 1) P l0.toArray Q (⟨some t, .call ⟨.value fv, args.toArray, ats⟩, ty, pos, aft, gd⟩ :: l) a w := by
 obtain ⟨fn, tmps, assign, body, h1, h2⟩ := hy;unfold wpListIn;rw [if_pos (yM hag.toAg hw)];refine ⟨fun _ _ => trivial, ?_⟩
 have h3 : (execOp a.eval ⟨some t, .call ⟨.value fv, args.toArray, ats⟩, ty, pos, aft, gd⟩).run P w = .ok (.round r fn tmps assign body) w := by
  have h4 := qv hag.toAg hx;simp only [execOp, resolve, h4, hag.toAg.eval hf, Deferred.ofValue, Sem.run_bind, Sem.run_pure, Result.andThen_ok, invoke]
  simpa using h1
 rw [show Fence.wide.round = none from rfl, Oper.semAt_none, h3, Oper.uponIn_round];refine ⟨fun e => (by cases e), h2.mono ?_⟩;intro e w' hr;obtain ⟨v, rfl, h5⟩ := hk e w' hr;exact h5
end
variable {L : List ya} {P : Program} {Q : Exit -> Act -> World -> Prop} {Q0 : yd} {a : Act} {c : Code} {d : Nat} {env : Env} {h : zZ} {m : Mp} {n : Nat} {x : Fx}
theorem Cm (ht : TS P n c env m L Q0) (hs : HS m L h) (hag : kj n x env a) (hq : ∀ e a' w', cL n x Q0 e a' w' -> Q e a' w') : c.wp P Q a (W x h d) := wp_mono (ht h hs x d a hag) hq
theorem Fo {l k : Nat} {w : World} (hw : w = W x h d) (ht : TR P n c env m L Q0) (hs : HS m L h) (hag : kj n x env a) (hq : ∀ e a' w', cL n x Q0 e a' w' -> Q e a' w') : c.wpIn (Fence.wide.inRound l) k P Q a w := by
 rw [hw]; exact wpIn_mono (ht h hs x d a l k hag) hq
def qW (e : ya) : Prop := ∀ (m : Mp) (k : Nat), e.inv m -> e.dom k = true -> ∃ o : Obj, m k = some o /\ o.isCells = true
theorem ZU (b : Nat) (l : Lv) (t : TypeId) : qW (cel b l t) := fun m k hi hk => by
 have := Nat.eq_of_beq_eq_true hk;subst this;exact ⟨_, hi, rfl⟩
section
variable {m : Mp} {L : List ya} {h h' : zZ}
theorem HS.grow {row : Option Nat} (hs : HS m L h) (hc : ∀ e ∈ L, qW e) (hg : ∀ k, k < h.size -> some k ≠ row -> h'[k]? = h[k]?) (hrow : ∀ r, row = some r -> m r = none /\ ∃ o : Obj, h[r]? = some o /\ o.isCells = false) : HS m L h' := by
 refine ⟨fun k o hk => ?_, fun e he => ?_, hs.out, hs.apart⟩
 ·have h1 := hs.base k o hk;have hlt : k < h.size := (Array.getElem?_eq_some_iff.1 h1).1;refine (hg k hlt ?_).trans h1;intro e;rw [(hrow k e.symm).1] at hk;cases hk
 ·refine e.loc (fun k hk => ?_) (hs.inv e he);obtain ⟨o, h1, h2⟩ := hc e he _ k (hs.inv e he) hk;have hlt : k < h.size := (Array.getElem?_eq_some_iff.1 h1).1;refine hg k hlt ?_;intro e';obtain ⟨_, o', g1, g2⟩ := hrow k e'.symm;rw [show h[k]? = some o from h1] at g1;cases g1;rw [h2] at g2;cases g2
def awayL (L : List ya) (m : Mp) : Mp := fun k => if L.any (·.dom k) then none else m k
theorem HS.awayL (hs : HS m L h) : HS (awayL L (mp h)) L h := by
 refine ⟨fun k o hk => ?_, hs.inv, fun e he k hk => ?_, hs.apart⟩
 ·unfold Eng.awayL at hk
  split at hk
  ·cases hk
  ·exact hk
 ·unfold Eng.awayL;rw [if_pos (List.any_eq_true.2 ⟨e, he, hk⟩)]
theorem HS.le_away (hs : HS m L h) : Le m (Eng.awayL L (mp h)) := fun k o hk => by
 unfold Eng.awayL;rw [if_neg]
 ·exact hs.base k o hk
 ·intro ha;obtain ⟨e, he, hd⟩ := List.any_eq_true.1 ha;rw [hs.out e he k hd] at hk;cases hk
theorem HS.weak {m' : Mp} (hs : HS m' L h) (hl : Le m m') : HS m L h := ⟨hl.trans hs.base, hs.inv, fun e he k hk => by
 cases hm : m k with
 | none => rfl
 | some o => exact absurd (hl k o hm) (by rw [hs.out e he k hk]; intro c; cases c), hs.apart⟩
theorem JY {L' : List ya} {x x' : Fx} {d d' B : Nat} (hs : HS m L h) (hs' : HS (Eng.awayL L (mp h)) L' h') (hc : ∀ e ∈ L, qW e) (hd : ∀ k, (L.any (·.dom k)) = true -> (L'.any (·.dom k)) = true) :
  KeepsFrom B (W x h d) (W x' h' d') /\ HS m L' h' := by
 have some_at : ∀ k o, h[k]? = some o -> h'[k]? ≠ none := fun k o hk => by
  cases ha : L.any (·.dom k) with
  | false =>
    have h1 : Eng.awayL L (mp h) k = some o := by unfold Eng.awayL; rw [ha]; exact hk
    have := hs'.base k o h1;rw [show h'[k]? = some o from this];intro c; cases c
  | true =>
    obtain ⟨e, he, hdk⟩ := List.any_eq_true.1 (hd k ha);exact e.has (hs'.inv e he) hdk
 refine ⟨⟨?_, fun k o _ hk ho => ?_⟩, hs'.weak hs.le_away⟩
 ·show h.size <= h'.size;by_cases h0 : h.size = 0
  ·omega
  ·have hlt : h.size - 1 < h.size := by omega
   have := some_at (h.size - 1) _ (Array.getElem?_eq_getElem hlt);by_cases hl2 : h.size - 1 < h'.size
   ·omega
   ·exact absurd (Array.getElem?_eq_none ze) this
 ·refine hs'.base k o ?_;unfold Eng.awayL;rw [if_neg]
  ·exact hk
  ·intro ha;obtain ⟨e, he, hdk⟩ := List.any_eq_true.1 ha;obtain ⟨o', h1, h2⟩ := hc e he _ k (hs.inv e he) hdk;have hk' : h[k]? = some o := hk;rw [show h[k]? = some o' from h1] at hk';cases hk';rw [h2] at ho;cases ho
end
end Go.Eng
namespace Go.Eng
def pan (v : Value) : List PanicEntry := [{ v, recovered := false }]
def CP (P : Program) (f : FuncId) (args : Array Value) (h : zZ) (R Rp : Value -> zZ -> Prop) : Prop :=
 ∀ (x : Fx) (d : Nat), Calls P f args (W x h d) fun e w' => ∃ v h' d', w' = W x h' d' /\ ((e = .returned v /\ R v h') \/ (e = .panicked (pan v) /\ Rp v h'))
theorem CP.of {P : Program} {f : FuncId} {args : Array Value} {h : zZ} {R Rp : Value -> zZ -> Prop} (hc : C P f args h R) : CP P f args h R Rp := fun x d =>
 (hc x d).mono fun _ _ ⟨v, h', d', h1, h2, h3⟩ => ⟨v, h', d', h2, .inl ⟨h1, h3⟩⟩
section
variable {P : Program} {n : Nat} {env : Env} {h : zZ} {Q : yd} {K : Env -> zZ -> Prop} {d : Nat} {ty : TypeId} {pos : String} {aft : Array Edge} {gd : Option (Nat × Bool)}
end
section
variable {P : Program} {n : Nat} {env : Env} {dst : Option Tmp} {ty : TypeId} {pos : String} {aft : Array Edge} {gd : Option (Nat × Bool)} {x : Operand} {t u xt : TypeId} {v zv : Value}
theorem jH (ht : yQ P t = false) (hs : (P.underlying t).isSome = true) (hx : ev env x = some (.iface t v)) : zP P n ⟨dst, .typeAssert x xt t true, ty, pos, aft, gd⟩ env (.tuple #[v, .bool true]) := by
 intro a' w ha;obtain ⟨ds, hds⟩ := Option.isSome_iff_exists.1 hs;unfold yQ at ht;rw [hds] at ht;simp only [execOp, Instr.typeAssert, ha.eval hx];cases ds <;> simp_all [run_underlying hds]
theorem Vh (ht : yQ P t = false) (hs : (P.underlying t).isSome = true) (hx : ev env x = some (.iface t v)) : zP P n ⟨dst, .typeAssert x xt t false, ty, pos, aft, gd⟩ env v := by
 intro a' w ha;obtain ⟨ds, hds⟩ := Option.isSome_iff_exists.1 hs;unfold yQ at ht;rw [hds] at ht;simp only [execOp, Instr.typeAssert, ha.eval hx];cases ds <;> simp_all [run_underlying hds]
theorem kU (ht : yQ P t = false) (hs : (P.underlying t).isSome = true) (hx : ev env x = some (.iface u v)) (hne : Nat.beq u t = false) (hz : ∀ w, (zeroValue t).run P w = .ok zv w) : zP P n ⟨dst, .typeAssert x xt t true, ty, pos, aft, gd⟩ env (.tuple #[zv, .bool false]) := by
 intro a' w ha;obtain ⟨ds, hds⟩ := Option.isSome_iff_exists.1 hs;have hut : ¬ u = t := fun e => by rw [e, Nat.beq_refl] at hne; cases hne
 unfold yQ at ht;rw [hds] at ht;simp only [execOp, Instr.typeAssert, ha.eval hx];cases ds <;> simp_all [run_underlying hds]
theorem QA (ht : yQ P t = false) (hs : (P.underlying t).isSome = true) (hx : ev env x = some .nilIface) (hz : ∀ w, (zeroValue t).run P w = .ok zv w) : zP P n ⟨dst, .typeAssert x xt t true, ty, pos, aft, gd⟩ env (.tuple #[zv, .bool false]) := by
 intro a' w ha;obtain ⟨ds, hds⟩ := Option.isSome_iff_exists.1 hs;unfold yQ at ht;rw [hds] at ht;simp only [execOp, Instr.typeAssert, ha.eval hx];cases ds <;> simp_all [run_underlying hds]
end
section
variable {P : Program} {n : Nat} {env : Env} {h : zZ} {m : Mp} {L : List ya} {Q : yd} {d : Nat} {ty : TypeId} {pos : String} {aft : Array Edge} {gd : Option (Nat × Bool)}
end
section
variable {P : Program} {n : Nat} {env : Env} {m : Mp} {L : List ya} {Q : yd} {l : List Oper} {wild : Nat -> Bool} {t : OT} {o : Oper} {v : Value} {d i : Nat}
theorem Kc {K : Env -> List ya -> Prop} (hr : ∀ h, HS m L h -> xM P n o env h v) (hd : o.dst = some d) (hn : Nat.blt d n = true) (hk : K ((d, v) :: env) L) : wj P n Q o env m L true K := fun h hs => (hr h hs).step hd hn ⟨fun _ => Le.refl _, L, hs, hk⟩
theorem HM (ho : nth l i = some o) (hr : ∀ h, HS m L h -> xM P n o env h v) (hd : o.dst = some d) (hn : Nat.blt d n = true) (hw : wanted l env o = some true) (hk : aB P n l wild t ((d, v) :: env) m L Q) : aB P n l wild (.step i .kept t) env m L Q :=
 yo ho (Kc hr hd hn hk) hw
end
end Go.Eng
namespace Go.Eng
variable {m : Mp}
theorem HS.congr {L : List ya} {h h' : zZ} (hs : HS m L h) (e : mp h' = mp h) : HS m L h' := ⟨by rw [e]; exact hs.base, by rw [e]; exact hs.inv, hs.out, hs.apart⟩
def Wc (m : Mp) (a : Addr) (v : Value) : Prop := mc m a = some v /\ P0 m a = false
theorem Wc.mono {m' : Mp} (h : Le m m') {a : Addr} {v : Value} (hc : Wc m a v) : Wc m' a v := by
 refine ⟨yA h hc.1, ?_⟩;obtain ⟨h1, h2⟩ := hc;unfold mc at h1;cases hb : m a.block with
 | none => rw [hb] at h1; cases h1
 | some o =>
   unfold P0 at h2 ⊢;rw [hb] at h2;rw [h _ _ hb];exact h2
variable {i : Nat}
theorem Wc.cel {b : Nat} {l : Lv} {e : TypeId} {v : Value} (hi : (cel b l e).inv m) (hv : qZ l i = some v) : Wc m ⟨b, i, none⟩ v :=
 ⟨zy hi hv, by have h1 : m b = some (.cells l.toArray e (0, 0)) := hi; simp [P0, h1]⟩
theorem Wc.own {e sz k c : Nat} {A : Oa} {xs : Lv} {v : Value} (hi : Own m e sz A k c xs) (hv : xs[i]? = some v) : Wc m ((sa A).add i) v := by
 refine ⟨(Own.rd hi).at_ hv, ?_⟩;have hs := (Own.rd hi i v hv).1;obtain ⟨_, _, ⟨rfl, _⟩ | ⟨g, o, cur, rfl, hg, _⟩⟩ := hi
 ·cases hs
 ·have : (sa (some (⟨g, o, none⟩ : Addr))).add i = ⟨g, o + i, none⟩ := by show (⟨g, o, none⟩ : Addr).add i = _; rw [Addr.add_lit]
  rw [this]
  simp [P0, hg]
section
variable {P : Program} {n : Nat} {env : Env} {m : Mp} {L r : List ya} {Q : yd} {K : Env -> List ya -> Prop} {d : Nat} {ty : TypeId} {pos : String} {aft : Array Edge} {gd : Option (Nat × Bool)} {t : TypeId} {x y : Operand} {v : Value}
structure DK (a : Addr) (E : Value -> ya) : Prop where
 wc : ∀ {m : Mp} {u : Value}, (E u).inv m -> Wc m a u
 set : ∀ {m : Mp} {r : List ya} {h : zZ} {u v : Value}, HS m (E u :: r) h -> HS m (E v :: r) (jg h a v)
variable {b : Nat}
theorem Gp {k : Nat} {o : Obj} (hk : (blk b o).dom k = false) : k ≠ b := by rintro rfl; simp [blk] at hk
theorem DK.cel {i : Nat} {l : Lv} {e : TypeId} (hi : i < l.length) : DK ⟨b, i, none⟩ (fun v => cel b (l.set i v) e) where
 wc := fun {m u} h => Wc.cel (l := l.set i u) h (by rw [<- vS]; simp [hi])
 set := fun {m r h u v} hs => by
  refine hs.upd (e' := Eng.cel b (l.set i v) e) (fun k _ hk => je h _ v (Gp hk)) ?_ fun k hk => .inl hk;have := cH (i := i) h v (l := l.set i u) (e := e) (fr := (0, 0)) hs.head;show mp _ b = _;rw [this, List.set_set]
variable {A : Oa} {c i sz : Nat}
theorem DK.own {e k : Nat} {xs : Lv} (hi : i < xs.length) : DK ((sa A).add i) (fun v => own e sz A k c (xs.set i v)) where
 wc := fun {m u} h => Wc.own (xs := xs.set i u) h (by simp [hi])
 set := fun {m r h u v} hs => by
  have ho : Own (mp h) e sz A k c (xs.set i u) := hs.head;obtain ⟨hl, hc, ⟨rfl, rfl⟩ | ⟨g, o, cur, rfl, hg, hcm, hcs, htake⟩⟩ := ho
  ·simp only [List.length_set] at hl;have h1 : k = 0 := by omega
   rw [h1] at hl;omega
  ·have hsa : (sa (some (⟨g, o, none⟩ : Addr))).add i = ⟨g, o + i, none⟩ := by show (⟨g, o, none⟩ : Addr).add i = _; rw [Addr.add_lit]
   rw [hsa];have hg' : mp h g = some (.cells cur.toList.toArray e (0, 0)) := by simpa using hg
   refine hs.upd (e' := Eng.own e sz (some ⟨g, o, none⟩) k c (xs.set i v)) (fun j _ hj => je h _ v ?_) ?_ fun j hj => .inl hj
   ·intro e;subst e;have hj' : qG (some ⟨_, o, none⟩) _ = false := hj
    simp [qG, jO] at hj'
   ·refine ⟨by simpa using hl, hc, .inr ⟨g, o, _, rfl, cH h v hg', hcm, by simpa using hcs, ?_⟩⟩;simp only [List.length_set] at hl;rw [show xs.set i v = (xs.set i u).set i v from by rw [List.set_set], <- htake];simp only [List.drop_set, Nat.add_sub_cancel_left]
    split
    ·omega
    ·rw [List.take_set]
structure S4 (a : Addr) (E : Lv -> ya) (q : Nat) : Prop where
 at_ : ∀ {l : Lv} {i : Nat}, l.length = q -> i < q -> DK (a.add i) (fun v => E (l.set i v))
variable {o q : Nat}
theorem S4.cel {b : Nat} {l : Lv} {e : TypeId} (hi : o + q <= l.length) : S4 ⟨b, o, none⟩ (fun w => cel b (l.take o ++ w ++ l.drop (o + q)) e) q where
 at_ := fun {w i} hw hiq => by
  rw [Addr.add_lit];have := DK.cel (b := b) (i := o + i) (l := l.take o ++ w ++ l.drop (o + q)) (e := e) (by simp; omega)
  have e1 : (fun v => Eng.cel b ((l.take o ++ w ++ l.drop (o + q)).set (o + i) v) e) = (fun v => Eng.cel b (l.take o ++ w.set i v ++ l.drop (o + q)) e) := by
   funext v
   congr 1
   rw [List.append_assoc, List.set_append_right _ _ (by simp; omega), List.set_append_left _ _ (by simp; omega), List.append_assoc]
   congr 3
   simp
   omega
  rw [e1] at this;exact this
theorem S4.own {e sz k c : Nat} {A : Oa} {xs : Lv} (hi : o + q <= xs.length) : S4 ((sa A).add o) (fun w => own e sz A k c (xs.take o ++ w ++ xs.drop (o + q))) q where
 at_ := fun {w i} hw hiq => by
  rw [fF];have := DK.own (e := e) (sz := sz) (k := k) (c := c) (A := A) (i := o + i) (xs := xs.take o ++ w ++ xs.drop (o + q)) (by simp; omega)
  have e1 : (fun v => Eng.own e sz A k c ((xs.take o ++ w ++ xs.drop (o + q)).set (o + i) v)) = (fun v => Eng.own e sz A k c (xs.take o ++ w.set i v ++ xs.drop (o + q))) := by
   funext v
   congr 1
   rw [List.append_assoc, List.set_append_right _ _ (by simp; omega), List.set_append_left _ _ (by simp; omega), List.append_assoc]
   congr 3
   simp
   omega
  rw [e1] at this;exact this
end
inductive al : Lv -> Nat -> Lv -> Lv -> Prop
 | nil {r : Lv} : al r 0 [] r
 | cons {u v : Value} {r vs r' : Lv} (h : al r 0 vs r') : al (u :: r) 0 (v :: vs) (v :: r')
 | there {u : Value} {r vs r' : Lv} {i : Nat} (h : al r i vs r') : al (u :: r) (i + 1) vs (u :: r')
theorem al.eq {l vs l' : Lv} {i : Nat} (h : al l i vs l') : i + vs.length <= l.length /\ l' = l.take i ++ vs ++ l.drop (i + vs.length) := by
 induction h with
 | nil => simp
 | cons h ih =>
   obtain ⟨h1, h2⟩ := ih
   simp at h1 h2 ⊢
   exact ⟨h1, h2⟩
 | there h ih =>
   obtain ⟨h1, h2⟩ := ih;refine ⟨by simp; omega, ?_⟩;rw [h2]
   simp [Nat.add_right_comm]
section
variable {P : Program} {n : Nat} {env : Env} {h : zZ} {m : Mp} {L : List ya} {Q : yd} {ty : TypeId} {pos : String} {aft : Array Edge} {gd : Option (Nat × Bool)} {t : TypeId} {x y : Operand}
variable {b : Nat} {e : TypeId} {l l' : Lv} {o q : Nat} {vs : Lv}
theorem QC {K : Env -> zZ -> Prop} (ht : xb P t = some q) (hx : ev env x = some (.pointer (some ⟨b, o, none⟩))) (hy : ev env y = some (.agg vs.toArray)) (hq : Nat.beq vs.length q = true) (hb : mp h b = some (.cells l.toArray e (0, 0))) (hu : al l o vs l') (h1 : vs.all uI = true) (hk : ∀ h', mp h' b = some (.cells l'.toArray e (0, 0)) -> (∀ j, j ≠ b -> mp h' j = mp h j) -> h'.size = h.size -> K env h') : qM P n Q ⟨none, .store t x y, ty, pos, aft, gd⟩ env h K :=
 qE rfl fun fx dr act ha => by
  have hq' := Nat.eq_of_beq_eq_true hq;obtain ⟨hu1, hu2⟩ := hu.eq;obtain ⟨_, i, hi, hsi⟩ := wF ht;have hst := run_storeCells_at P b o e vs 0 l.toArray (W fx h dr) hb (by simp; omega) (fun v hv => eG (by rw [List.all_eq_true] at h1; exact h1 v hv))
  obtain ⟨h', hw, hsz2, hoth⟩ := aU fx h dr b (l.toArray.toList.take (o + 0) ++ vs ++ l.toArray.toList.drop (o + 0 + vs.length)).toArray;have hg' := setRow_heap (W fx h dr) b l.toArray (l.toArray.toList.take (o + 0) ++ vs ++ l.toArray.toList.drop (o + 0 + vs.length)).toArray e (0, 0) hb;rw [hw] at hg' hst;refine ⟨h', dr, ?_, hk h' ?_ hoth hsz2⟩
  ·have hc : (Value.agg vs.toArray).cells = vs.toArray := rfl;simp only [execOp, Instr.storeAt, ha.eval hx, ha.eval hy, Instr.sureAddr, storeVar, hc]
   simp [sizeOf, typeInfo, hi, hsi, hq', hst]
  ·rw [hu2];exact hg'
theorem jG {K : Env -> List ya -> Prop} {L' : List ya} (ht : xb P t = some q) (hx : ev env x = some (.pointer (some ⟨b, o, none⟩))) (hy : ev env y = some (.agg vs.toArray)) (hq : Nat.beq vs.length q = true) (hT : qB L (cel b l e) (cel b l' e) L') (hu : al l o vs l') (h1 : vs.all uI = true) (hk : K env L') : wj P n Q ⟨none, .store t x y, ty, pos, aft, gd⟩ env m L false K := fun h hs => by
 obtain ⟨r, g1, g2⟩ := hT.split;have h3 := hs.take g1;exact QC ht hx hy hq (show mp h b = some (.cells l.toArray e (0, 0)) from h3.head) hu h1 fun h' k1 k2 k3 => ⟨(fun hf => by cases hf), L', (h3.upd (e' := cel b l' e) (fun k _ hk => k2 k (Gp hk)) k1 fun k hk => .inl hk).untake g2, hk⟩
end
def F1 (L : List ya) : ya where
 dom := fun k => L.any fun e => e.dom k
 inv := fun m => (∀ e ∈ L, e.inv m) /\ L.Pairwise fun (a b : ya) => ∀ k : Nat, a.dom k = true -> b.dom k = false
 loc := fun {m m'} h hi => ⟨fun e he => e.loc (fun k hk => h k (by rw [List.any_eq_true]; exact ⟨e, he, hk⟩)) (hi.1 e he), hi.2⟩
 has := fun {m k} hi hk => by
  rw [List.any_eq_true] at hk;obtain ⟨e, he, hk⟩ := hk;exact e.has (hi.1 e he) hk
variable {L : List ya} {h : zZ} {m : Mp} {r : List ya}
theorem HS.pack_iff : HS m (L ++ r) h ↔ HS m (F1 L :: r) h := by
 constructor
 ·intro ⟨h1, h2, h3, h4⟩;rw [List.pairwise_append] at h4;refine HS.cons_iff.2 ⟨⟨h1, fun e he => h2 e (by simp [he]), fun e he => h3 e (by simp [he]), h4.2.1⟩, ⟨fun e he => h2 e (by simp [he]), h4.1⟩, fun k hk => ?_, fun x hx k hk => ?_⟩
  ·have hk' : (L.any fun e => e.dom k) = true := hk;rw [List.any_eq_true] at hk';obtain ⟨e, he, hk'⟩ := hk';exact h3 e (by simp [he]) k hk'
  ·have hk' : (L.any fun e => e.dom k) = true := hk;rw [List.any_eq_true] at hk';obtain ⟨e, he, hk'⟩ := hk';exact h4.2.2 e he x hx k hk'
 ·intro hs;obtain ⟨h1, h2, h3, h4⟩ := HS.cons_iff.1 hs
  have key : ∀ e ∈ L, ∀ k, e.dom k = true -> (F1 L).dom k = true := fun e he k hk => by
   show (L.any fun e => e.dom k) = true;rw [List.any_eq_true]; exact ⟨e, he, hk⟩
  refine ⟨h1.base, fun e he => ?_, fun e he k hk => ?_, List.pairwise_append.2 ⟨h2.2, h1.apart, fun a ha b hb k hk => h4 b hb k (key a ha k hk)⟩⟩
  ·rcases List.mem_append.1 he with he | he
   ·exact h2.1 e he
   ·exact h1.inv e he
  ·rcases List.mem_append.1 he with he | he
   ·exact h3 k (key e he k hk)
   ·exact h1.out e he k hk
inductive fQ : List ya -> List ya -> List ya -> Prop
 | nil {L : List ya} : fQ L [] L
 | cons {L r es r' : List ya} {e : ya} (h : Tk L e r) (hs : fQ r es r') : fQ L (e :: es) r'
theorem HS.takes {es : List ya} (ht : fQ L es r) : ∀ {m : Mp} {h : zZ}, HS m L h -> HS m (es ++ r) h := by
 induction ht with
 | nil => exact fun hs => hs
 | cons h _ ih =>
   intro m h' hs;have h1 := hs.take h;obtain ⟨a1, a2, a3, a4⟩ := HS.cons_iff.1 h1;have h2 := ih a1;refine HS.cons_iff.2 ⟨h2, a2, a3, fun x hx k hk => ?_⟩
   -- what is taken is of what was there
   have h5 := ih (m := fun j => if (ya.dom _ j) then mp h' j else m j) (h := h') (by
    refine ⟨fun j o hj => ?_, a1.inv, fun x hx j hj => ?_, a1.apart⟩
    ·split at hj
     ·exact hj
     ·exact a1.base j o hj
    ·split
     ·rename_i he
      have := a4 x hx j he;rw [hj] at this;cases this
     ·exact a1.out x hx j hj)
   cases hxk : x.dom k with
   | false => rfl
   | true =>
     have h6 := h5.out x hx k hxk;simp only [hk, if_true] at h6;exact absurd h6 (x.has (h2.inv x hx) hxk)
variable {pre : List ya}
theorem HS.part {m : Mp} {r : List ya} {h : zZ} (hs : HS m (pre ++ r) h) : ∃ m', Le m m' /\ HE r m' /\ HS m' pre h /\ ∀ {h' : zZ} {L' : List ya}, HS m' L' h' -> HS m (L' ++ r) h' := by
 have h0 := HS.pack_iff.1 hs;obtain ⟨h1, h2, h3⟩ := h0.away;refine ⟨_, h2, h3, ?_, fun hc => h0.frame1 hc⟩;have := HS.pack_iff (L := pre) (r := []) (m := Eng.away (F1 pre) (mp h)) (h := h);rw [List.append_nil] at this;exact this.2 h1
def CSP (P : Program) (f : FuncId) (args : Lv) (m : Mp) (pre : List ya) (post ppost : Value -> List ya -> Prop) : Prop :=
 ∀ h, HS m pre h -> CP P f args.toArray h (fX m post) (fX m ppost)
variable {P : Program} {args : Lv} {f : FuncId} {post ppost : Value -> List ya -> Prop}
theorem CS.toP (hc : CS P f args m pre post) : CSP P f args m pre post ppost := fun h hs => CP.of (hc h hs)
theorem CSP.of (hc : CS P f args m pre post) : CSP P f args m pre post ppost := hc.toP
section
variable {P : Program} {n : Nat} {env : Env} {m : Mp} {L r : List ya} {Q : yd} {K : Env -> List ya -> Prop} {d : Nat} {ty : TypeId} {pos : String} {aft : Array Edge} {gd : Option (Nat × Bool)}
theorem fH {f : FuncId} {args : List Operand} {ats : Array TypeId} {vs : Lv} {pre : List ya} {post : Value -> List ya -> Prop} (hcl : z7 P f = true) (hx : evs env args = some vs) (hT : fQ L pre r) (hc : ∀ m', Le m m' -> HE r m' -> CS P f vs m' pre post) (hn : Nat.blt d n = true)
  (hk : ∀ v L', post v L' -> K ((d, v) :: env) (L' ++ r)) : wj P n Q ⟨some d, .call ⟨.value (.func f), args.toArray, ats⟩, ty, pos, aft, gd⟩ env m L false K := fun h hs => by
 obtain ⟨m', h1, h2, h3, h4⟩ := (HS.takes hT hs).part;exact yG hcl hx (hc m' h1 h2 h h3) hn fun v h' ⟨L', g1, g2⟩ => ⟨fun hf => (by cases hf), _, h4 g2, hk v L' g1⟩
end
def VF (m n : Mp) : Mp := fun k => (m k).or (n k)
theorem Lq (m n : Mp) : Le m (VF m n) := fun k o h => by simp [VF, h]
variable {m : Mp}
theorem Lp {n : Mp} (hd : ∀ k, n k ≠ none -> m k = none) : Le n (VF m n) := fun k o h => by
 have := hd k (by rw [h]; exact fun e => by cases e)
 simp [VF, this, h]
def O4 (ns : Mp) : ya where
 dom := fun k => (ns k).isSome
 inv := fun m => Le ns m
 loc := fun {m m'} h hi k o hk => by rw [h k (by simp [hk])]; exact hi k o hk
 has := fun {m k} hi hk => by
  obtain ⟨o, ho⟩ := Option.isSome_iff_exists.1 hk;rw [hi k o ho];exact fun e => by cases e
variable {h : zZ} {r : List ya}
theorem HS.toSnap {e : ya} (hs : HS m (e :: r) h) : ∃ ns, e.inv ns /\ (∀ k, (ns k).isSome = e.dom k) /\ HS m (O4 ns :: r) h := by
 obtain ⟨h1, h2, h3, h4⟩ := HS.cons_iff.1 hs
 have hdom : ∀ k, ((if e.dom k = true then mp h k else none : Option Obj)).isSome = e.dom k := fun k => by
  cases he : e.dom k with
  | false => simp
  | true =>
    simp only [if_true];have := e.has h2 he;cases hm : mp h k with
    | none => exact absurd hm this
    | some o => rfl
 refine ⟨fun k => if e.dom k = true then mp h k else none, e.loc (fun k hk => by simp [hk]) h2, hdom, HS.cons_iff.2 ⟨h1, fun k o hk => ?_, fun k hk => h3 k ?_, fun x hx k hk => h4 x hx k ?_⟩⟩
 ·by_cases he : e.dom k = true
  ·simpa [he] using hk
  ·simp [he] at hk
 ·rw [<- hdom k]; exact hk
 ·rw [<- hdom k]; exact hk
theorem HS.absorb {ns : Mp} (hs : HS m (O4 ns :: r) h) : (∀ k, ns k ≠ none -> m k = none) /\ HS (VF m ns) r h := by
 obtain ⟨h1, h2, h3, h4⟩ := HS.cons_iff.1 hs;refine ⟨fun k hk => h3 k (by cases hn : ns k with | none => exact absurd hn hk | some o => simp [O4, hn]), fun k o hk => ?_, h1.inv, fun x hx k hk => ?_, h1.apart⟩
 ·unfold VF at hk;cases hm : m k with
  | some u => rw [hm] at hk; simp at hk; subst hk; exact h1.base k _ hm
  | none => rw [hm] at hk; simp at hk; exact h2 k o hk
 ·unfold VF;rw [h1.out x hx k hk];cases hn : ns k with
  | none => rfl
  | some o => have := h4 x hx k (by simp [O4, hn]); rw [hk] at this; cases this
theorem HS.weaken {m' : Mp} {L : List ya} (hs : HS m' L h) (hl : Le m m') : HS m L h :=
 ⟨hl.trans hs.base, hs.inv, (fun e he k hk => by
  cases hm : m k with
  | none => rfl
  | some o => (have := hs.out e he k hk; rw [hl k o hm] at this; cases this)), hs.apart⟩
section
variable {P : Program} {n : Nat} {env : Env} {m : Mp} {L r : List ya} {Q : yd}
theorem bu {c : Code} {e : ya} (hT : Tk L e r) (hk : ∀ ns, e.inv ns -> (∀ k, (ns k).isSome = e.dom k) -> (∀ k, ns k ≠ none -> m k = none) -> TS P n c env (VF m ns) r Q) : TS P n c env m L Q := fun h hs => by
 obtain ⟨ns, h1, h2, h3⟩ := (hs.take hT).toSnap;obtain ⟨h4, h5⟩ := h3.absorb;exact hk ns h1 h2 h4 h h5
end
variable {P : Program} {Q : Exit -> Act -> World -> Prop}
theorem Lh {o : Oper} {a : Act} {w : World} {K K' : Act -> World -> Prop} {Q' : Exit -> Act -> World -> Prop} (h : ∀ a w, K a w -> K' a w) (hp : ∀ c a w, Q (.panic c) a w -> Q' (.panic c) a w) (ho : ∀ a w, Q .outgrown a w -> Q' .outgrown a w) (hh : o.wp P a w K Q) : o.wp P a w K' Q' := by
 unfold Oper.wp at *;generalize (execOp a.eval o).run P w = r at *;cases r with
 | ok n w' =>
   cases n <;> simp only [Oper.upon] at hh ⊢ <;>
    first
     | exact h _ _ hh
     | exact Calls.mono hh (fun e w'' he => by cases e <;> first | exact h _ _ he | exact hp _ _ _ he | exact he.imp fun _ he => he.imp fun _ he => ho _ _ he)
     | exact Rows.mono hh (fun _ _ he => h _ _ he)
 | halt x w' => cases x <;> simp only [Oper.upon] at hh ⊢ <;> first | exact hp _ _ _ hh | exact hh
theorem er {ops : Array Oper} {l2 : List Oper} {Q1 : Exit -> Act -> World -> Prop} (hn : ∀ a w, Q1 .normal a w -> wpList P ops Q l2 a w) (he : ∀ e, e ≠ .normal -> ∀ a w, Q1 e a w -> Q e a w) :
  ∀ {l1 : List Oper} {a : Act} {w : World}, wpList P ops Q1 l1 a w -> wpList P ops Q (l1 ++ l2) a w
 | [], a, w, hh => hn a w hh
 | o :: r, a, w, hh => by
   unfold wpList at hh;show wpList P ops Q (o :: (r ++ l2)) a w;unfold wpList
   split
   ·rename_i hw
    simp only [hw, if_true] at hh;rcases hh with hh | ⟨h1, a', w', h2⟩
    ·exact .inl (Lh (fun a w hk => er hn he hk) (fun c a w => he _ vM a w) (fun a w => he _ vM a w) hh)
    ·exact .inr ⟨h1, a', w', he _ vM _ _ h2⟩
   ·rename_i hw
    rw [if_neg hw] at hh;exact er hn he hh
section
variable {P : Program} {n : Nat} {env : Env} {m : Mp} {L : List ya} {Q : yd} {l0 l : List Oper}
end
section
variable {P : Program} {n : Nat} {env : Env} {m : Mp} {L : List ya} {Q : yd}
end
variable {m : Mp} {r : List ya}
theorem GS {e : ya} (h : HE (e :: r) m) : e.inv m := h e vM
theorem Wc.he {b i : Nat} {l : Lv} {e : TypeId} {v : Value} (h : HE (Eng.cel b l e :: r) m) (hv : qZ l i = some v) : Wc m ⟨b, i, none⟩ v := Wc.cel (GS h) hv
section
variable {P : Program} {n : Nat} {env : Env} {m : Mp} {L : List ya} {Q : yd} {ch : List PanicEntry}
end
section
variable {P : Program} {n : Nat} {env : Env} {h : zZ} {m : Mp} {L r : List ya} {Q : yd} {d : Nat} {ty : TypeId} {pos : String} {aft : Array Edge} {gd : Option (Nat × Bool)}
variable {args : List Operand} {ats : Array TypeId} {f : FuncId} {fv : Operand} {p q vs : Lv}
theorem H1 {K : Env -> zZ -> Prop} {R Rp : Value -> zZ -> Prop} (hcl : z7 P f = true) (hf : ev env fv = some (.func (.func f) p.toArray q.toArray)) (hx : evs env args = some vs) (hc : CP P f ((p ++ vs) ++ q).toArray h R Rp) (hn : Nat.blt d n = true) (hk : ∀ v h', R v h' -> K ((d, v) :: env) h') (hp : ∀ v h', Rp v h' -> Q (.panic (pan v)) env h') : qM P n Q ⟨some d, .call ⟨.value fv, args.toArray, ats⟩, ty, pos, aft, gd⟩ env h K := by
 intro fx dr a ha;have h1 := qv ha.toAg hx
 have h2 : (execOp a.eval ⟨some d, .call ⟨.value fv, args.toArray, ats⟩, ty, pos, aft, gd⟩).run P (W fx h dr) = .ok (.enter f ((p ++ vs) ++ q).toArray) (W fx h dr) := by
  simp only [execOp, resolve, h1, ha.toAg.eval hf, Deferred.ofValue, Sem.run_bind, Sem.run_pure, Result.andThen_ok, invoke, List.append_toArray];exact wi hcl _ _
 unfold Oper.wp;rw [h2, Oper.upon_enter];refine (hc fx dr).mono ?_;rintro e w' ⟨v, h', d', rfl, ⟨rfl, hr⟩ | ⟨rfl, hr⟩⟩
 ·exact ⟨_, h', d', ha.put d v (by simpa [Nat.blt_eq] using hn), rfl, hk v h' hr⟩
 ·exact ⟨_, h', d', ha, rfl, hp v h' hr⟩
theorem HT {K : Env -> List ya -> Prop} {pre : List ya} {post ppost : Value -> List ya -> Prop} (hcl : z7 P f = true) (hf : ev env fv = some (.func (.func f) p.toArray q.toArray)) (hx : evs env args = some vs) (hT : fQ L pre r) (hc : ∀ m', Le m m' -> HE r m' -> CSP P f ((p ++ vs) ++ q) m' pre post ppost) (hn : Nat.blt d n = true) (hp : ∀ v L', ppost v L' -> QS Q (.panic (pan v)) env m (L' ++ r)) (hk : ∀ v L', post v L' -> K ((d, v) :: env) (L' ++ r)) : wj P n Q ⟨some d, .call ⟨.value fv, args.toArray, ats⟩, ty, pos, aft, gd⟩ env m L false K := fun h hs => by
 obtain ⟨m', h1, h2, h3, h4⟩ := (HS.takes hT hs).part;exact H1 (R := fX m' post) (Rp := fX m' ppost) hcl hf hx (hc m' h1 h2 h h3) hn (fun v h' ⟨L', g1, g2⟩ => ⟨fun hf => (by cases hf), _, h4 g2, hk v L' g1⟩) fun v h' ⟨L', g1, g2⟩ => hp v L' g1 h' (h4 g2)
end
end Go.Eng
namespace Go.Eng
section
variable {P : Program} {n : Nat} {env : Env} {m : Mp} {L : List ya} {Q : Exit -> Act -> World -> Prop} {x : Fx} {h : zZ} {d : Nat} {a : Act}
def EV (fn : Fn) (q : Lv) : Deferred := { target := .fn fn q.toArray, args := #[] }
theorem Li {id t : Nat} {fn : Fn} {ca : List Operand} {q : Lv} {ty1 ty2 : TypeId} {pos1 pos2 : String} {aft1 aft2 : Array Edge} {ats : Array TypeId} (hq : evs env ca = some q) (hn : Nat.blt t n = true) (hag : kj n x env a)
  (hk : ∀ a', kj n ⟨x.tape, x.os, x.out, EV fn q :: x.ds⟩ ((t, .func fn #[] q.toArray) :: env) a' -> Q .normal a' (W x h d)) :
  (Code.region id [⟨some t, .makeFunc fn #[] ca.toArray, ty1, pos1, aft1, none⟩, ⟨none, .defer ⟨.value (.tmp t), #[], ats⟩, ty2, pos2, aft2, none⟩].toArray false).wp P Q a (W x h d) := by
 refine wp_region_lit ?_;unfold wpList;rw [if_pos (by simp [Region.wanted])];refine .inl ?_;have h1 := qv hag.toAg hq;have hag2 := hag.put t (.func fn #[] q.toArray) (by simpa [Nat.blt_eq] using hn)
 have hr : (execOp a.eval ⟨some t, .makeFunc fn #[] ca.toArray, ty1, pos1, aft1, none⟩).run P (W x h d) = .ok (.value (.func fn #[] q.toArray)) (W x h d) := by
  simp [execOp, h1, Instr.makeFunc]
 unfold Oper.wp;rw [hr, Oper.upon_value];show wpList P _ Q [_] (a.put (some t) _) _;unfold wpList;rw [if_pos (by simp [Region.wanted])];refine .inl ?_
 have hr2 : (execOp (a.put (some t) (.func fn #[] q.toArray)).eval ⟨none, .defer ⟨.value (.tmp t), #[], ats⟩, ty2, pos2, aft2, none⟩).run P (W x h d) = .ok (.defer (EV fn q)) (W x h d) := by
  have h2 : (a.put (some t) (.func fn #[] q.toArray)).eval (.tmp t) = .func fn #[] q.toArray := hag2.toAg.eval (by simp [ev, lk])
  simp [execOp, resolve, h2, Deferred.ofValue, EV]
 unfold Oper.wp;rw [hr2, Oper.upon_defer];show Q .normal _ _;refine hk _ ⟨?_, ?_⟩
 ·exact ⟨hag2.toAg.1, hag2.toAg.2⟩
 ·show EV fn q :: (a.put (some t) (.func fn #[] q.toArray)).defers = EV fn q :: x.ds;rw [hag2.defers]
theorem jS {ops : Array Oper} {cs : List Frame} {QS : Exit -> Act -> List Frame -> World -> Prop} (hno : ∀ a w, ¬ QS .outgrown a cs w) :
  ∀ (l : List Oper) (k : Nat) (a : Act) (w : World), (∀ j, j < l.length -> l[j]? = ops[k + j]?) -> wpList P ops (fun e a w => QS e a cs w) l a w -> wpOpsS P ops QS (List.range' k l.length) a cs w
 | [], k, a, w, _, hh => hh
 | o :: r, k, a, w, hl, hh => by
   have h0 := hl 0 vM;simp only [List.getElem?_cons_zero, Nat.add_zero] at h0
   have hr : ∀ j, j < r.length -> r[j]? = ops[k + 1 + j]? := fun j hj => by
    have := hl (j + 1) (by simp; omega);rw [List.getElem?_cons_succ] at this;rw [this]
    congr 1
    omega
   simp only [List.length_cons, List.range'_succ];unfold wpOpsS;simp only [<- h0];unfold wpList at hh
   split
   ·rename_i hw
    simp only [hw, if_true] at hh;rcases hh with hh | ⟨_, a', w', h2⟩
    ·unfold Oper.wp at hh;generalize (execOp a.eval o).run P w = res at hh ⊢
     have key : ∀ res, o.upon P a (wpList P ops (fun e a w => QS e a cs w) r) (fun e a w => QS e a cs w) res -> o.upon P a (fun a' w' => wpOpsS P ops QS (List.range' (k + 1) r.length) a' cs w') (fun e a' w' => QS e a' cs w') res := by
      intro res hh;cases res with
      | ok nx w' =>
        cases nx <;> simp only [Oper.upon] at hh ⊢ <;>
         first
          | exact jS hno r (k + 1) _ _ hr hh
          | exact Calls.mono hh (fun e w'' he => by cases e <;> first | exact jS hno r (k + 1) _ _ hr he | exact he)
          | exact Rows.mono hh (fun _ _ he => jS hno r (k + 1) _ _ hr he)
      | halt y w' => cases y <;> simp only [Oper.upon] at hh ⊢ <;> exact hh
     cases res with
     | ok nx w' =>
       cases nx <;> first | (simp only [Oper.upon] at hh; done) | exact key _ hh | exact hh.elim
     | halt y w' => exact key _ hh
    ·exact absurd h2 (hno _ _)
   ·rename_i hw
    rw [if_neg hw] at hh;exact jS hno r (k + 1) _ _ hr hh
inductive Rec : FrameMode -> Value -> FrameMode -> Prop
 | ret : Rec .returning .nilIface .returning
 | pan (v : Value) (older : List PanicEntry) : Rec (.panicking ({ v, recovered := false, goexit := false } :: older)) v (.panicking ({ v, recovered := true } :: older))
end
theorem zJ.app {L L' M : List ya} (h : zJ L M) : zJ (L' ++ L) M := by
 induction L' with
 | nil => exact h
 | cons e r ih => exact fun m hp hs => ih m hp hs.tail
end Go.Eng
namespace Go.Eng
def YB (P : Program) (ops : Array Oper) (m : Mp) (o : Oper) (v : Value) (a : Act) : Prop :=
 (Region.wanted o (yielded ops a.tmps) = true /\ ∀ w', Le m (mp w'.heap) -> (execOp a.eval o).run P w' = .ok (.value v) w') \/
 (Region.wanted o (yielded ops a.tmps) = false /\ v = undef)
def opB (P : Program) (ops : Array Oper) (m : Mp) (Q : Exit -> Act -> World -> Prop) (i : Nat) (K : Act -> World -> Prop) (a : Act) (w : World) : Prop :=
 match ops[i]? with
 | none => K a w
 | some o => if Region.wanted o (yielded ops a.tmps) then o.wp P a w (fun a' w' => Le m (mp w'.heap) /\ K a' w') Q else K (a.put o.dst undef) w
def Ql (P : Program) (ops : Array Oper) (m : Mp) (Q : Exit -> Act -> World -> Prop) : Nat -> Array Bool -> Act -> World -> Prop
 | 0, listed, a, w => Region.ready .any ops listed = [] /\ Q .normal a w
 | fuel + 1, listed, a, w =>
   (Region.ready .any ops listed = [] -> Q .normal a w) /\
   ∀ i ∈ Region.ready .any ops listed, opB P ops m Q i (Ql P ops m Q fuel (listed.setIfInBounds i true)) a w
section
variable {P : Program} {ops : Array Oper} {m : Mp} {Q : Exit -> Act -> World -> Prop}
variable {K K' : Act -> World -> Prop} {a : Act} {i : Nat} {w : World}
theorem Un (h : ∀ a w, Le m (mp w.heap) -> K a w -> K' a w) (hle : Le m (mp w.heap)) (hh : opB P ops m Q i K a w) : opB P ops m Q i K' a w := by
 unfold opB at *
 split
 ·rename_i ho; simp only [ho] at hh; exact h _ _ hle hh
 ·rename_i o ho
  simp only [ho] at hh
  split
  ·rename_i hw; simp only [hw, if_true] at hh; exact Oper.wp_mono (fun _ _ k => ⟨k.1, h _ _ k.1 k.2⟩) hh
  ·rename_i hw; simp only [hw] at hh; exact h _ _ hle hh
theorem VA (h : ∀ a w, K a w -> K' a w) (hh : opB P ops m Q i K a w) : wpOp P ops Q i K' a w := by
 unfold opB at hh;unfold wpOp
 split
 ·rename_i ho; simp only [ho] at hh; exact h _ _ hh
 ·rename_i o ho
  simp only [ho] at hh
  split
  ·rename_i hw; simp only [hw, if_true] at hh; exact .inl (Oper.wp_mono (fun _ _ k => h _ _ k.2) hh)
  ·rename_i hw; simp only [hw] at hh; exact h _ _ hh
theorem fU : ∀ (fuel : Nat) (listed : Array Bool) (a : Act) (w : World), Ql P ops m Q fuel listed a w -> wpAny P .any ops Q fuel listed a w
 | 0, _, _, _, h => h
 | fuel + 1, _, _, _, h => ⟨h.1, fun i hi => VA (fun a w => fU fuel _ a w) (h.2 i hi)⟩
variable {o : Oper}
theorem YB.opB {v : Value} (hi : ops[i]? = some o) (hy : YB P ops m o v a) (hle : Le m (mp w.heap)) (h : K (a.put o.dst v) w) : opB P ops m Q i K a w := by
 unfold Eng.opB;simp only [hi];rcases hy with ⟨hw, hv⟩ | ⟨hw, rfl⟩
 ·simp only [hw, if_true, Oper.wp, hv w hle, Oper.upon]; exact ⟨hle, h⟩
 ·simp only [hw, Bool.false_eq_true, if_false]; exact h
theorem YB.of_same {v : Value} {a' : Act} (hy : YB P ops m o v a) (he : execOp a'.eval o = execOp a.eval o) (hw : Region.wanted o (yielded ops a'.tmps) = Region.wanted o (yielded ops a.tmps)) : YB P ops m o v a' := by
 unfold YB at *;rw [he, hw];exact hy
variable {oi : Oper}
theorem PT {j : Nat} {oj : Oper} {v : Value} (hj : ops[j]? = some oj) (hap : oi.apart ops oj = true) (hsi : ∀ cs b, oi.op ≠ .select cs b) (hsj : ∀ cs b, oj.op ≠ .select cs b) (hQ : ∀ c a w, Q (.panic c) (a.put oi.dst v) w -> Q (.panic c) a w) (hy : YB P ops m oi v a) (h : opB P ops m Q j K (a.put oi.dst v) w) : opB P ops m Q j (fun a' w' => YB P ops m oi v a' /\ K (a'.put oi.dst v) w') a w := by
 obtain ⟨h1, h2, h3⟩ := Oper.apart_spec hap;have keep : ∀ (a : Act), YB P ops m oi v a -> ∀ u, YB P ops m oi v (a.put oj.dst u) := fun a hy u => hy.of_same (execOp_put oi hsi a oj.dst u h3) (wanted_put oi a oj.dst u h3);have keepD : ∀ d, YB P ops m oi v { a with defers := d :: a.defers } := fun d => hy.of_same rfl rfl;unfold opB at *;simp only [hj] at *;rw [wanted_put oj a oi.dst v h1] at h
 split
 ·rename_i hw
  simp only [hw, if_true] at h;unfold Oper.wp at *;rw [execOp_put oj hsj a oi.dst v h1] at h;generalize (execOp a.eval oj).run P w = r at *;cases r with
  | ok n w' =>
    cases n <;> simp only [Oper.upon] at h ⊢
    case value u => exact ⟨h.1, keep a hy u, by rw [<- Act.put_comm a v u h2]; exact h.2⟩
    case skip => exact ⟨h.1, keep a hy _, by rw [<- Act.put_comm a v undef h2]; exact h.2⟩
    case defer d =>
     refine ⟨h.1, keep _ (keepD d) _, ?_⟩;have := h.2;rw [<- Act.put_comm _ v undef h2, <- Act.put_defers];exact this
    case enter f args =>
     refine Calls.mono h fun e w'' he => ?_;cases e with
     | returned u => exact ⟨he.1, keep a hy u, by rw [<- Act.put_comm a v u h2]; exact he.2⟩
     | panicked c => exact hQ _ _ _ he
     | outgrown => exact he
    case row row args => exact Rows.mono h fun u w'' he => ⟨he.1, keep a hy u, by rw [<- Act.put_comm a v u h2]; exact he.2⟩
  | halt x w' =>
    cases x <;> simp only [Oper.upon] at h ⊢
    case panic u => exact hQ _ _ _ h
 ·rename_i hw
  simp only [hw] at h;exact ⟨keep a hy _, by rw [<- Act.put_comm a v undef h2]; exact h⟩
theorem J8 {l : List Oper} {v : Value} (hops : ops = l.toArray) (hi : ops[i]? = some oi) (hsel : ∀ (j : Nat) (o : Oper) cs b, ops[j]? = some o -> o.op ≠ .select cs b) (hQ : ∀ c a w, Q (.panic c) (a.put oi.dst v) w -> Q (.panic c) a w) :
  ∀ (fuel : Nat) (listed : Array Bool) (a : Act) (w : World), Le m (mp w.heap) ->
   (∀ j oj, ops[j]? = some oj -> j ≠ i -> listed.getD j true = false -> j ∉ vG l i -> oi.apart ops oj = true) ->
   (∀ k, listed.getD k false = true -> k ∉ vG l i) ->
   i ∈ Region.ready .any ops listed -> YB P ops m oi v a ->
   Ql P ops m Q fuel (listed.setIfInBounds i true) (a.put oi.dst v) w -> Ql P ops m Q (fuel + 1) listed a w := by
 intro fuel
 induction fuel with
 | zero =>
   intro listed a w hle _ _ hr hy H;refine ⟨fun h => (by rw [h] at hr; cases hr), fun j hj => ?_⟩;by_cases hji : j = i
   ·subst hji; exact hy.opB hi hle H
   ·have := ready_mono hj hji;rw [H.1] at this;cases this
 | succ fuel ih =>
   intro listed a w hle hfree hinv hr hy H;refine ⟨fun h => (by rw [h] at hr; cases hr), fun j hj => ?_⟩;by_cases hji : j = i
   ·subst hji; exact hy.opB hi hle H
   ·have h1 := H.2 j (ready_mono hj hji);obtain ⟨hjun, oj, hoj, hall⟩ := mem_ready.1 hj
    have hnot : j ∉ vG l i := fun hmem => by
     obtain ⟨o, ho, e, he, hb, h3⟩ := d8 hmem;rw [<- hops, hoj] at ho
     injection ho with ho
     subst ho;have h1 := hall e he hb;rcases h3 with heq | h3
     ·have h0 := (mem_ready.1 hr).1;rw [heq] at h1;rcases Nat.lt_or_ge i listed.size with h' | h'
      ·simp [h'] at h0 h1; rw [h0] at h1; cases h1
      ·simp [Array.getElem?_eq_none h'] at h1
     ·exact hinv _ h1 h3
    have hf1 := hfree j oj hoj hji hjun hnot;have h2 := PT hoj hf1 (fun cs b => hsel i oi cs b hi) (fun cs b => hsel j oj cs b hoj) hQ hy h1
    have hfree' : ∀ k ok, ops[k]? = some ok -> k ≠ i -> (listed.setIfInBounds j true).getD k true = false -> k ∉ vG l i -> oi.apart ops ok = true := fun k ok hk hki hun hno => by
     refine hfree k ok hk hki ?_ hno;by_cases hjk : j = k
     ·subst hjk; exact hjun
     ·rw [getD_set_ne true hjk] at hun; exact hun
    have hinv' : ∀ k, (listed.setIfInBounds j true).getD k false = true -> k ∉ vG l i := fun k hk => by
     by_cases hjk : j = k
     ·subst hjk; exact hnot
     ·rw [getD_set_ne false hjk] at hk; exact hinv k hk
    refine Un (fun a' w' hle' h3 => ih (listed.setIfInBounds j true) a' w' hle' hfree' hinv' (ready_mono hr (Ne.symm hji)) h3.1 ?_) hle h2;rw [Array.setIfInBounds_comm _ _ hji];exact h3.2
end
inductive OB where
 | done
 | step (i : Nat) (q : Bool) (t : OB)
 | fork (s t : OB)
def uT : OB -> List Nat
 | .done => []
 | .step i _ _ => [i]
 | .fork s t => uT s ++ uT t
def TT (l : List Oper) (listed : Array Bool) (i : Nat) (oi : Oper) : Bool :=
 (fun rs => (List.range l.length).all fun j => j == i || rs.contains j || listed.getD j true || match nth l j with
  | none => true
  | some oj => oi.apart l.toArray oj) (vG l i) &&
 (vG l i).all fun k => !listed.getD k false
def gp (l : List Oper) : OB -> Bool -> Nat -> Array Bool -> Bool
 | .done, b, n, listed => !b && Nat.beq n 0 && (Region.ready .any l.toArray listed).isEmpty
 | .step i q t, b, n, listed => match n with
   | 0 => false
   | k + 1 =>
     (match nth l i with
      | none => false
      | some o => if q then !b && (Region.ready .any l.toArray listed).contains i && TT l listed i o else b || Region.ready .any l.toArray listed == [i]) &&
     gp l t false k (listed.setIfInBounds i true)
 | .fork s t, b, n, listed => (b || (!(Region.ready .any l.toArray listed).isEmpty && (Region.ready .any l.toArray listed).all (uT s ++ uT t).contains)) && gp l s true n listed && gp l t true n listed
def bZ (P : Program) (l : List Oper) (m : Mp) (Q : Exit -> Act -> World -> Prop) : OB -> Act -> World -> Prop
 | .done, a, w => Q .normal a w
 | .step i q t, a, w =>
   if q then ∃ o v, nth l i = some o /\ YB P l.toArray m o v a /\ bZ P l m Q t (a.put o.dst v) w
   else opB P l.toArray m Q i (bZ P l m Q t) a w
 | .fork s t, a, w => bZ P l m Q s a w /\ bZ P l m Q t a w
theorem W6 {P : Program} {l : List Oper} {m : Mp} {Q : Exit -> Act -> World -> Prop} (hsel : bK l = true)
  (hQ : ∀ c a a' w, a'.tmps.size = a.tmps.size -> a'.defers = a.defers -> Q (.panic c) a' w -> Q (.panic c) a w) :
  ∀ (t : OB) (n : Nat) (listed : Array Bool) (a : Act) (w : World), Le m (mp w.heap) -> bZ P l m Q t a w ->
   (gp l t false n listed = true -> Ql P l.toArray m Q n listed a w) /\
   (gp l t true n listed = true -> uT t ≠ [] /\ 0 < n /\ ∀ i ∈ uT t, opB P l.toArray m Q i (Ql P l.toArray m Q (n - 1) (listed.setIfInBounds i true)) a w) := by
 intro t
 induction t with
 | done =>
   intro n listed a w _ hs;refine ⟨fun hc => ?_, fun hc => by simp [gp] at hc⟩;simp only [gp, Bool.not_false, Bool.true_and, Bool.and_eq_true, List.isEmpty_iff] at hc;have hn := Nat.eq_of_beq_eq_true hc.1;subst hn;exact ⟨hc.2, hs⟩
 | step i q t ih =>
   intro n listed a w hle hs;cases n with
   | zero => exact ⟨fun hc => by simp [gp] at hc, fun hc => by simp [gp] at hc⟩
   | succ k =>
     unfold bZ at hs;cases hk : q with
     | true =>
       rw [if_pos hk] at hs;obtain ⟨o, v, ho, hy, hs⟩ := hs;refine ⟨fun hc => ?_, fun hc => ?_⟩
       ·unfold gp at hc;rw [Bool.and_eq_true] at hc;obtain ⟨hc, hc'⟩ := hc;rw [ho] at hc;simp only [if_true, Bool.not_false, Bool.true_and, Bool.and_eq_true] at hc;obtain ⟨hr, hf⟩ := hc;have hi : l.toArray[i]? = some o := by rw [qr]; exact ho
        unfold TT at hf;rw [Bool.and_eq_true] at hf;obtain ⟨hf, hf2⟩ := hf;refine J8 rfl hi (eH hsel) (fun c a w h => hQ c a _ w ?_ ?_ h) k listed a w hle ?_ ?_ (by simpa using hr) hy ((ih k _ _ _ hle hs).1 hc')
        ·cases o.dst <;> simp [Act.put]
        ·cases o.dst <;> simp [Act.put]
        ·intro j oj hj hji hun hno;rw [List.all_eq_true] at hf
         have hlt : j < l.length := by
          have := (Array.getElem?_eq_some_iff.1 hj).1
          simpa using this
         have := hf j (List.mem_range.2 hlt);rw [qr] at hj;rw [hj] at this
         have hno' : (vG l i).contains j = false := by
          cases hcn : (vG l i).contains j with
          | false => rfl
          | true => exact absurd (List.contains_iff_mem.1 hcn) hno
         simpa only [hun, hno', beq_eq_false_iff_ne.2 hji, Bool.false_or] using this
        ·intro k hk hmem;rw [List.all_eq_true] at hf2;have := hf2 k hmem;rw [hk] at this;cases this
       ·unfold gp at hc;rw [Bool.and_eq_true] at hc;rw [ho] at hc
        simp at hc
     | false =>
       rw [if_neg (by rw [hk]; simp)] at hs
       have hb : ∀ b, gp l (.step i false t) b (k + 1) listed = true -> opB P l.toArray m Q i (Ql P l.toArray m Q k (listed.setIfInBounds i true)) a w := fun b hc => by
        unfold gp at hc;rw [Bool.and_eq_true] at hc;exact Un (fun a w hle' hs => (ih k _ a w hle' hs).1 hc.2) hle hs
       refine ⟨fun hc => ?_, fun hc => ⟨by simp [uT], Nat.succ_pos _, fun j hj => ?_⟩⟩
       ·have hrd : Region.ready .any l.toArray listed = [i] := by
         unfold gp at hc;rw [Bool.and_eq_true] at hc;have hc1 := hc.1
         split at hc1
         ·cases hc1
         ·simp only [Bool.false_eq_true, if_false, Bool.false_or] at hc1
          simpa using hc1
        refine ⟨(fun h => by rw [hrd] at h; cases h), fun j hj => ?_⟩;rw [hrd] at hj;have : j = i := by simpa using hj
        subst this;exact hb _ hc
       ·have : j = i := by simpa [uT] using hj
        subst this;exact hb _ hc
 | fork s t ih1 ih2 =>
   intro n listed a w hle hs;unfold bZ at hs
   have key : ∀ b, gp l (.fork s t) b n listed = true -> uT (.fork s t) ≠ [] /\ 0 < n /\ ∀ i ∈ uT (.fork s t), opB P l.toArray m Q i (Ql P l.toArray m Q (n - 1) (listed.setIfInBounds i true)) a w := fun b hc => by
    unfold gp at hc;simp only [Bool.and_eq_true] at hc;obtain ⟨h1, h0, h2⟩ := (ih1 n listed a w hle hs.1).2 hc.1.2;obtain ⟨_, _, h3⟩ := (ih2 n listed a w hle hs.2).2 hc.2;refine ⟨by simp [uT, h1], h0, fun i hi => ?_⟩;simp only [uT, List.mem_append] at hi;rcases hi with hi | hi
    ·exact h2 i hi
    ·exact h3 i hi
   refine ⟨fun hc => ?_, key true⟩;obtain ⟨k1, k2, k3⟩ := key false hc;unfold gp at hc;simp only [Bool.and_eq_true, Bool.false_or] at hc;have hall := hc.1.1.2;have hne := hc.1.1.1;rw [List.all_eq_true] at hall;obtain ⟨k, rfl⟩ : ∃ k, n = k + 1 := ⟨n - 1, by omega⟩;refine ⟨fun hnil => (by rw [hnil] at hne; cases hne), fun i hi => ?_⟩;have := hall i hi;exact k3 i (by simpa [uT] using this)
def JT (l : List Oper) (t : OB) : Bool := bK l && gp l t false l.length (Array.replicate l.length false)
def Z7 (P : Program) (n : Nat) (l : List Oper) (t : OB) (env : Env) (m : Mp) (L : List ya) (Q : yd) : Prop :=
 ∀ h, HS m L h -> ∀ (x : Fx) (d : Nat) (a : Act), kj n x env a -> bZ P l m (cL n x Q) t a (W x h d)
section
variable {P : Program} {n : Nat} {env : Env} {m : Mp} {L : List ya} {Q : yd} {l : List Oper} {s t : OB} {o : Oper} {v : Value} {d i : Nat}
theorem Ot {id : Nat} (t : OB) (hm : P.follows .mixedOrders = true) (hck : JT l t = true) (hQ : ∀ c env env' h, Q (.panic c) env h -> Q (.panic c) env' h) (hv : Z7 P n l t env m L Q) : TS P n (.region id l.toArray true) env m L Q := by
 intro h hs x d a hag;unfold JT at hck;simp only [Bool.and_eq_true] at hck;obtain ⟨h1, h3⟩ := hck;have hs' := hv h hs x (d + 1) a hag
 have := (W6 h1 (Q := cL n x Q) (by
  rintro c a a' w hsz hdf ⟨env, h, d, hag, rfl, hq⟩
  refine ⟨[], h, d, ⟨⟨by rw [<- hsz]; exact hag.size, fun t v ht => by simp [lk] at ht⟩, by rw [<- hdf]; exact hag.defers⟩, rfl, hQ _ _ _ _ hq⟩) t l.length _ a _ hs.base hs').1 h3
 refine wp_region_any hm (fU (m := m) _ _ _ _ ?_);rw [List.size_toArray];exact this
theorem SK (hq : QS Q .normal env m L) : Z7 P n l .done env m L Q := fun h hs _ d _ hag => ⟨env, h, d, hag, rfl, hq h hs⟩
theorem On (h1 : Z7 P n l s env m L Q) (h2 : Z7 P n l t env m L Q) : Z7 P n l (.fork s t) env m L Q := fun h hs x d a hag => ⟨h1 h hs x d a hag, h2 h hs x d a hag⟩
theorem Qq (ho : nth l i = some o) (hr : zP P n o env v) (hd : o.dst = some d) (hn : Nat.blt d n = true) (hw : wanted l env o = some true) (hk : Z7 P n l t ((d, v) :: env) m L Q) : Z7 P n l (.step i true t) env m L Q := by
 intro h hs x dr a hag;unfold bZ;rw [if_pos rfl];refine ⟨o, v, ho, .inl ⟨yM hag.toAg hw, fun w' _ => hr a w' hag⟩, ?_⟩;rw [hd];exact hk h hs x dr _ (hag.put d v (by simpa [Nat.blt_eq] using hn))
theorem Om (ho : nth l i = some o) (hr : ∀ h, HS m [] h -> xM P n o env h v) (hd : o.dst = some d) (hn : Nat.blt d n = true) (hw : wanted l env o = some true) (hk : Z7 P n l t ((d, v) :: env) m L Q) : Z7 P n l (.step i true t) env m L Q := by
 intro h hs x dr a hag;unfold bZ;rw [if_pos rfl];refine ⟨o, v, ho, .inl ⟨yM hag.toAg hw, fun w' hl => hr w'.heap (HS.nil hl) a w' hag (Le.refl _)⟩, ?_⟩;rw [hd];exact hk h hs x dr _ (hag.put d v (by simpa [Nat.blt_eq] using hn))
theorem Ol (ho : nth l i = some o) (hw : wanted l env o = some false) (hd : o.dst = some d) (hn : Nat.blt d n = true) (hk : Z7 P n l t ((d, undef) :: env) m L Q) : Z7 P n l (.step i true t) env m L Q := by
 intro h hs x dr a hag;unfold bZ;rw [if_pos rfl];refine ⟨o, undef, ho, .inr ⟨yM hag.toAg hw, rfl⟩, ?_⟩;rw [hd];exact hk h hs x dr _ (hag.put d undef (by simpa [Nat.blt_eq] using hn))
theorem zO {kept : Bool} (ho : nth l i = some o) (hst : wj P n Q o env m L kept fun env' L' => Z7 P n l t env' m L' Q) (hw : wanted l env o = some true) : Z7 P n l (.step i false t) env m L Q := by
 intro h hs x dr a hag;unfold bZ;rw [if_neg vM];unfold opB;rw [qr, ho];simp only;rw [if_pos (yM hag.toAg hw)];refine Oper.wp_mono ?_ (hst h hs x dr a hag);rintro a' w' ⟨env', h', d', hag', rfl, _, L', hh, hv⟩;exact ⟨hh.base, hv h' hh x d' a' hag'⟩
end
theorem wJ {P : Program} {rs : List ResultVar} {env : Env} {m m2 : Mp} {L : List ya} {post : Value -> List ya -> Prop} (hl : Le m m2) (vs : Lv) (hv : Yy P env L rs vs) (L' : List ya) (hp : zJ L L') (hq : post (VG vs) L') : QS (Q2 P rs (fX m post)) .ret env m2 L :=
 fun h hs => ⟨vs, hv.ok hs, L', hq, (hp m2 h hs).weaken hl⟩
section
variable {P : Program} {n : Nat} {env : Env} {m : Mp} {L : List ya} {Q : yd} {β : Type}
def QY (m : Mp) (S : Nat -> Oa -> Nat -> β -> Env) (LL : Nat -> Oa -> Nat -> β -> List ya) (F : Nat -> β -> Prop) (μ : Nat -> Nat) (k : Nat) (Q : yd) : yd := vX m (fun y : Nat × Oa × Nat × β => S y.1 y.2.1 y.2.2.1 y.2.2.2) (fun y => LL y.1 y.2.1 y.2.2.1 y.2.2.2) (fun y => F y.1 y.2.2.2) (fun y => μ y.1) k Q
variable {F : Nat -> β -> Prop} {LL : Nat -> Oa -> Nat -> β -> List ya} {S : Nat -> Oa -> Nat -> β -> Env} {m0 : Mp} {μ : Nat -> Nat}
theorem xN {k i : Nat} (hq : QS Q (.exit i) env m L) : QS (QY m0 S LL F μ k Q) (.exit i) env m L := hq
theorem vA {k : Nat} (hl : Le m0 m) (j : Nat) (A : Oa) (c : Nat) (b : β) (hs : dF (S j A c b) env) (hp : zJ L (LL j A c b)) (hF : F j b) (hk : μ j < k) : QS (QY m0 S LL F μ k Q) .normal env m L :=
 fun h hh => ⟨(j, A, c, b), hs, ⟨hF, (hp m h hh).weaken hl⟩, hk⟩
theorem jm {c : Code} (S : Nat -> Oa -> Nat -> β -> Env) (LL : Nat -> Oa -> Nat -> β -> List ya) (F : Nat -> β -> Prop) (μ : Nat -> Nat) (j : Nat) (A : Oa) (cc : Nat) (b : β) (hs : dF (S j A cc b) env) (hp : zJ L (LL j A cc b)) (hF : F j b) (hr : ∀ (j : Nat) (A : Oa) (cc : Nat) (b : β), F j b -> TS P n c (S j A cc b) m (LL j A cc b) (QY m S LL F μ (μ j) Q)) : TS P n (.loop c) env m L Q :=
 zN (fun y : Nat × Oa × Nat × β => S y.1 y.2.1 y.2.2.1 y.2.2.2) (fun y => LL y.1 y.2.1 y.2.2.1 y.2.2.2) (fun y => F y.1 y.2.2.2) (fun y => μ y.1) (j, A, cc, b) hs hp hF fun y hF => hr y.1 y.2.1 y.2.2.1 y.2.2.2 hF
end
section
variable {P : Program} {n : Nat} {env : Env} {dst : Option Tmp} {ty : TypeId} {pos : String} {aft : Array Edge} {gd : Option (Nat × Bool)} {t yt u : TypeId} {x : Operand} {v : Value}
end
end Go.Eng
namespace Go.Eng
section
variable {P : Program} {n : Nat} {env : Env} {h : zZ} {Q : yd}
end
section
variable {P : Program} {n : Nat} {env : Env} {m : Mp} {L : List ya} {Q : yd} {α : Type} {l : Nat} {S : α -> Env} {LL : α -> List ya} {F : α -> Prop} {μ : α -> Nat} {k : Option Nat}
end
section
variable {P : Program} {n : Nat} {env : Env} {m : Mp} {L : List ya} {Q : yd} {l : List Oper} {o : Oper} {v : Value} {d i : Nat}
end
end Go.Eng
namespace Go.Eng
open Go.ChangeShapes Go.WideShapes Go.ChangeAt Go.RowKit
def jI {H : Type} (P : Program) (w : World) (t : TypeId) (x : DataW H × List MemPlace) : Prop := w.noneFrozen x.2 /\ ∀ k ∈ DataW.weights P t x.1, k <= reachBytes
section
variable {H : Type} {enc : TypeId × Value -> H} {P : Program} {w : World} {base : Nat} {spare : Nat -> Bool} {held : Bool}
theorem gJ {e : TypeId} : ∀ {l : List (DataW H)} {d : DataW H} {k : Nat}, d ∈ l -> k ∈ DataW.weights P e d -> k ∈ DataW.weightsAll P e l
 | [], _, _, h, _ => by cases h
 | a :: r, d, k, h, hk => by
   simp only [DataW.weightsAll, List.mem_append];rcases List.mem_cons.1 h with rfl | h
   ·exact .inl hk
   ·exact .inr (gJ h hk)
variable {cs : Lv} {fuel : Nat} {x : DataW H × List MemPlace}
theorem qH {t i ft off : Nat} (hf : fld P t i = some (ft, off)) (h : DataW.trod enc P w base spare held fuel t cs = some x) (hg : jI P w t x) :
  ∃ n y, fuel = n + 1 /\ cs.length = P.cellsOf t /\ DataW.trod enc P w base spare held n ft ((cs.drop off).take (P.cellsOf ft)) = some y /\ jI P w ft y := by
 unfold fld at hf
 split at hf
 ·rename_i fs hu
  obtain ⟨xs, n, rfl, rfl, hl, hlen, hx⟩ := DataW.trod_struct hu h;cases hfi : fs[i]? with
  | none => rw [hfi] at hf; cases hf
  | some f =>
    rw [hfi] at hf;simp only [Option.map_some, Option.some.injEq, Prod.mk.injEq] at hf;obtain ⟨rfl, rfl⟩ := hf;have h1 := hx i f hfi;have hi : i < xs.length := by rw [hlen]; exact (Array.getElem?_eq_some_iff.1 hfi).1
    rw [List.getElem?_eq_getElem hi] at h1;refine ⟨n, _, rfl, hl, h1, fun b o hm => hg.1 b o (List.mem_flatMap.2 ⟨_, List.getElem_mem hi, hm⟩), fun k hk => hg.2 k ?_⟩;simp only [DataW.weights, hu];exact DataW.weights_mem_each (j := i) (t := f.type) (by simp [hfi]) (by simp [hi]) k hk
 ·cases hf
variable {t : Nat}
theorem Kt (ht : xz P t = true) (h : DataW.trod enc P w base spare held fuel t cs = some x) (hg : jI P w t x) : ∃ l : Bt, cs = [.string (bs l)] /\ l.length <= 140737488355328 := by
 obtain ⟨s, h1, h3, h2⟩ := DataW.trod_string (Zt ht) h;refine ⟨s.data.toList, by rw [vK]; exact h1, ?_⟩;have := hg.2 s.data.toList.length (by rw [h3]; simp [DataW.weights]);unfold reachBytes at this;omega
theorem HH {e sz xn : Nat} (ht : kr P t e = true) (hc : P.cellsOf e = sz) (hb : P.bytesOf e = xn) (h : DataW.trod enc P w base spare held fuel t cs = some x) (hg : jI P w t x) :
  ∃ (A : Oa) (len cap : Nat) (vs : Lv) (n : Nat), cs = [.slice A len cap] /\ (0 < len -> A.isSome = true) /\ len * xn <= reachBytes /\ (∀ i u, vs[i]? = some u -> Wc (mp w.heap) ((sa A).add i) u) /\ vs.length = len * sz /\ n <= fuel /\
   ∀ i, i < len -> ∃ y, DataW.trod enc P w base spare held n e ((vs.drop (i * sz)).take sz) = some y /\ jI P w e y := by
 rcases DataW.trod_slice (vi ht) h with ⟨hcs, _⟩ | ⟨a, len, cap, elems, rest, n, rfl, rfl, rfl, _, hl, hm, hel, hx, _⟩
 ·exact ⟨none, 0, 0, [], 0, hcs, (fun h => absurd h (Nat.lt_irrefl 0)), by rw [Nat.zero_mul]; exact Nat.zero_le _, (fun i u h => by simp at h), by rw [Nat.zero_mul]; rfl, Nat.zero_le _, fun i hi => by omega⟩
 ·rw [hc] at hx;have hwt := hg.2
  have hle : len * xn <= reachBytes := by
   have h1 := hwt ((elems.length + rest.length) * P.bytesOf e) (by simp [DataW.weights, vi ht]);rw [hb] at h1;refine Nat.le_trans (Nat.mul_le_mul_right _ ?_) h1;omega
  have h1 : ∀ i, i < len -> ∃ l : Lv, w.cells? base (a.add (i * sz)) sz = some l /\ ∃ y, DataW.trod enc P w base spare held n e l = some y /\ jI P w e y := fun i hi => by
   have h2 := hx i hi;rw [List.getElem?_eq_getElem ze] at h2;obtain ⟨l, h3, h4⟩ := Option.bind_eq_some_iff.1 h2;refine ⟨l, h3, _, h4, fun b o hm => hg.1 b o ?_, fun k hk => hwt k ?_⟩
   ·exact List.mem_append.2 (.inr (List.mem_flatMap.2 ⟨_, List.mem_append.2 (.inl (List.getElem_mem ze)), hm⟩))
   ·simp only [DataW.weights, vi ht, List.mem_cons, List.mem_append];exact .inr (.inl (gJ (List.mem_map.2 ⟨_, List.getElem_mem ze, rfl⟩) hk))
  obtain ⟨ls, hls, hp⟩ := xf h1
  have hlen : ∀ l ∈ ls, l.length = sz := fun l hl => by
   obtain ⟨i, hi, rfl⟩ := List.getElem_of_mem hl;exact (World.cells?_some (hp i hi).1).2.1
  have key : ∀ (ls : List Lv), (∀ l ∈ ls, l.length = sz) -> ls.flatten.length = ls.length * sz /\ ∀ (i j : Nat), j < sz -> ls.flatten[i * sz + j]? = (ls[i]?).bind (·[j]?) := by
   intro ls
   induction ls with
   | nil => intro _; exact ⟨by simp, fun i j _ => by simp⟩
   | cons l r ih =>
     intro hl;obtain ⟨h2, h3⟩ := ih fun x hx => hl x (List.mem_cons_of_mem _ hx);have h4 := hl l vM;refine ⟨by rw [List.flatten_cons, List.length_append, h2, h4, List.length_cons, Nat.add_mul]; omega, fun i j hj => ?_⟩;rw [List.flatten_cons];cases i with
     | zero => rw [List.getElem?_append_left ze]; simp
     | succ i =>
       rw [List.getElem?_append_right (by rw [h4, Nat.add_mul]; omega), h4, show (i + 1) * sz + j - sz = i * sz + j by rw [Nat.add_mul]; omega, h3 i j hj]
       simp
  obtain ⟨k1, k2⟩ := key ls hlen;refine ⟨some a, len, cap, ls.flatten, n, rfl, fun _ => rfl, hle, fun q u hq => ?_, by rw [k1, hls], Nat.le_succ _, fun i hi => ?_⟩
  ·have hq1 : q < ls.length * sz := by rw [<- k1]; exact (List.getElem?_eq_some_iff.1 hq).1
   have hsz : 0 < sz := Nat.pos_of_ne_zero (by rintro rfl; simp at hq1);have hi : q / sz < ls.length := Nat.div_lt_of_lt_mul (by rw [Nat.mul_comm]; exact hq1);have hj : q % sz < sz := Nat.mod_lt _ hsz;have hqe : q / sz * sz + q % sz = q := by rw [Nat.mul_comm]; exact Nat.div_add_mod q sz
   have h5 := k2 (q / sz) (q % sz) hj;rw [hqe, List.getElem?_eq_getElem hi] at h5;have h6 := (World.cells?_some (hp _ hi).1).2.2 _ hj;rw [hq] at h5;simp only [Option.bind_some] at h5;rw [<- h5, w9, fF, hqe] at h6;have h7 : mc (mp w.heap) ((sa (some a)).add q) = some u := h6;refine ⟨h7, ?_⟩;have hsp := World.cell?_spot (w := w) (a := (sa (some a)).add q) h7
   have ha : (sa (some a)).add q = ⟨a.block, a.off + q, none⟩ := by
    have e : (sa (some a)).add q = a.add q := rfl;rw [e] at hsp ⊢;unfold Addr.add at hsp ⊢
    split
    ·rename_i h0
     rw [if_pos h0] at hsp;subst h0;obtain ⟨b, o, s⟩ := a;simp only at hsp;subst hsp
     rfl
    ·rfl
   rw [ha, <- JJ];refine hg.1 _ _ ?_;refine List.mem_append.2 (.inl (List.mem_map.2 ⟨q, ?_, rfl⟩));rw [List.mem_range, hc];have h8 : len * sz <= (elems.length + rest.length) * sz := Nat.mul_le_mul_right _ ze;rw [hls] at hq1;omega
  ·have hi' : i < ls.length := by omega
   have : (ls.flatten.drop (i * sz)).take sz = ls[i] := by
    apply List.ext_getElem?
    intro j;rw [List.getElem?_take, List.getElem?_drop]
    split
    ·rename_i hj
     rw [k2 i j hj, List.getElem?_eq_getElem hi']
     rfl
    ·rw [List.getElem?_eq_none];have := hlen _ (List.getElem_mem hi');omega
   rw [this];exact (hp i hi').2
end
end Go.Eng
namespace Go.Eng
section
variable {P : Program} {n : Nat} {env : Env} {x : Operand} {t yt : TypeId} {dst : Option Tmp} {ty : TypeId} {pos : String} {aft : Array Edge} {gd : Option (Nat × Bool)}
variable {A : Oa} {c m : Nat}
theorem Yu {op : BinOp} {y : Operand} {v : Value} : eqGuard op t x y (.slice A m c) v = pure () := by cases op <;> rfl
theorem dG (ht : xu P t = true) (hx : ev env x = some (.slice A m c)) : zP P n ⟨dst, .binOp .eql t x (.const (.slice none 0 0)) yt, ty, pos, aft, gd⟩ env (.bool A.isNone) := by
 intro a' w ha;obtain ⟨e, he⟩ := j0 ht;simp only [execOp, ha.eval hx, ha.eval (rfl : ev env (.const (.slice none 0 0)) = some (.slice none 0 0)), Yu]
 simp [Go.run_eql_slice_nil w t e A m c he]
end
end Go.Eng
namespace Go.Eng
theorem zJ.tr {L1 L2 L3 : List ya} (h1 : zJ L1 L2) (h2 : zJ L2 L3) : zJ L1 L3 := fun m h hs => h2 m h (h1 m h hs)
section
variable {P : Program} {n : Nat} {env : Env} {m : Mp} {L r : List ya} {Q : yd}
end
end Go.Eng
namespace Go.Eng
section
variable {P : Program} {n : Nat} {env : Env} {m : Mp} {L r : List ya} {Q : yd} {ty : TypeId} {pos : String} {aft : Array Edge} {gd : Option (Nat × Bool)} {d : Nat}
theorem Qw {K : Env -> List ya -> Prop} {f : FuncId} {fv : Operand} {args : List Operand} {ats : Array TypeId} {vs p q : Lv} {pre : List ya} {post : Value -> List ya -> Prop} (hcl : z7 P f = true) (hf : ev env fv = some (.func (.func f) p.toArray q.toArray)) (hx : evs env args = some vs) (hT : fQ L pre r)
  (hc : ∀ m', Le m m' -> HE r m' -> CS P f ((p ++ vs) ++ q) m' pre post) (hn : Nat.blt d n = true) (hk : ∀ v L', post v L' -> K ((d, v) :: env) (L' ++ r)) : wj P n Q ⟨some d, .call ⟨.value fv, args.toArray, ats⟩, ty, pos, aft, gd⟩ env m L false K :=
 HT (ppost := fun _ _ => False) hcl hf hx hT (fun m' h1 h2 => (hc m' h1 h2).toP) hn (fun _ _ h => h.elim) hk
end
end Go.Eng
namespace Go.Eng
section
variable {P : Program} {n : Nat} {env : Env} {m : Mp} {L : List ya} {x y : Operand} {t et : TypeId} {dst : Option Tmp} {ty : TypeId} {pos : String} {aft : Array Edge} {gd : Option (Nat × Bool)}
def eo (m : Mp) (b : Nat) (es : List (Bt × Value)) : Prop := m b = some (.map (xQ 0 es).toArray es.length)
variable {b : Nat} {es : List (Bt × Value)}
theorem eo.mono {m' : Mp} (h : eo m b es) (hl : Le m m') : eo m' b es := hl _ _ h
theorem eo.of (h : (jZ b es).inv m) : eo m b es := h
variable {zv : Value}
theorem XZ {k : Bt} (hm : eo m b es) (ht : ky P t = some et) (hx : ev env x = some (.map (some b))) (hy : ev env y = some (.string (bs k))) (hzz : ∀ w, (zeroValue et).run P w = .ok zv w) :
  ∀ h, HS m L h -> xM P n ⟨dst, .lookup t x y false, ty, pos, aft, gd⟩ env h ((gk es k).getD zv) := fun h hs a w ha hl => by
 have h1 : mp w.heap b = some (.map (xQ 0 es).toArray es.length) := hl _ _ (hs.base _ _ hm);have := uy (P := P) (fx := ⟨w.tape, w.os, w.output, []⟩) (h := w.heap) (dr := w.drawn) (cm := false) (k := k) ht h1 hzz;simp only [execOp, ha.eval hx, ha.eval hy, Sem.run_bind];rw [<- Qo] at this;rw [this]
 rfl
theorem Z9 {k : Bt} (hm : eo m b es) (ht : ky P t = some et) (hx : ev env x = some (.map (some b))) (hy : ev env y = some (.string (bs k))) (hzz : ∀ w, (zeroValue et).run P w = .ok zv w) :
  ∀ h, HS m L h -> xM P n ⟨dst, .lookup t x y true, ty, pos, aft, gd⟩ env h (.tuple [(gk es k).getD zv, .bool (gk es k).isSome].toArray) := fun h hs a w ha hl => by
 have h1 : mp w.heap b = some (.map (xQ 0 es).toArray es.length) := hl _ _ (hs.base _ _ hm);have := uy (P := P) (fx := ⟨w.tape, w.os, w.output, []⟩) (h := w.heap) (dr := w.drawn) (cm := true) (k := k) ht h1 hzz;simp only [execOp, ha.eval hx, ha.eval hy, Sem.run_bind];rw [<- Qo] at this;rw [this]
 rfl
end
end Go.Eng
namespace Go.Eng
section
variable {P : Program} {n : Nat} {env : Env} {h : zZ} {Q : yd} {K : Env -> zZ -> Prop} {d : Nat} {ty : TypeId} {pos : String} {aft : Array Edge} {gd : Option (Nat × Bool)} {x y : Operand} {t u : TypeId}
end
section
variable {P : Program} {n : Nat} {env : Env} {m : Mp} {L : List ya} {Q : yd} {K : Env -> List ya -> Prop} {d : Nat} {ty : TypeId} {pos : String} {aft : Array Edge} {gd : Option (Nat × Bool)} {x y : Operand} {t u : TypeId}
def Buf (A : Oa) (l : Bt) : Prop := (l = [] /\ A = none) \/ (l ≠ [] /\ ∃ g, A = some ⟨g, 0, none⟩)
theorem Buf.nil : Buf none [] := .inl ⟨rfl, rfl⟩
end
end Go.Eng
namespace Go.Eng
inductive Fm where
 | thn (c : Code)
 | blk (id : Nat)
def WY (P : Program) (n : Nat) : List Fm -> yd -> yd
 | [], Q => Q
 | .thn c :: r, Q => xJ P n c (WY P n r Q)
 | .blk i :: r, Q => wE i (WY P n r Q)
inductive GU where
 | code (c : Code)
 | ops (l0 l : List Oper)
 | exit (e : Exit)
def xH (P : Program) (n : Nat) (g : GU) (fs : List Fm) (env : Env) (m : Mp) (L : List ya) (Q : yd) : Prop := match g with
 | .code c => TS P n c env m L (WY P n fs Q)
 | .ops l0 l => VS P n l0 l env m L (WY P n fs Q)
 | .exit e => QS (WY P n fs Q) e env m L
structure Vc where
 fo : List (Nat × Nat × Nat)
 il : List Nat
def Vc.foff (T : List (Nat × Nat × Nat)) (s f : Nat) : Option Nat := match T with
 | [] => none
 | (a, b, o) :: r => match Nat.beq a s && Nat.beq b f with
   | true => some o
   | false => Vc.foff r s f
def Vc.has (T : List Nat) (s : Nat) : Bool := match T with
 | [] => false
 | a :: r => Nat.beq a s || Vc.has r s
structure jl (P : Program) (T : Vc) : Prop where
 fo : T.fo.all (fun x => decide (Eng.foff P x.1 x.2.1 = some x.2.2)) = true
 il : T.il.all (fun x => xu P x) = true
variable {P : Program} {T : Vc} {s : Nat}
theorem jl.foff (h : jl P T) {f o : Nat} (hf : Vc.foff T.fo s f = some o) : Eng.foff P s f = some o := by
 have h1 := h.fo;generalize T.fo = l at h1 hf
 induction l with
 | nil => cases hf
 | cons x r ih =>
   obtain ⟨a, b, c⟩ := x;simp only [List.all_cons, Bool.and_eq_true, decide_eq_true_eq] at h1;unfold Vc.foff at hf
   split at hf
   ·rename_i hb
    simp only [Bool.and_eq_true] at hb;have e1 := Nat.eq_of_beq_eq_true hb.1;have e2 := Nat.eq_of_beq_eq_true hb.2;subst e1 e2;cases hf;exact h1.1
   ·exact ih h1.2 hf
theorem jl.has (h : jl P T) (hf : Vc.has T.il s = true) : xu P s = true := by
 have h1 := h.il;generalize T.il = l at h1 hf
 induction l with
 | nil => cases hf
 | cons x r ih =>
   simp only [List.all_cons, Bool.and_eq_true] at h1;unfold Vc.has at hf;rw [Bool.or_eq_true] at hf;rcases hf with hb | hb
   ·have e1 := Nat.eq_of_beq_eq_true hb;subst e1;exact h1.1
   ·exact ih h1.2 hb
def DW (T : Vc) (env : Env) : Op -> Option Value
 | .move x => ev env x
 | .assign x => ev env x
 | .pick c x y => match ev env c with
   | some (.bool true) => ev env x
   | some (.bool false) => ev env y
   | _ => none
 | .nilCheck x => match ev env x with
   | some (.pointer (some b)) => some (.pointer (some b))
   | _ => none
 | .fieldAddr s x f => match Vc.foff T.fo s f with
   | some o => match ev env x with
     | some (.pointer (some b)) => some (.pointer (some (b.add o)))
     | _ => none
   | none => none
 | .unOp .not _ x => match ev env x with
   | some (.bool b) => some (.bool (!b))
   | _ => none
 | .extract x i => match ev env x with
   | some (.tuple a) => qZ a.toList i
   | _ => none
 | .makeFunc fn fi ca => match evs env fi.toList with
   | some p => match evs env ca.toList with
     | some q => some (.func fn p.toArray q.toArray)
     | none => none
   | none => none
 | .call c => match c.callee with
   | .builtin .len => match c.args.toList, c.argTypes.toList with
     | [x], [t] => match Vc.has T.il t with
       | true => match ev env x with
         | some (.slice _ m _) => some (.int .i64 m)
         | _ => none
       | false => none
     | _, _ => none
   | _ => none
 | _ => none
variable {env : Env} {n : Nat} {o : Oper}
theorem aP (hT : jl P T) {v : Value} (h : DW T env o.op = some v) : zP P n o env v := by
 obtain ⟨dst, op, ty, pos, aft, gd⟩ := o;change DW T env op = some v at h;unfold DW at h
 split at h
 ·exact zF h
 ·exact zi h
 ·split at h
  ·exact yT ‹_› h
  ·exact vx ‹_› h
  ·cases h
 ·split at h
  ·cases h; exact eQ ‹_›
  ·cases h
 ·split at h
  ·split at h
   ·cases h; exact bV (hT.foff ‹_›) ‹_›
   ·cases h
  ·cases h
 ·split at h
  ·cases h; exact vJ ‹_›
  ·cases h
 ·split at h
  ·rename_i a ha
   exact X3 (l := a.toList) (by rw [ha]) h
  ·cases h
 ·rename_i fn fi ca
  split at h
  ·split at h
   ·cases h;have e1 : fi = fi.toList.toArray := by simp
    have e2 : ca = ca.toList.toArray := by simp
    rw [e1, e2];exact ye ‹_› ‹_›
   ·cases h
  ·cases h
 ·rename_i c
  obtain ⟨callee, args, ats⟩ := c;dsimp only at h
  split at h
  ·split at h
   ·rename_i x t h1 h2
    split at h
    ·split at h
     ·cases h;have e1 : args = #[x] := by rw [<- Array.toArray_toList (xs := args), h1]
      have e2 : ats = #[t] := by rw [<- Array.toArray_toList (xs := ats), h2]
      subst e1 e2;exact X2 (hT.has ‹_›) ‹_›
     ·cases h
    ·cases h
   ·cases h
  ·cases h
 ·cases h
def LP (T : Vc) (n : Nat) (g : GU) (fs : List Fm) (env : Env) : Option (GU × List Fm × Env) := match g with
 | .code (.seq a b) => some (.code a, .thn b :: fs, env)
 | .code (.region _ l false) => some (.ops l.toList l.toList, fs, env)
 | .code (.block id c) => some (.code c, .blk id :: fs, env)
 | .code .skip => some (.exit .normal, fs, env)
 | .code .ret => some (.exit .ret, fs, env)
 | .code (.exit id) => some (.exit (.exit id), fs, env)
 | .code (.cond c a b) => match ev env c with
   | some (.bool true) => some (.code a, fs, env)
   | some (.bool false) => some (.code b, fs, env)
   | _ => none
 | .code _ => none
 | .ops _ [] => some (.exit .normal, fs, env)
 | .ops l0 (o :: l) => match o.dst with
   | none => none
   | some d => match Nat.blt d n with
     | false => none
     | true => match wanted l0 env o with
       | some false => some (.ops l0 l, fs, (d, undef) :: env)
       | some true => match DW T env o.op with
         | some v => some (.ops l0 l, fs, (d, v) :: env)
         | none => none
       | none => none
 | .exit .normal => match fs with
   | .thn c :: fs => some (.code c, fs, env)
   | .blk _ :: fs => some (.exit .normal, fs, env)
   | [] => none
 | .exit .ret => match fs with
   | .thn _ :: fs => some (.exit .ret, fs, env)
   | .blk _ :: fs => some (.exit .ret, fs, env)
   | [] => none
 | .exit (.exit i) => match fs with
   | .thn _ :: fs => some (.exit (.exit i), fs, env)
   | .blk id :: fs => match Nat.beq i id with
     | true => some (.exit .normal, fs, env)
     | false => some (.exit (.exit i), fs, env)
   | [] => none
 | .exit _ => none
def vW (T : Vc) (n : Nat) : Nat -> GU -> List Fm -> Env -> GU × List Fm × Env
 | 0, g, fs, env => (g, fs, env)
 | k + 1, g, fs, env => match LP T n g fs env with
   | some (g, fs, env) => vW T n k g fs env
   | none => (g, fs, env)
variable {L : List ya} {Q : yd} {env' : Env} {fs fs' : List Fm} {g' : GU} {m : Mp}
theorem VM (hT : jl P T) {g : GU} (h : LP T n g fs env = some (g', fs', env')) (hk : xH P n g' fs' env' m L Q) : xH P n g fs env m L Q := by
 unfold LP at h
 split at h
 ·cases h; exact DC hk
 ·rename_i id l
  cases h;show TS P n (.region id l false) env m L _;have : l = l.toList.toArray := by simp
  rw [this];exact HP hk
 ·cases h; exact Ou hk
 ·cases h; exact SO hk
 ·cases h; exact DD hk
 ·cases h; exact SQ hk
 ·split at h
  ·cases h; exact SN ‹_› hk
  ·cases h; exact Or ‹_› hk
  ·cases h
 ·cases h
 ·cases h; exact DA hk
 ·split at h
  ·cases h
  ·split at h
   ·cases h
   ·split at h
    ·cases h; exact SI ‹_› ‹_› ‹_› hk
    ·split at h
     ·cases h; exact GK (aP hT ‹_›) ‹_› ‹_› ‹_› hk
     ·cases h
    ·cases h
 ·split at h
  ·cases h; exact S3 hk
  ·cases h; exact xr hk
  ·cases h
 ·split at h
  ·cases h; exact zU hk
  ·cases h; exact zz hk
  ·cases h
 ·split at h
  ·cases h; exact Vf hk
  ·split at h
   ·rename_i hb
    cases h;have e := Nat.eq_of_beq_eq_true hb;subst e;exact zf hk
   ·cases h; exact Vg ‹_› hk
  ·cases h
 ·cases h
theorem ku (hT : jl P T) : ∀ (k : Nat) {g g' : GU} {fs fs' : List Fm} {env env' : Env}, vW T n k g fs env = (g', fs', env') -> xH P n g' fs' env' m L Q -> xH P n g fs env m L Q
 | 0, _, _, _, _, _, _, h, hk => by cases h; exact hk
 | k + 1, g, g', fs, fs', env, env', h, hk => by
   unfold vW at h
   split at h
   ·exact VM hT ‹_› (ku hT k h hk)
   ·cases h; exact hk
def WR (env : Env) : Op -> Option Prop
 | .binOp c _ x y _ => match ev env x, ev env y with
   | some (.int k a), some (.int k' b) => match decide (k = k') with
     | true => match c with
       | .eql => some (a = b)
       | .neq => some (¬ a = b)
       | .lss => some (a < b)
       | .leq => some (a <= b)
       | .gtr => some (b < a)
       | .geq => some (b <= a)
       | _ => none
     | false => none
   | some (.string s), some (.string u) => match c with
     | .eql => some (s.data.toList = u.data.toList)
     | .neq => some (¬ s.data.toList = u.data.toList)
     | _ => none
   | _, _ => none
 | _ => none
theorem Gz (s : ByteArray) : bs s.data.toList = s := by cases s; simp [bs]
theorem uW {p : Prop} (h : WR env o.op = some p) : (p -> zP P n o env (.bool true)) /\ (¬ p -> zP P n o env (.bool false)) := by
 have gen : ∀ {q : Prop} [Decidable q], zP P n o env (.bool (decide q)) -> (q -> zP P n o env (.bool true)) /\ (¬ q -> zP P n o env (.bool false)) := fun {q} _ hv => ⟨fun hq => by rwa [decide_eq_true hq] at hv, fun hq => by rwa [decide_eq_false hq] at hv⟩;obtain ⟨dst, op, ty, pos, aft, gd⟩ := o;change WR env op = some p at h;unfold WR at h
 split at h
 ·rename_i c t x y yt
  split at h
  ·rename_i k a k' b hx hy
   split at h
   ·rename_i hk
    have hk := of_decide_eq_true hk;subst hk
    split at h <;> first | (cases h) | skip
    ·exact gen (yY hx hy)
    ·exact gen (Qx hx hy)
    ·exact gen (vc hx hy)
    ·exact gen (qC hx hy)
    ·exact gen (av hx hy)
    ·exact gen (uq hx hy)
   ·cases h
  ·rename_i s u hx hy
   rw [<- Gz s] at hx;rw [<- Gz u] at hy
   split at h <;> first | (cases h) | skip
   ·exact gen (Yd hx hy)
   ·exact gen (OA hx hy)
  ·cases h
 ·cases h
class Reif (P : Program) (n : Nat) (Q : yd) (fs : outParam (List Fm)) (Q0 : outParam yd) : Prop where
 eq : Q = WY P n fs Q0
instance (priority := low) {P : Program} {n : Nat} {Q : yd} : Reif P n Q [] Q := ⟨rfl⟩
instance {P : Program} {n : Nat} {Q : yd} {fs : List Fm} : Reif P n (WY P n fs Q) fs Q := ⟨rfl⟩
instance {P : Program} {n : Nat} {Q Q0 : yd} {fs : List Fm} {c : Code} [r : Reif P n Q fs Q0] : Reif P n (xJ P n c Q) (.thn c :: fs) Q0 := ⟨by rw [r.eq]; rfl⟩
instance {P : Program} {n : Nat} {Q Q0 : yd} {fs : List Fm} {i : Nat} [r : Reif P n Q fs Q0] : Reif P n (wE i Q) (.blk i :: fs) Q0 := ⟨by rw [r.eq]; rfl⟩
variable {Q0 : yd}
theorem CO (hT : jl P T) (k : Nat) {c : Code} [r : Reif P n Q fs Q0] (h : vW T n k (.code c) fs env = (g', fs', env')) (hk : xH P n g' fs' env' m L Q0) : TS P n c env m L Q := by
 rw [r.eq]; exact ku hT k h hk
variable {l l0 : List Oper}
theorem bF (hT : jl P T) (k : Nat) [r : Reif P n Q fs Q0] (h : vW T n k (.ops l0 l) fs env = (g', fs', env')) (hk : xH P n g' fs' env' m L Q0) : VS P n l0 l env m L Q := by
 rw [r.eq]; exact ku hT k h hk
variable {d : Nat}
theorem FO (hT : jl P T) (k : Nat) {v : Value} [r : Reif P n Q fs Q0] (hr : ∀ h, HS m L h -> xM P n o env h v) (hk : xH P n g' fs' env' m L Q0) (hd : o.dst = some d) (hn : Nat.blt d n = true) (hw : wanted l0 env o = some true) (h : vW T n k (.ops l0 l) fs ((d, v) :: env) = (g', fs', env')) : VS P n l0 (o :: l) env m L Q := SJ hr hd hn hw (bF hT k h hk)
theorem eF (hT : jl P T) (k : Nat) {v : Value} [r : Reif P n Q fs Q0] (hr : zP P n o env v) (hk : xH P n g' fs' env' m L Q0) (hd : o.dst = some d) (hn : Nat.blt d n = true) (hw : wanted l0 env o = some true) (h : vW T n k (.ops l0 l) fs ((d, v) :: env) = (g', fs', env')) : VS P n l0 (o :: l) env m L Q := GK hr hd hn hw (bF hT k h hk)
end Go.Eng
namespace Go.Eng
variable {e : ya} {r : List ya} {x1 : ya}
theorem Tk.h1 : Tk (x1 :: e :: r) e (x1 :: r) := .there .here
variable {x2 : ya}
theorem Tk.h2 : Tk (x1 :: x2 :: e :: r) e (x1 :: x2 :: r) := .there .h1
variable {x3 : ya}
theorem Tk.h3 : Tk (x1 :: x2 :: x3 :: e :: r) e (x1 :: x2 :: x3 :: r) := .there .h2
variable {x4 : ya}
theorem Tk.h4 : Tk (x1 :: x2 :: x3 :: x4 :: e :: r) e (x1 :: x2 :: x3 :: x4 :: r) := .there .h3
variable {x5 : ya}
theorem Tk.h5 : Tk (x1 :: x2 :: x3 :: x4 :: x5 :: e :: r) e (x1 :: x2 :: x3 :: x4 :: x5 :: r) := .there .h4
variable {x6 : ya}
theorem Tk.h6 : Tk (x1 :: x2 :: x3 :: x4 :: x5 :: x6 :: e :: r) e (x1 :: x2 :: x3 :: x4 :: x5 :: x6 :: r) := .there .h5
variable {x7 : ya}
theorem Tk.h7 : Tk (x1 :: x2 :: x3 :: x4 :: x5 :: x6 :: x7 :: e :: r) e (x1 :: x2 :: x3 :: x4 :: x5 :: x6 :: x7 :: r) := .there .h6
variable {x8 : ya}
theorem Tk.h8 : Tk (x1 :: x2 :: x3 :: x4 :: x5 :: x6 :: x7 :: x8 :: e :: r) e (x1 :: x2 :: x3 :: x4 :: x5 :: x6 :: x7 :: x8 :: r) := .there .h7
variable {x9 : ya}
theorem Tk.h9 : Tk (x1 :: x2 :: x3 :: x4 :: x5 :: x6 :: x7 :: x8 :: x9 :: e :: r) e (x1 :: x2 :: x3 :: x4 :: x5 :: x6 :: x7 :: x8 :: x9 :: r) := .there .h8
variable {x10 : ya}
theorem Tk.h10 : Tk (x1 :: x2 :: x3 :: x4 :: x5 :: x6 :: x7 :: x8 :: x9 :: x10 :: e :: r) e (x1 :: x2 :: x3 :: x4 :: x5 :: x6 :: x7 :: x8 :: x9 :: x10 :: r) := .there .h9
variable {x11 : ya}
theorem Tk.h11 : Tk (x1 :: x2 :: x3 :: x4 :: x5 :: x6 :: x7 :: x8 :: x9 :: x10 :: x11 :: e :: r) e (x1 :: x2 :: x3 :: x4 :: x5 :: x6 :: x7 :: x8 :: x9 :: x10 :: x11 :: r) := .there .h10
variable {x12 : ya}
theorem Tk.h12 : Tk (x1 :: x2 :: x3 :: x4 :: x5 :: x6 :: x7 :: x8 :: x9 :: x10 :: x11 :: x12 :: e :: r) e (x1 :: x2 :: x3 :: x4 :: x5 :: x6 :: x7 :: x8 :: x9 :: x10 :: x11 :: x12 :: r) := .there .h11
variable {x13 : ya}
theorem Tk.h13 : Tk (x1 :: x2 :: x3 :: x4 :: x5 :: x6 :: x7 :: x8 :: x9 :: x10 :: x11 :: x12 :: x13 :: e :: r) e (x1 :: x2 :: x3 :: x4 :: x5 :: x6 :: x7 :: x8 :: x9 :: x10 :: x11 :: x12 :: x13 :: r) := .there .h12
variable {x14 : ya}
theorem Tk.h14 : Tk (x1 :: x2 :: x3 :: x4 :: x5 :: x6 :: x7 :: x8 :: x9 :: x10 :: x11 :: x12 :: x13 :: x14 :: e :: r) e (x1 :: x2 :: x3 :: x4 :: x5 :: x6 :: x7 :: x8 :: x9 :: x10 :: x11 :: x12 :: x13 :: x14 :: r) := .there .h13
variable {x15 : ya}
theorem Tk.h15 : Tk (x1 :: x2 :: x3 :: x4 :: x5 :: x6 :: x7 :: x8 :: x9 :: x10 :: x11 :: x12 :: x13 :: x14 :: x15 :: e :: r) e (x1 :: x2 :: x3 :: x4 :: x5 :: x6 :: x7 :: x8 :: x9 :: x10 :: x11 :: x12 :: x13 :: x14 :: x15 :: r) := .there .h14
variable {x16 : ya}
theorem Tk.h16 : Tk (x1 :: x2 :: x3 :: x4 :: x5 :: x6 :: x7 :: x8 :: x9 :: x10 :: x11 :: x12 :: x13 :: x14 :: x15 :: x16 :: e :: r) e (x1 :: x2 :: x3 :: x4 :: x5 :: x6 :: x7 :: x8 :: x9 :: x10 :: x11 :: x12 :: x13 :: x14 :: x15 :: x16 :: r) := .there .h15
variable {e' : ya}
theorem qB.h1 : qB (x1 :: e :: r) e e' (x1 :: e' :: r) := .there .here
theorem qB.h2 : qB (x1 :: x2 :: e :: r) e e' (x1 :: x2 :: e' :: r) := .there .h1
theorem qB.h3 : qB (x1 :: x2 :: x3 :: e :: r) e e' (x1 :: x2 :: x3 :: e' :: r) := .there .h2
theorem qB.h4 : qB (x1 :: x2 :: x3 :: x4 :: e :: r) e e' (x1 :: x2 :: x3 :: x4 :: e' :: r) := .there .h3
theorem qB.h5 : qB (x1 :: x2 :: x3 :: x4 :: x5 :: e :: r) e e' (x1 :: x2 :: x3 :: x4 :: x5 :: e' :: r) := .there .h4
theorem qB.h6 : qB (x1 :: x2 :: x3 :: x4 :: x5 :: x6 :: e :: r) e e' (x1 :: x2 :: x3 :: x4 :: x5 :: x6 :: e' :: r) := .there .h5
theorem qB.h7 : qB (x1 :: x2 :: x3 :: x4 :: x5 :: x6 :: x7 :: e :: r) e e' (x1 :: x2 :: x3 :: x4 :: x5 :: x6 :: x7 :: e' :: r) := .there .h6
theorem qB.h8 : qB (x1 :: x2 :: x3 :: x4 :: x5 :: x6 :: x7 :: x8 :: e :: r) e e' (x1 :: x2 :: x3 :: x4 :: x5 :: x6 :: x7 :: x8 :: e' :: r) := .there .h7
theorem qB.h9 : qB (x1 :: x2 :: x3 :: x4 :: x5 :: x6 :: x7 :: x8 :: x9 :: e :: r) e e' (x1 :: x2 :: x3 :: x4 :: x5 :: x6 :: x7 :: x8 :: x9 :: e' :: r) := .there .h8
theorem qB.h10 : qB (x1 :: x2 :: x3 :: x4 :: x5 :: x6 :: x7 :: x8 :: x9 :: x10 :: e :: r) e e' (x1 :: x2 :: x3 :: x4 :: x5 :: x6 :: x7 :: x8 :: x9 :: x10 :: e' :: r) := .there .h9
theorem qB.h11 : qB (x1 :: x2 :: x3 :: x4 :: x5 :: x6 :: x7 :: x8 :: x9 :: x10 :: x11 :: e :: r) e e' (x1 :: x2 :: x3 :: x4 :: x5 :: x6 :: x7 :: x8 :: x9 :: x10 :: x11 :: e' :: r) := .there .h10
theorem qB.h12 : qB (x1 :: x2 :: x3 :: x4 :: x5 :: x6 :: x7 :: x8 :: x9 :: x10 :: x11 :: x12 :: e :: r) e e' (x1 :: x2 :: x3 :: x4 :: x5 :: x6 :: x7 :: x8 :: x9 :: x10 :: x11 :: x12 :: e' :: r) := .there .h11
theorem qB.h13 : qB (x1 :: x2 :: x3 :: x4 :: x5 :: x6 :: x7 :: x8 :: x9 :: x10 :: x11 :: x12 :: x13 :: e :: r) e e' (x1 :: x2 :: x3 :: x4 :: x5 :: x6 :: x7 :: x8 :: x9 :: x10 :: x11 :: x12 :: x13 :: e' :: r) := .there .h12
theorem qB.h14 : qB (x1 :: x2 :: x3 :: x4 :: x5 :: x6 :: x7 :: x8 :: x9 :: x10 :: x11 :: x12 :: x13 :: x14 :: e :: r) e e' (x1 :: x2 :: x3 :: x4 :: x5 :: x6 :: x7 :: x8 :: x9 :: x10 :: x11 :: x12 :: x13 :: x14 :: e' :: r) := .there .h13
theorem qB.h15 : qB (x1 :: x2 :: x3 :: x4 :: x5 :: x6 :: x7 :: x8 :: x9 :: x10 :: x11 :: x12 :: x13 :: x14 :: x15 :: e :: r) e e' (x1 :: x2 :: x3 :: x4 :: x5 :: x6 :: x7 :: x8 :: x9 :: x10 :: x11 :: x12 :: x13 :: x14 :: x15 :: e' :: r) := .there .h14
theorem qB.h16 : qB (x1 :: x2 :: x3 :: x4 :: x5 :: x6 :: x7 :: x8 :: x9 :: x10 :: x11 :: x12 :: x13 :: x14 :: x15 :: x16 :: e :: r) e e' (x1 :: x2 :: x3 :: x4 :: x5 :: x6 :: x7 :: x8 :: x9 :: x10 :: x11 :: x12 :: x13 :: x14 :: x15 :: x16 :: e' :: r) := .there .h15
variable {u : Value}
theorem USet.h1 {x1 v : Value} {r : Lv} : USet (x1 :: u :: r) 1 v (x1 :: v :: r) := .there .here
theorem USet.h2 {x1 x2 v : Value} {r : Lv} : USet (x1 :: x2 :: u :: r) 2 v (x1 :: x2 :: v :: r) := .there .h1
theorem USet.h3 {x1 x2 x3 v : Value} {r : Lv} : USet (x1 :: x2 :: x3 :: u :: r) 3 v (x1 :: x2 :: x3 :: v :: r) := .there .h2
theorem USet.h4 {x1 x2 x3 x4 v : Value} {r : Lv} : USet (x1 :: x2 :: x3 :: x4 :: u :: r) 4 v (x1 :: x2 :: x3 :: x4 :: v :: r) := .there .h3
theorem USet.h5 {x1 x2 x3 x4 x5 v : Value} {r : Lv} : USet (x1 :: x2 :: x3 :: x4 :: x5 :: u :: r) 5 v (x1 :: x2 :: x3 :: x4 :: x5 :: v :: r) := .there .h4
theorem USet.h6 {x1 x2 x3 x4 x5 x6 v : Value} {r : Lv} : USet (x1 :: x2 :: x3 :: x4 :: x5 :: x6 :: u :: r) 6 v (x1 :: x2 :: x3 :: x4 :: x5 :: x6 :: v :: r) := .there .h5
theorem USet.h7 {x1 x2 x3 x4 x5 x6 x7 v : Value} {r : Lv} : USet (x1 :: x2 :: x3 :: x4 :: x5 :: x6 :: x7 :: u :: r) 7 v (x1 :: x2 :: x3 :: x4 :: x5 :: x6 :: x7 :: v :: r) := .there .h6
theorem USet.h8 {x1 x2 x3 x4 x5 x6 x7 x8 v : Value} {r : Lv} : USet (x1 :: x2 :: x3 :: x4 :: x5 :: x6 :: x7 :: x8 :: u :: r) 8 v (x1 :: x2 :: x3 :: x4 :: x5 :: x6 :: x7 :: x8 :: v :: r) := .there .h7
theorem USet.h9 {x1 x2 x3 x4 x5 x6 x7 x8 x9 v : Value} {r : Lv} : USet (x1 :: x2 :: x3 :: x4 :: x5 :: x6 :: x7 :: x8 :: x9 :: u :: r) 9 v (x1 :: x2 :: x3 :: x4 :: x5 :: x6 :: x7 :: x8 :: x9 :: v :: r) := .there .h8
theorem USet.h10 {x1 x2 x3 x4 x5 x6 x7 x8 x9 x10 v : Value} {r : Lv} : USet (x1 :: x2 :: x3 :: x4 :: x5 :: x6 :: x7 :: x8 :: x9 :: x10 :: u :: r) 10 v (x1 :: x2 :: x3 :: x4 :: x5 :: x6 :: x7 :: x8 :: x9 :: x10 :: v :: r) := .there .h9
theorem USet.h11 {x1 x2 x3 x4 x5 x6 x7 x8 x9 x10 x11 v : Value} {r : Lv} : USet (x1 :: x2 :: x3 :: x4 :: x5 :: x6 :: x7 :: x8 :: x9 :: x10 :: x11 :: u :: r) 11 v (x1 :: x2 :: x3 :: x4 :: x5 :: x6 :: x7 :: x8 :: x9 :: x10 :: x11 :: v :: r) := .there .h10
theorem USet.h12 {x1 x2 x3 x4 x5 x6 x7 x8 x9 x10 x11 x12 v : Value} {r : Lv} : USet (x1 :: x2 :: x3 :: x4 :: x5 :: x6 :: x7 :: x8 :: x9 :: x10 :: x11 :: x12 :: u :: r) 12 v (x1 :: x2 :: x3 :: x4 :: x5 :: x6 :: x7 :: x8 :: x9 :: x10 :: x11 :: x12 :: v :: r) := .there .h11
theorem USet.h13 {x1 x2 x3 x4 x5 x6 x7 x8 x9 x10 x11 x12 x13 v : Value} {r : Lv} : USet (x1 :: x2 :: x3 :: x4 :: x5 :: x6 :: x7 :: x8 :: x9 :: x10 :: x11 :: x12 :: x13 :: u :: r) 13 v (x1 :: x2 :: x3 :: x4 :: x5 :: x6 :: x7 :: x8 :: x9 :: x10 :: x11 :: x12 :: x13 :: v :: r) := .there .h12
theorem USet.h14 {x1 x2 x3 x4 x5 x6 x7 x8 x9 x10 x11 x12 x13 x14 v : Value} {r : Lv} : USet (x1 :: x2 :: x3 :: x4 :: x5 :: x6 :: x7 :: x8 :: x9 :: x10 :: x11 :: x12 :: x13 :: x14 :: u :: r) 14 v (x1 :: x2 :: x3 :: x4 :: x5 :: x6 :: x7 :: x8 :: x9 :: x10 :: x11 :: x12 :: x13 :: x14 :: v :: r) := .there .h13
theorem USet.h15 {x1 x2 x3 x4 x5 x6 x7 x8 x9 x10 x11 x12 x13 x14 x15 v : Value} {r : Lv} : USet (x1 :: x2 :: x3 :: x4 :: x5 :: x6 :: x7 :: x8 :: x9 :: x10 :: x11 :: x12 :: x13 :: x14 :: x15 :: u :: r) 15 v (x1 :: x2 :: x3 :: x4 :: x5 :: x6 :: x7 :: x8 :: x9 :: x10 :: x11 :: x12 :: x13 :: x14 :: x15 :: v :: r) := .there .h14
theorem USet.h16 {x1 x2 x3 x4 x5 x6 x7 x8 x9 x10 x11 x12 x13 x14 x15 x16 v : Value} {r : Lv} : USet (x1 :: x2 :: x3 :: x4 :: x5 :: x6 :: x7 :: x8 :: x9 :: x10 :: x11 :: x12 :: x13 :: x14 :: x15 :: x16 :: u :: r) 16 v (x1 :: x2 :: x3 :: x4 :: x5 :: x6 :: x7 :: x8 :: x9 :: x10 :: x11 :: x12 :: x13 :: x14 :: x15 :: x16 :: v :: r) := .there .h15
theorem fQ.k0 { e : ya} : fQ (e :: r) [e] (r) := .cons .here .nil
theorem fQ.k1 : fQ (x1 :: e :: r) [e] (x1 :: r) := .cons .h1 .nil
theorem fQ.k2 : fQ (x1 :: x2 :: e :: r) [e] (x1 :: x2 :: r) := .cons .h2 .nil
theorem fQ.k3 : fQ (x1 :: x2 :: x3 :: e :: r) [e] (x1 :: x2 :: x3 :: r) := .cons .h3 .nil
theorem fQ.k4 : fQ (x1 :: x2 :: x3 :: x4 :: e :: r) [e] (x1 :: x2 :: x3 :: x4 :: r) := .cons .h4 .nil
theorem fQ.k5 : fQ (x1 :: x2 :: x3 :: x4 :: x5 :: e :: r) [e] (x1 :: x2 :: x3 :: x4 :: x5 :: r) := .cons .h5 .nil
theorem fQ.k6 : fQ (x1 :: x2 :: x3 :: x4 :: x5 :: x6 :: e :: r) [e] (x1 :: x2 :: x3 :: x4 :: x5 :: x6 :: r) := .cons .h6 .nil
theorem fQ.k7 : fQ (x1 :: x2 :: x3 :: x4 :: x5 :: x6 :: x7 :: e :: r) [e] (x1 :: x2 :: x3 :: x4 :: x5 :: x6 :: x7 :: r) := .cons .h7 .nil
theorem fQ.k8 : fQ (x1 :: x2 :: x3 :: x4 :: x5 :: x6 :: x7 :: x8 :: e :: r) [e] (x1 :: x2 :: x3 :: x4 :: x5 :: x6 :: x7 :: x8 :: r) := .cons .h8 .nil
theorem fQ.k9 : fQ (x1 :: x2 :: x3 :: x4 :: x5 :: x6 :: x7 :: x8 :: x9 :: e :: r) [e] (x1 :: x2 :: x3 :: x4 :: x5 :: x6 :: x7 :: x8 :: x9 :: r) := .cons .h9 .nil
theorem fQ.k10 : fQ (x1 :: x2 :: x3 :: x4 :: x5 :: x6 :: x7 :: x8 :: x9 :: x10 :: e :: r) [e] (x1 :: x2 :: x3 :: x4 :: x5 :: x6 :: x7 :: x8 :: x9 :: x10 :: r) := .cons .h10 .nil
theorem fQ.k11 : fQ (x1 :: x2 :: x3 :: x4 :: x5 :: x6 :: x7 :: x8 :: x9 :: x10 :: x11 :: e :: r) [e] (x1 :: x2 :: x3 :: x4 :: x5 :: x6 :: x7 :: x8 :: x9 :: x10 :: x11 :: r) := .cons .h11 .nil
theorem zJ.p0 { e : ya} : zJ (e :: r) [e] := .cons .here (.nil _)
theorem zJ.p1 : zJ (x1 :: e :: r) [e] := .cons .h1 (.nil _)
theorem zJ.p2 : zJ (x1 :: x2 :: e :: r) [e] := .cons .h2 (.nil _)
theorem zJ.p3 : zJ (x1 :: x2 :: x3 :: e :: r) [e] := .cons .h3 (.nil _)
theorem zJ.p4 : zJ (x1 :: x2 :: x3 :: x4 :: e :: r) [e] := .cons .h4 (.nil _)
theorem zJ.p5 : zJ (x1 :: x2 :: x3 :: x4 :: x5 :: e :: r) [e] := .cons .h5 (.nil _)
theorem zJ.p6 : zJ (x1 :: x2 :: x3 :: x4 :: x5 :: x6 :: e :: r) [e] := .cons .h6 (.nil _)
theorem zJ.p7 : zJ (x1 :: x2 :: x3 :: x4 :: x5 :: x6 :: x7 :: e :: r) [e] := .cons .h7 (.nil _)
theorem zJ.p8 : zJ (x1 :: x2 :: x3 :: x4 :: x5 :: x6 :: x7 :: x8 :: e :: r) [e] := .cons .h8 (.nil _)
theorem zJ.p9 : zJ (x1 :: x2 :: x3 :: x4 :: x5 :: x6 :: x7 :: x8 :: x9 :: e :: r) [e] := .cons .h9 (.nil _)
theorem zJ.pp {a b : ya} : zJ (a :: b :: r) [a, b] := .cons .here .p0
class Pans (Q : yd) (Q0 : outParam yd) : Prop where
 h : ∀ ch env h, Q0 (.panic ch) env h -> Q (.panic ch) env h
instance (priority := low) {Q : yd} : Pans Q Q := ⟨fun _ _ _ h => h⟩
instance {P : Program} {n : Nat} {c : Code} {Q Q0 : yd} [r : Pans Q Q0] : Pans (xJ P n c Q) Q0 := ⟨fun ch env h k => r.h ch env h k⟩
instance {i : Nat} {Q Q0 : yd} [r : Pans Q Q0] : Pans (wE i Q) Q0 := ⟨fun ch env h k => r.h ch env h k⟩
variable {P : Program} {Q : yd} {env : Env} {n : Nat}
theorem Z2 {ch : List PanicEntry} {h : zZ} : ∀ fs : List Fm, Q (.panic ch) env h -> WY P n fs Q (.panic ch) env h
 | [], hq => hq
 | .thn _ :: r, hq => Z2 r hq
 | .blk _ :: r, hq => Z2 r hq
instance {P : Program} {n : Nat} {fs : List Fm} {Q Q0 : yd} [r : Pans Q Q0] : Pans (WY P n fs Q) Q0 := ⟨fun ch env h k => Z2 fs (r.h ch env h k)⟩
def sq : List Nat -> OB -> OB
 | [], t => t
 | i :: r, t => match Nat.blt i 100 with
   | true => .step i true (sq r t)
   | false => .step (i - 100) false (sq r t)
def sT : List Nat -> OT -> OT
 | [], t => t
 | i :: r, t => match Nat.blt i 100 with
   | true => .step i .pure (sT r t)
   | false => match Nat.blt i 200 with
     | true => .step (i - 100) .read (sT r t)
     | false => match Nat.blt i 300 with
       | true => .step (i - 200) .kept (sT r t)
       | false => .step (i - 300) .wild (sT r t)
def bG (T : Vc) (n : Nat) (l : List Oper) : Nat -> OB -> Env -> OB × Env
 | 0, t, env => (t, env)
 | k + 1, t0, env => match t0 with
   | .step i true t => match nth l i with
     | some o => match o.dst with
       | some d => match Nat.blt d n with
         | true => match wanted l env o with
           | some true => match DW T env o.op with
             | some v => bG T n l k t ((d, v) :: env)
             | none => (t0, env)
           | some false => bG T n l k t ((d, undef) :: env)
           | none => (t0, env)
         | false => (t0, env)
       | none => (t0, env)
     | none => (t0, env)
   | _ => (t0, env)
variable {L : List ya} {T : Vc} {l : List Oper} {m : Mp}
theorem gz (hT : jl P T) : ∀ (k : Nat) {t t' : OB} {env env' : Env}, bG T n l k t env = (t', env') -> Z7 P n l t' env' m L Q -> Z7 P n l t env m L Q := by
 intro k
 induction k with
 | zero => intro t t' env env' h hk; unfold bG at h; cases h; exact hk
 | succ k ih =>
   intro t t' env env' h hk;unfold bG at h
   split at h
   ·split at h
    ·rename_i ho
     split at h
     ·rename_i hd
      split at h
      ·rename_i hn
       split at h
       ·rename_i hw
        split at h
        ·rename_i hv
         have h2 := ih h hk;exact Qq ho (aP hT hv) hd hn hw h2
        ·cases h; exact hk
       ·rename_i hw
        have h2 := ih h hk;exact Ol ho hw hd hn h2
       ·cases h; exact hk
      ·cases h; exact hk
     ·cases h; exact hk
    ·cases h; exact hk
   ·cases h; exact hk
def ci (T : Vc) (n : Nat) (l : List Oper) : Nat -> OT -> Env -> OT × Env
 | 0, t, env => (t, env)
 | k + 1, t0, env => match t0 with
   | .step i kd t => match kd.quiet with
     | true => match nth l i with
       | some o => match o.dst with
         | some d => match Nat.blt d n with
           | true => match wanted l env o with
             | some true => match kd with
               | .pure => match DW T env o.op with
                 | some v => ci T n l k t ((d, v) :: env)
                 | none => (t0, env)
               | _ => (t0, env)
             | some false => ci T n l k t ((d, undef) :: env)
             | none => (t0, env)
           | false => (t0, env)
         | none => (t0, env)
       | none => (t0, env)
     | false => (t0, env)
   | _ => (t0, env)
theorem gy (hT : jl P T) {wild : Nat -> Bool} : ∀ (k : Nat) {t t' : OT} {env env' : Env}, ci T n l k t env = (t', env') -> aB P n l wild t' env' m L Q -> aB P n l wild t env m L Q := by
 intro k
 induction k with
 | zero => intro t t' env env' h hk; unfold ci at h; cases h; exact hk
 | succ k ih =>
   intro t t' env env' h hk;unfold ci at h
   split at h
   ·rename_i kd _
    split at h
    ·rename_i hq
     split at h
     ·rename_i ho
      split at h
      ·rename_i hd
       split at h
       ·rename_i hn
        split at h
        ·rename_i hw
         split at h
         ·split at h
          ·rename_i hv
           have h2 := ih h hk;exact Qp ho (aP hT hv) hd hn hw h2
          ·cases h; exact hk
         ·cases h; exact hk
        ·rename_i hw
         have h2 := ih h hk;exact Oi hq ho hw hd hn h2
        ·cases h; exact hk
       ·cases h; exact hk
      ·cases h; exact hk
     ·cases h; exact hk
    ·cases h; exact hk
   ·cases h; exact hk
variable {post : Value -> List ya -> Prop} {rs : List ResultVar}
theorem xi {v : Value} (hv : Yy P env L rs [v]) (hq : post (VG [v]) []) : QS (Q2 P rs (fX m post)) .ret env m L := zB [v] hv [] fV hq
theorem rt2 {m2 : Mp} {v : Value} (hl : Le m m2) (hv : Yy P env L rs [v]) (hq : post (VG [v]) []) : QS (Q2 P rs (fX m post)) .ret env m2 L := wJ hl [v] hv [] fV hq
theorem QR {α : Type} {S : α -> Env} {LL : α -> List ya} {F : α -> Prop} {μ : α -> Nat} {k : Nat} (y : α) (hp : zJ L (LL y)) (hF : F y) (hk : μ y < k) (hs : dF (S y) env := by (repeat (first | exact trivial | refine ⟨rfl, ?_⟩))) : QS (vX m S LL F μ k Q) .normal env m L := Ya y hs hp hF hk
theorem L0 (hT : jl P T) (k : Nat) {e : Exit} {Q0 : yd} {fs : List Fm} {g' : GU} {fs' : List Fm} {env' : Env} [r : Reif P n Q fs Q0] (h : vW T n k (.exit e) fs env = (g', fs', env')) (hk : xH P n g' fs' env' m L Q0) : QS Q e env m L := by
 rw [r.eq]; exact ku hT k (g := .exit e) h hk
end Go.Eng
