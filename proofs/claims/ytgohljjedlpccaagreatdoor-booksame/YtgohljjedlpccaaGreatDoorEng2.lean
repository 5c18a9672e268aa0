/- A Hoare logic over heaps for the model's code, and its lemmas, one an operation: all are proved here. No condition. -/
import Derived.Test.YtgohljjedlpccaaGreatDoorEng
namespace Go.Eng
structure Ent where
 dom : Nat → Bool
 inv : Mp → Prop
 loc : ∀ {m m' : Mp}, (∀ k, dom k = true → m' k = m k) → inv m → inv m'
 has : ∀ {m : Mp} {k : Nat}, inv m → dom k = true → m k ≠ none
def blk (b : Nat) (o : Obj) : Ent where
 dom := fun k => Nat.beq b k
 inv := fun m => m b = some o
 loc := fun {m m'} h hi => by rw [h b (by simp)]; exact hi
 has := fun {m k} hi hk => by
  have := Nat.eq_of_beq_eq_true hk;subst this;rw [hi];exact fun e => by cases e
abbrev cel (b : Nat) (l : List Value) (t : TypeId) : Ent := blk b (.cells l.toArray t (0, 0))
def own (e sz : Nat) (A : Option Addr) (n c : Nat) (xs : List Value) : Ent where
 dom := inB A
 inv := fun m => Own m e sz A n c xs
 loc := fun h hi => hi.of_eq h
 has := fun hi hk => by
  obtain ⟨cur, hm⟩ := hi.at_ hk;rw [hm];exact fun e => by cases e
structure HS (m : Mp) (L : List Ent) (h : Heap) : Prop where
 base : Le m (mp h)
 inv : ∀ e ∈ L, e.inv (mp h)
 out : ∀ e ∈ L, ∀ k, e.dom k = true → m k = none
 apart : L.Pairwise fun a b => ∀ k, a.dom k = true → b.dom k = false
theorem HS.nil {m : Mp} {h : Heap} (hl : Le m (mp h)) : HS m [] h := ⟨hl, (fun e he => by cases he), (fun e he => by cases he), List.Pairwise.nil⟩
theorem HS.cons_iff {m : Mp} {e : Ent} {L : List Ent} {h : Heap} : HS m (e :: L) h ↔ HS m L h ∧ e.inv (mp h) ∧ (∀ k, e.dom k = true → m k = none) ∧ ∀ x ∈ L, ∀ k, e.dom k = true → x.dom k = false := by
 constructor
 ·intro ⟨h1, h2, h3, h4⟩;rw [List.pairwise_cons] at h4;exact ⟨⟨h1, fun x hx => h2 x (List.mem_cons_of_mem _ hx), fun x hx => h3 x (List.mem_cons_of_mem _ hx), h4.2⟩, h2 e (by simp), h3 e (by simp), h4.1⟩
 ·intro ⟨⟨h1, h2, h3, h4⟩, g1, g2, g3⟩;refine ⟨h1, fun x hx => ?_, fun x hx => ?_, List.pairwise_cons.2 ⟨g3, h4⟩⟩
  ·rcases List.mem_cons.1 hx with rfl | hx
   ·exact g1
   ·exact h2 x hx
  ·rcases List.mem_cons.1 hx with rfl | hx
   ·exact g2
   ·exact h3 x hx
theorem HS.tail {m : Mp} {e : Ent} {L : List Ent} {h : Heap} (hs : HS m (e :: L) h) : HS m L h := (HS.cons_iff.1 hs).1
theorem HS.head {m : Mp} {e : Ent} {L : List Ent} {h : Heap} (hs : HS m (e :: L) h) : e.inv (mp h) := (HS.cons_iff.1 hs).2.1
inductive Tk : List Ent → Ent → List Ent → Prop
 | here {e : Ent} {r : List Ent} : Tk (e :: r) e r
 | there {x e : Ent} {r r' : List Ent} (h : Tk r e r') : Tk (x :: r) e (x :: r')
inductive Sel : List Ent → Ent → Ent → List Ent → Prop
 | here {e e' : Ent} {r : List Ent} : Sel (e :: r) e e' (e' :: r)
 | there {x e e' : Ent} {r r' : List Ent} (h : Sel r e e' r') : Sel (x :: r) e e' (x :: r')
theorem Tk.mem {L : List Ent} {e : Ent} {r : List Ent} (h : Tk L e r) : ∀ x, x ∈ L ↔ x = e ∨ x ∈ r := by
 induction h with
 | here => intro x; simp
 | there _ ih => intro x; simp only [List.mem_cons, ih]; exact or_left_comm
theorem HS.take {m : Mp} {L : List Ent} {e : Ent} {r : List Ent} {h : Heap} (ht : Tk L e r) : HS m L h → HS m (e :: r) h := by
 induction ht with
 | here => exact id
 | @there x e r r' ht ih =>
   intro hs;obtain ⟨h1, h2, h3, h4⟩ := HS.cons_iff.1 hs;have h5 := ih h1;obtain ⟨g1, g2, g3, g4⟩ := HS.cons_iff.1 h5;refine HS.cons_iff.2 ⟨HS.cons_iff.2 ⟨g1, h2, h3, fun y hy => h4 y ((ht.mem y).2 (.inr hy))⟩, g2, g3, fun y hy k hk => ?_⟩;rcases List.mem_cons.1 hy with rfl | hy
   ·cases hd : y.dom k with
    | false => rfl
    | true => have := h4 e ((ht.mem e).2 (.inl rfl)) k hd; rw [hk] at this; cases this
   ·exact g4 y hy k hk
theorem HS.untake {m : Mp} {L : List Ent} {e : Ent} {r : List Ent} {h : Heap} (ht : Tk L e r) : HS m (e :: r) h → HS m L h := by
 induction ht with
 | here => exact id
 | @there x e r r' ht ih =>
   intro hs;obtain ⟨h1, h2, h3, h4⟩ := HS.cons_iff.1 hs;obtain ⟨g1, g2, g3, g4⟩ := HS.cons_iff.1 h1;refine HS.cons_iff.2 ⟨ih (HS.cons_iff.2 ⟨g1, h2, h3, fun y hy => h4 y (List.mem_cons_of_mem _ hy)⟩), g2, g3, fun y hy k hk => ?_⟩;rcases (ht.mem y).1 hy with rfl | hy
   ·cases hd : y.dom k with
    | false => rfl
    | true => have := h4 x (by simp) k hd; rw [hk] at this; cases this
   ·exact g4 y hy k hk
theorem Sel.split {L : List Ent} {e e' : Ent} {L' : List Ent} (hs : Sel L e e' L') : ∃ r, Tk L e r ∧ Tk L' e' r := by
 induction hs with
 | here => exact ⟨_, .here, .here⟩
 | there _ ih => obtain ⟨r, h1, h2⟩ := ih; exact ⟨_, .there h1, .there h2⟩
theorem HS.sel {m : Mp} {L L' : List Ent} {e e' : Ent} {h h' : Heap} (hs : Sel L e e' L') (hh : HS m L h) (hk : ∀ r, HS m (e :: r) h → HS m (e' :: r) h') : HS m L' h' := by
 obtain ⟨r, h1, h2⟩ := hs.split;exact (hk r (hh.take h1)).untake h2
theorem vL {h : Heap} {b : Nat} : mp h b = none ↔ h.size ≤ b := by unfold mp; rw [Array.getElem?_eq_none_iff]
theorem HS.upd {m : Mp} {e e' : Ent} {r : List Ent} {h h' : Heap} (hs : HS m (e :: r) h) (ho : ∀ k, k < h.size → e.dom k = false → mp h' k = mp h k) (hi : e'.inv (mp h')) (hd : ∀ k, e'.dom k = true → e.dom k = true ∨ h.size ≤ k) : HS m (e' :: r) h' := by
 obtain ⟨⟨h1, h2, h3, h5⟩, g1, g2, g3⟩ := HS.cons_iff.1 hs
 have same : ∀ x ∈ r, ∀ k, x.dom k = true → mp h' k = mp h k := fun x hx k hk => by
  refine ho k ?_ ?_
  ·rcases Nat.lt_or_ge k h.size with hlt | hge
   ·exact hlt
   ·exact absurd (vL.2 hge) (x.has (h2 x hx) hk)
  ·cases he : e.dom k with
   | false => rfl
   | true => have := g3 x hx k he; rw [hk] at this; cases this
 refine HS.cons_iff.2 ⟨⟨fun k o hk => ?_, fun x hx => x.loc (same x hx) (h2 x hx), h3, h5⟩, hi, fun k hk => ?_, fun x hx k hk => ?_⟩
 ·have h6 := h1 k o hk;rw [ho k (xI h6) ?_]
  ·exact h6
  ·cases he : e.dom k with
   | false => rfl
   | true => rw [g2 k he] at hk; cases hk
 ·rcases hd k hk with he | he
  ·exact g2 k he
  ·cases hm : m k with
   | none => rfl
   | some o => have := xI (h1 k o hm); omega
 ·cases hxk : x.dom k with
  | false => rfl
  | true =>
    rcases hd k hk with he | he
    ·have := g3 x hx k he; rw [hxk] at this; cases this
    ·exact absurd (vL.2 he) (x.has (h2 x hx) hxk)
theorem HS.new {m : Mp} {e' : Ent} {r : List Ent} {h h' : Heap} (hs : HS m r h) (hl : Le (mp h) (mp h')) (hi : e'.inv (mp h')) (hd : ∀ k, e'.dom k = true → mp h k = none) : HS m (e' :: r) h' := by
 have h0 : HS m (⟨fun _ => false, fun _ => True, fun _ _ => trivial, fun _ h => by cases h⟩ :: r) h := HS.cons_iff.2 ⟨hs, trivial, fun k hk => by (exact absurd hk (by simp)), fun x hx k hk => by (exact absurd hk (by simp))⟩;refine h0.upd (fun k hk _ => ?_) hi fun k hk => .inr (vL.1 (hd k hk));have : mp h k = some h[k] := by simp [mp, hk]
 rw [this];exact hl _ _ this
theorem HS.le {m : Mp} {r : List Ent} {h h' : Heap} (hs : HS m r h) (hl : Le (mp h) (mp h')) : HS m r h' :=
 (hs.new (e' := ⟨fun _ => false, fun _ => True, fun _ _ => trivial, fun _ h => by cases h⟩) hl trivial fun k hk => by (exact absurd hk (by simp))).tail
def Pick (L L' : List Ent) : Prop := ∀ (m : Mp) (h : Heap), HS m L h → HS m L' h
theorem Pick.refl (L : List Ent) : Pick L L := fun _ _ h => h
theorem Pick.nil (L : List Ent) : Pick L [] := fun _ _ h => HS.nil h.base
theorem Pick.cons {L L' r : List Ent} {e : Ent} (ht : Tk L e r) (hp : Pick r L') : Pick L (e :: L') := fun m h hs => by
 have h0 := hs.take ht;obtain ⟨h1, h2, h3, h4⟩ := HS.cons_iff.1 h0;have h5 := hp m h h1;refine HS.cons_iff.2 ⟨h5, h2, h3, fun x hx k hk => ?_⟩
 -- an entry of L' has no block of e
 have key : HS (fun j => if e.dom j then mp h j else m j) r h := by
  refine ⟨fun j o hj => ?_, h1.inv, fun x hx j hj => ?_, h1.apart⟩
  ·split at hj
   ·exact hj
   ·exact h1.base j o hj
  ·split
   ·rename_i he
    have := h4 x hx j he;rw [hj] at this;cases this
   ·exact h1.out x hx j hj
 cases hxk : x.dom k with
 | false => rfl
 | true =>
   have h6 := (hp _ h key).out x hx k hxk;simp only [hk, if_true] at h6;exact absurd h6 (e.has h2 hk)
theorem Pick.drop {L : List Ent} {e : Ent} : Pick (e :: L) L := fun _ _ hs => hs.tail
section
variable {P : Program} {n : Nat} {env : Env} {m : Mp} {L : List Ent} {Q : Post}
def TS (P : Program) (n : Nat) (c : Code) (env : Env) (m : Mp) (L : List Ent) (Q : Post) : Prop := ∀ h, HS m L h → T P n c env h Q
def QS (Q : Post) (e : Exit) (env : Env) (m : Mp) (L : List Ent) : Prop := ∀ h, HS m L h → Q e env h
def VS (P : Program) (n : Nat) (l0 l : List Oper) (env : Env) (m : Mp) (L : List Ent) (Q : Post) : Prop := ∀ h, HS m L h → V P n l0 l env h Q
def VTS (P : Program) (n : Nat) (l : List Oper) (wild : Nat → Bool) (t : OT) (env : Env) (m : Mp) (L : List Ent) (Q : Post) : Prop := ∀ h, HS m L h → VT P n l wild t env h Q
theorem WZ {a b : Code} (ht : TS P n a env m L (thenQ P n b Q)) : TS P n (.seq a b) env m L Q := fun h hs => zM (ht h hs)
theorem Wf {c : Code} {id : Nat} (ht : TS P n c env m L (blockQ id Q)) : TS P n (.block id c) env m L Q := fun h hs => yo (ht h hs)
theorem Yh (hq : QS Q .normal env m L) : TS P n .skip env m L Q := fun h hs => xN (hq h hs)
theorem Zq {l : Nat} (hq : QS Q .normal env m L) : TS P n (.label l) env m L Q := fun h hs => T_label (hq h hs)
theorem TS_exit {id : Nat} (hq : QS Q (.exit id) env m L) : TS P n (.exit id) env m L Q := fun h hs => qJ (hq h hs)
theorem TS_ret (hq : QS Q .ret env m L) : TS P n .ret env m L Q := fun h hs => yH (hq h hs)
theorem TS_true {c : Operand} {a b : Code} (hc : ev env c = some (.bool true)) (ht : TS P n a env m L Q) : TS P n (.cond c a b) env m L Q := fun h hs => yQ hc (ht h hs)
theorem Wa {c : Operand} {a b : Code} (hc : ev env c = some (.bool false)) (ht : TS P n b env m L Q) : TS P n (.cond c a b) env m L Q := fun h hs => yW hc (ht h hs)
theorem TS_keep {c : Code} (r : Env) (hr : Sub r env) (ht : TS P n c r m L Q) : TS P n c env m L Q := fun h hs => jS r hr (ht h hs)
theorem xB {c : Code} (L' : List Ent) (hp : Pick L L') (ht : TS P n c env m L' Q) : TS P n c env m L Q := fun h hs => ht h (hp m h hs)
theorem qk {l0 l : List Oper} (L' : List Ent) (hp : Pick L L') (ht : VS P n l0 l env m L' Q) : VS P n l0 l env m L Q := fun h hs => ht h (hp m h hs)
theorem Yj {c : Code} (ht : TS P n c env m L Q) : QS (thenQ P n c Q) .normal env m L := fun h hs => zA (ht h hs)
theorem km {c : Code} {i : Nat} (hq : QS Q (.exit i) env m L) : QS (thenQ P n c Q) (.exit i) env m L := fun h hs => xf (hq h hs)
theorem zL {c : Code} (hq : QS Q .ret env m L) : QS (thenQ P n c Q) .ret env m L := fun h hs => yD (hq h hs)
theorem y8 {id : Nat} (hq : QS Q .normal env m L) : QS (blockQ id Q) .normal env m L := fun h hs => yG (hq h hs)
theorem zF {id : Nat} (hq : QS Q .normal env m L) : QS (blockQ id Q) (.exit id) env m L := fun h hs => xT (hq h hs)
theorem kq {id i : Nat} (hne : Nat.beq i id = false) (hq : QS Q (.exit i) env m L) : QS (blockQ id Q) (.exit i) env m L := fun h hs => YG hne (hq h hs)
theorem zH {id : Nat} (hq : QS Q .ret env m L) : QS (blockQ id Q) .ret env m L := fun h hs => yS (hq h hs)
def roundS {α : Type} (m : Mp) (S : α → Env) (LL : α → List Ent) (F : α → Prop) (μ : α → Nat) (k : Nat) (Q : Post) : Post := roundQ S (fun y h => F y ∧ HS m (LL y) h) μ k Q
theorem zG {α : Type} {S : α → Env} {LL : α → List Ent} {F : α → Prop} {μ : α → Nat} {k i : Nat} (hq : QS Q (.exit i) env m L) : QS (roundS m S LL F μ k Q) (.exit i) env m L := fun h hs => xQ (hq h hs)
theorem zI {α : Type} {S : α → Env} {LL : α → List Ent} {F : α → Prop} {μ : α → Nat} {k : Nat} (hq : QS Q .ret env m L) : QS (roundS m S LL F μ k Q) .ret env m L := fun h hs => wC (hq h hs)
theorem xZ {α : Type} {S : α → Env} {LL : α → List Ent} {F : α → Prop} {μ : α → Nat} {k : Nat} (y : α) (hs : Sub (S y) env) (hp : Pick L (LL y)) (hF : F y) (hk : μ y < k) : QS (roundS m S LL F μ k Q) .normal env m L :=
 fun h hh => ⟨y, hs, ⟨hF, hp m h hh⟩, hk⟩
theorem zZ {α : Type} {c : Code} (S : α → Env) (LL : α → List Ent) (F : α → Prop) (μ : α → Nat) (y : α) (hs : Sub (S y) env) (hp : Pick L (LL y)) (hF : F y)
  (hr : ∀ (y : α), F y → TS P n c (S y) m (LL y) (roundS m S LL F μ (μ y) Q)) : TS P n (.loop c) env m L Q :=
 fun h hh => qI S (fun y h => F y ∧ HS m (LL y) h) μ y hs ⟨hF, hp m h hh⟩ fun y h ⟨h1, h2⟩ => hr y h1 h h2
theorem vS {α : Type} {a b : Code} (S : α → Env) (LL : α → List Ent) (F : α → Prop) (h1 : TS P n a env m L (roundS m S LL F (fun _ => 0) 1 Q)) (h2 : ∀ y, F y → TS P n b (S y) m (LL y) Q) : TS P n a env m L (thenQ P n b Q) :=
 fun h hh => T_cut S (fun y h => F y ∧ HS m (LL y) h) (h1 h hh) fun y h ⟨a1, a2⟩ => h2 y a1 h a2
theorem TS_cut2 {α : Type} {a c b : Code} (S : α → Env) (LL : α → List Ent) (F : α → Prop) (h1 : TS P n a env m L (thenQ P n c (roundS m S LL F (fun _ => 0) 1 Q))) (h2 : ∀ y, F y → TS P n b (S y) m (LL y) Q) : TS P n a env m L (thenQ P n (.seq c b) Q) := by
 intro h hh;refine qH (h1 h hh) ?_;intro e env' h' hq
 have key : ∀ e env' h', roundS m S LL F (fun _ => 0) 1 Q e env' h' → thenQ P n b Q e env' h' := by
  intro e env' h' hq;cases e with
  | normal =>
    obtain ⟨y, hs, ⟨hF, hH⟩, _⟩ := hq;exact jS (S y) hs (h2 y hF h' hH)
  | exit i => exact hq
  | goto l => exact hq
  | ret => exact hq
  | panic c => exact hq
  | outgrown => exact hq
 cases e with
 | normal => exact zM (qH hq key)
 | exit i => exact hq
 | goto l => exact hq
 | ret => exact hq
 | panic c => exact hq
 | outgrown => exact hq
theorem vA {α : Type} {a c b : Code} (S : α → Env) (LL : α → List Ent) (F : α → Prop) (h1 : TS P n a env m L (thenQ P n c (roundS m S LL F (fun _ => 0) 1 Q))) (h2 : ∀ y, F y → TS P n b (S y) m (LL y) Q) : TS P n a env m L (thenQ P n c (thenQ P n b Q)) := by
 intro h hh;refine qH (h1 h hh) ?_;intro e env' h' hq
 have key : ∀ e env' h', roundS m S LL F (fun _ => 0) 1 Q e env' h' → thenQ P n b Q e env' h' := by
  intro e env' h' hq;cases e with
  | normal =>
    obtain ⟨y, hs, ⟨hF, hH⟩, _⟩ := hq;exact jS (S y) hs (h2 y hF h' hH)
  | exit i => exact hq
  | goto l => exact hq
  | ret => exact hq
  | panic c => exact hq
  | outgrown => exact hq
 cases e with
 | normal => exact qH hq key
 | exit i => exact hq
 | goto l => exact hq
 | ret => exact hq
 | panic c => exact hq
 | outgrown => exact hq
variable {l0 l : List Oper} {o : Oper} {v : Value} {d : Nat}
theorem XN {id : Nat} (hv : VS P n l0 l0 env m L Q) : TS P n (.region id l0.toArray false) env m L Q := fun h hs => zD (hv h hs)
theorem VS_nil (hq : QS Q .normal env m L) : VS P n l0 [] env m L Q := fun h hs => zN (hq h hs)
theorem Ye (hr : PureV P n o env v) (hd : o.dst = some d) (hn : Nat.blt d n = true) (hw : wanted l0 env o = some true) (hk : VS P n l0 l ((d, v) :: env) m L Q) : VS P n l0 (o :: l) env m L Q := fun h hs => zB hr hd hn hw (hk h hs)
theorem VS_read (hr : ∀ h, HS m L h → ReadV P n o env h v) (hd : o.dst = some d) (hn : Nat.blt d n = true) (hw : wanted l0 env o = some true) (hk : VS P n l0 l ((d, v) :: env) m L Q) : VS P n l0 (o :: l) env m L Q := fun h hs => zO (hr h hs) hd hn hw (hk h hs)
theorem VS_skip (hw : wanted l0 env o = some false) (hd : o.dst = some d) (hn : Nat.blt d n = true) (hk : VS P n l0 l ((d, undef) :: env) m L Q) : VS P n l0 (o :: l) env m L Q := fun h hs => w9 hw hd hn (hk h hs)
theorem xF {p : Prop} [Decidable p] (hr : PureV P n o env (.bool (decide p))) (hd : o.dst = some d) (hn : Nat.blt d n = true) (hw : wanted l0 env o = some true)
  (h1 : p → VS P n l0 l ((d, .bool true) :: env) m L Q) (h2 : ¬ p → VS P n l0 l ((d, .bool false) :: env) m L Q) : VS P n l0 (o :: l) env m L Q := fun h hs => V_if hr hd hn hw (fun hp => h1 hp h hs) (fun hp => h2 hp h hs)
def StepS (P : Program) (n : Nat) (Q : Post) (o : Oper) (env : Env) (m : Mp) (L : List Ent) (kept : Bool) (K : Env → List Ent → Prop) : Prop :=
 ∀ h, HS m L h → Step P n Q o env h fun env' h' => (kept = true → Le (mp h) (mp h')) ∧ ∃ L', HS m L' h' ∧ K env' L'
theorem zE {kept : Bool} (hs : StepS P n Q o env m L kept fun env' L' => VS P n l0 l env' m L' Q) (hw : wanted l0 env o = some true) : VS P n l0 (o :: l) env m L Q :=
 fun h hh => zY ((hs h hh).mono fun _ _ ⟨_, _, h1, h2⟩ => h2 _ h1) hw
variable {wild : Nat → Bool} {t : OT} {i : Nat}
theorem zc {id : Nat} (t : OT) (hm : P.follows .mixedOrders = true) (hck : checkT l t = true) (hQ : ∀ c env env' h, Q (.panic c) env h → Q (.panic c) env' h)
  (hv : VTS P n l (wildT t) t env m L Q) : TS P n (.region id l.toArray true) env m L Q := fun h hs => Yg t hm hck hQ (hv h hs)
theorem VTS_nil (hq : QS Q .normal env m L) : VTS P n l wild .done env m L Q := fun h hs => kj (hq h hs)
theorem xY {s : OT} (h1 : VTS P n l wild s env m L Q) (h2 : VTS P n l wild t env m L Q) : VTS P n l wild (.fork s t) env m L Q := fun h hs => kk (h1 h hs) (h2 h hs)
theorem Zn (ho : nth l i = some o) (hr : PureV P n o env v) (hd : o.dst = some d) (hn : Nat.blt d n = true) (hw : wanted l env o = some true) (hk : VTS P n l wild t ((d, v) :: env) m L Q) : VTS P n l wild (.step i .pure t) env m L Q := fun h hs => vj ho hr hd hn hw (hk h hs)
theorem WU (ho : nth l i = some o) (hr : ∀ h, HS m L h → ReadV P n o env h v) (hd : o.dst = some d) (hn : Nat.blt d n = true) (hw : wanted l env o = some true) (hk : VTS P n l wild t ((d, v) :: env) m L Q) : VTS P n l wild (.step i .read t) env m L Q := fun h hs => ki ho (hr h hs) hd hn hw (hk h hs)
theorem WT {k : Kd} (hq : k.quiet = true) (ho : nth l i = some o) (hw : wanted l env o = some false) (hd : o.dst = some d) (hn : Nat.blt d n = true) (hk : VTS P n l wild t ((d, undef) :: env) m L Q) : VTS P n l wild (.step i k t) env m L Q := fun h hs => VT_skip hq ho hw hd hn (hk h hs)
theorem zn (ho : nth l i = some o) (hs : StepS P n Q o env m L true fun env' L' => VTS P n l wild t env' m L' Q) (hw : wanted l env o = some true) : VTS P n l wild (.step i .kept t) env m L Q :=
 fun h hh => xu ho ((hs h hh).mono fun _ _ ⟨h0, _, h1, h2⟩ => ⟨h0 rfl, h2 _ h1⟩) hw
theorem zS {kept : Bool} (ho : nth l i = some o) (hwl : wild i = true) (hs : StepS P n Q o env m L kept fun env' L' => VTS P n l wild t env' m L' Q) (hw : wanted l env o = some true) : VTS P n l wild (.step i .wild t) env m L Q :=
 fun h hh => qj ho hwl ((hs h hh).mono fun _ _ ⟨_, _, h1, h2⟩ => h2 _ h1) hw
end
section
variable {P : Program} {n : Nat} {env : Env} {m : Mp} {L r : List Ent} {Q : Post} {K : Env → List Ent → Prop} {dst : Option Tmp} {d : Nat} {ty : TypeId} {pos : String} {aft : Array Edge} {gd : Option (Nat × Bool)} {t : TypeId} {x y : Operand} {v : Value} {kept : Bool}
theorem HS.get {h : Heap} {e : Ent} (hs : HS m L h) (ht : Tk L e r) : e.inv (mp h) := hs.inv e ((ht.mem e).2 (.inl rfl))
theorem zR {a : Addr} (ht : single P t = true) (hx : ev env x = some (.pointer (some a))) (hc : mc m a = some v) : ∀ h, HS m L h → ReadV P n ⟨dst, .load t x, ty, pos, aft, gd⟩ env h v :=
 fun _ hs => za ht hx (xW hs.base hc)
theorem zg {a : Addr} {l : List Value} {q : Nat} (ht : aggSize P t = some q) (hx : ev env x = some (.pointer (some a))) (hl : l.length = q) (hc : At m a l) : ∀ h, HS m L h → ReadV P n ⟨dst, .load t x, ty, pos, aft, gd⟩ env h (.agg l.toArray) :=
 fun _ hs => zX ht hx hl (hc.mono hs.base)
theorem uv {b i : Nat} {l : List Value} {e : TypeId} (ht : single P t = true) (hx : ev env x = some (.pointer (some ⟨b, i, none⟩))) (hT : Tk L (cel b l e) r) (hv : vnth l i = some v) : ∀ h, HS m L h → ReadV P n ⟨dst, .load t x, ty, pos, aft, gd⟩ env h v :=
 fun _ hs => za ht hx (zU (hs.get hT) hv)
theorem yI {b q : Nat} {l : List Value} {e : TypeId} (ht : aggSize P t = some q) (hx : ev env x = some (.pointer (some ⟨b, 0, none⟩))) (hT : Tk L (cel b l e) r) (hl : l.length = q) : ∀ h, HS m L h → ReadV P n ⟨dst, .load t x, ty, pos, aft, gd⟩ env h (.agg l.toArray) :=
 fun _ hs => zX ht hx hl (At.blk (hs.get hT))
theorem uu {b o q : Nat} {l : List Value} {e : TypeId} (ht : aggSize P t = some q) (hx : ev env x = some (.pointer (some ⟨b, o, none⟩))) (hT : Tk L (cel b l e) r) (hl : ((l.drop o).take q).length = q) : ∀ h, HS m L h → ReadV P n ⟨dst, .load t x, ty, pos, aft, gd⟩ env h (.agg ((l.drop o).take q).toArray) :=
 fun _ hs => zX ht hx hl (At.blkO (hs.get hT))
theorem S_loadO {A : Option Addr} {e sz k c i : Nat} {xs : List Value} (ht : single P t = true) (hx : ev env x = some (.pointer (some ((sa A).add i)))) (hT : Tk L (own e sz A k c xs) r) (hv : xs[i]? = some v) : ∀ h, HS m L h → ReadV P n ⟨dst, .load t x, ty, pos, aft, gd⟩ env h v :=
 fun _ hs => za ht hx ((Own.rd (hs.get hT)).at_ hv)
theorem S_box {elem : TypeId} (hx : ev env x = some v) (hn : Nat.blt d n = true) (hk : ∀ b, K ((d, .pointer (some ⟨b, 0, none⟩)) :: env) (cel b v.cells.toList elem :: L)) : StepS P n Q ⟨some d, .box elem x, ty, pos, aft, gd⟩ env m L true K := fun h hs =>
 yl hx hn fun b h' hn' hb hl => ⟨fun _ => hl, _, hs.new (e' := cel b v.cells.toList elem) hl (by show mp h' b = _; simpa using hb) fun k hk => by have := Nat.eq_of_beq_eq_true hk; subst this; exact hn', hk b⟩
theorem z8 {elem : TypeId} {z : List Value} (hz : zeroL P elem = some z) (hn : Nat.blt d n = true) (hk : ∀ b, K ((d, .pointer (some ⟨b, 0, none⟩)) :: env) (cel b z elem :: L)) : StepS P n Q ⟨some d, .alloc elem, ty, pos, aft, gd⟩ env m L true K := fun h hs =>
 xK hz hn fun b h' hn' hb hl => ⟨fun _ => hl, _, hs.new (e' := cel b z elem) hl hb fun k hk => by have := Nat.eq_of_beq_eq_true hk; subst this; exact hn', hk b⟩
theorem yq {len e sz by_ : Nat} {z cs : List Value} {parts : List (Nat × Operand)} {ps : List (Nat × Value)} (hs : slInfo P t = some (e, sz, by_, z)) (hx : evp env parts = some ps)
  (hsmall : Nat.ble (len * sz) 16777216 = true) (hf : fillS sz (rowZ (if len * sz = 0 then [] else z) (len * sz)) ps = some cs) (hn : Nat.blt d n = true)
  (hk : ∀ b, K ((d, .slice (some ⟨b, 0, none⟩) len len) :: env) (cel b cs e :: L)) : StepS P n Q ⟨some d, .buildSlice t len parts.toArray, ty, pos, aft, gd⟩ env m L true K := fun h hh =>
 kw hs hx hsmall hf hn fun b h' hn' hb hl => ⟨fun _ => hl, _, hh.new (e' := cel b cs e) hl hb fun k hk => by have := Nat.eq_of_beq_eq_true hk; subst this; exact hn', hk b⟩
inductive USet : List Value → Nat → Value → List Value → Prop
 | here {u v : Value} {r : List Value} : USet (u :: r) 0 v (v :: r)
 | there {u v : Value} {r r' : List Value} {i : Nat} (h : USet r i v r') : USet (u :: r) (i + 1) v (u :: r')
theorem USet.eq {l l' : List Value} {i : Nat} (h : USet l i v l') : i < l.length ∧ l' = l.set i v := by
 induction h with
 | here => simp
 | there _ ih => obtain ⟨h1, h2⟩ := ih; exact ⟨by simp; omega, by simp [h2]⟩
theorem kX {b k : Nat} {o : Obj} (hk : (blk b o).dom k = true) : k = b := (Nat.eq_of_beq_eq_true hk).symm
theorem yd {b i : Nat} {l l' : List Value} {e : TypeId} {L' : List Ent} (ht : cells1 P t = true) (hx : ev env x = some (.pointer (some ⟨b, i, none⟩))) (hy : ev env y = some v) (hv : oneV v = true)
  (hT : Sel L (cel b l e) (cel b l' e) L') (hu : USet l i v l') (hk : K env L') : StepS P n Q ⟨none, .store t x y, ty, pos, aft, gd⟩ env m L false K := fun h hs => by
 obtain ⟨r, h1, h2⟩ := hT.split;obtain ⟨hi, rfl⟩ := hu.eq;have h3 := hs.take h1;refine E_store ht hx hy hv (show mp h b = some (.cells l.toArray e (0, 0)) from h3.head) (by simpa [Nat.blt_eq] using hi) fun h' g1 g2 g3 => ⟨(fun hf => by cases hf), L', (h3.upd (e' := cel b (l.set i v) e) (fun k _ hk => g2 k ?_) g1 fun k hk => .inl hk).untake h2, hk⟩;rintro rfl
 simp [blk] at hk
theorem zQ {b q : Nat} {l vs : List Value} {e : TypeId} {L' : List Ent} (ht : aggSize P t = some q) (hx : ev env x = some (.pointer (some ⟨b, 0, none⟩))) (hy : ev env y = some (.agg vs.toArray)) (hq : Nat.beq vs.length q = true)
  (hT : Sel L (cel b l e) (cel b vs e) L') (hl : Nat.beq l.length q = true) (h1 : vs.all oneV = true) (hk : K env L') : StepS P n Q ⟨none, .store t x y, ty, pos, aft, gd⟩ env m L false K := fun h hs => by
 obtain ⟨r, g1, g2⟩ := hT.split;have h3 := hs.take g1;refine yA ht hx hy hq (show mp h b = some (.cells l.toArray e (0, 0)) from h3.head) hl h1 fun h' k1 k2 k3 => ⟨(fun hf => by cases hf), L', (h3.upd (e' := cel b vs e) (fun k _ hk => k2 k ?_) k1 fun k hk => .inl hk).untake g2, hk⟩;rintro rfl
 simp [blk] at hk
theorem Own.ofCel {m : Mp} {b e sz k : Nat} {l : List Value} (hb : m b = some (.cells l.toArray e (0, 0))) (hl : l.length = k * sz) (hm : k ≤ maxLen) : Own m e sz (some ⟨b, 0, none⟩) k k l := Own.new hb hl hm
theorem jz {A A2 : Option Addr} {k c j c2 e sz by_ : Nat} {z xs news : List Value} {L' : Option Addr → Nat → List Ent} (hs : slInfo P t = some (e, sz, by_, z)) (hsz : Nat.blt 0 sz = true) (hzl : z.length = sz)
  (hx : ev env x = some (.slice A k c)) (hy : ev env y = some (.slice A2 j c2)) (hT : ∀ A' c', Sel L (own e sz A k c xs) (own e sz A' (k + j) c' (xs ++ news)) (L' A' c')) (hr : ∀ h, HS m L h → Rd (mp h) A2 news) (hl : news.length = j * sz) (h1 : ∀ u ∈ news, oneV u = true)
  (hm : k + j ≤ maxLen) (hb : (k + j) * by_ ≤ 140737488355328) (hn : Nat.blt d n = true) (hk : ∀ A' c', K ((d, .slice A' (k + j) c') :: env) (L' A' c')) :
  StepS P n Q ⟨some d, .call ⟨.builtin .append, #[x, y], #[t, t]⟩, ty, pos, aft, gd⟩ env m L false K := fun h hh => by
 obtain ⟨r, h2, _⟩ := (hT none 0).split;have h3 := hh.take h2;refine Wl hs hsz hzl hx hy (show Own (mp h) e sz A k c xs from h3.head) (hr h hh) hl h1 hm hb hn fun A' c' h' g1 g2 => ⟨(fun hf => by cases hf), L' A' c', ?_, hk A' c'⟩;refine hh.sel (hT A' c') fun r h4 => h4.upd (e' := own e sz A' (k + j) c' (xs ++ news)) (fun i hi hd => g2.other i hi ?_) g1 fun i hi => ?_
 ·intro e;have hd' : inB A i = false := hd
  simp [inB, ← e] at hd'
 ·have : inB A' i = true := hi;simp only [inB, beq_iff_eq] at this;rcases g2.at_ with e | e
  ·left; show inB A i = true; rw [e] at this; simp [inB, this]
  ·right; rw [e] at this; injection this with this; omega
theorem zx {A : Option Addr} {b k c j c2 e e2 sz by_ : Nat} {z xs news : List Value} {L' : Option Addr → Nat → List Ent} {r : List Ent} (hs : slInfo P t = some (e, sz, by_, z)) (hsz : Nat.blt 0 sz = true) (hzl : z.length = sz)
  (hx : ev env x = some (.slice A k c)) (hy : ev env y = some (.slice (some ⟨b, 0, none⟩) j c2)) (hT2 : Tk L (cel b news e2) r) (hT : ∀ A' c', Sel L (own e sz A k c xs) (own e sz A' (k + j) c' (xs ++ news)) (L' A' c')) (hl : news.length = j * sz) (h1 : news.all oneV = true)
  (hm : k + j ≤ maxLen) (hb : (k + j) * by_ ≤ 140737488355328) (hn : Nat.blt d n = true) (hk : ∀ A' c', K ((d, .slice A' (k + j) c') :: env) (L' A' c')) :
  StepS P n Q ⟨some d, .call ⟨.builtin .append, #[x, y], #[t, t]⟩, ty, pos, aft, gd⟩ env m L false K :=
 jz hs hsz hzl hx hy hT (fun _ hh => Rd.blk (hh.get hT2)) hl (by rw [List.all_eq_true] at h1; exact h1) hm hb hn hk
theorem HS.nilOwn {h : Heap} (e sz : Nat) (hs : HS m L h) : HS m (own e sz none 0 0 [] :: L) h := HS.cons_iff.2 ⟨hs, Own.nil _ _ _, (fun k hk => by cases hk), (fun x hx k hk => by cases hk)⟩
theorem HS.celOwn {h : Heap} {b e sz k : Nat} {l : List Value} (hl : l.length = k * sz) (hm : k ≤ maxLen) (hs : HS m (cel b l e :: L) h) : HS m (own e sz (some ⟨b, 0, none⟩) k k l :: L) h :=
 hs.upd (fun _ _ _ => rfl) (Own.ofCel hs.head hl hm) fun j hj => .inl (by have : inB (some ⟨b, 0, none⟩) j = true := hj; simp [inB, ownB] at this; subst this; exact Nat.beq_refl _)
theorem wk {c : Code} (e sz : Nat) (ht : TS P n c env m (own e sz none 0 0 [] :: L) Q) : TS P n c env m L Q := fun h hs => ht h (hs.nilOwn e sz)
theorem XK {l0 l : List Oper} (e sz : Nat) (ht : VS P n l0 l env m (own e sz none 0 0 [] :: L) Q) : VS P n l0 l env m L Q := fun h hs => ht h (hs.nilOwn e sz)
theorem XL {l0 l : List Oper} {b e sz k : Nat} {cs : List Value} {L' : List Ent} (hT : Sel L (cel b cs e) (own e sz (some ⟨b, 0, none⟩) k k cs) L') (hl : cs.length = k * sz) (hm : k ≤ maxLen) (ht : VS P n l0 l env m L' Q) : VS P n l0 l env m L Q :=
 fun h hs => ht h (hs.sel hT fun _ h2 => h2.celOwn hl hm)
def iter (b : Nat) (s : List UInt8) (p : Nat) : Ent := blk b (.stringIter (bs s) p)
theorem qm {s : List UInt8} (ht : isStr P t = true) (hx : ev env x = some (.string (bs s))) (hn : Nat.blt d n = true) (hk : ∀ b, K ((d, .pointer (some ⟨b, 0, none⟩)) :: env) (iter b s 0 :: L)) : StepS P n Q ⟨some d, .range t x, ty, pos, aft, gd⟩ env m L true K := fun h hs =>
 y2 rfl hn fun fx dr a ha => by
  refine ⟨h.push (.stringIter (bs s) 0), dr, ?_, fun _ => wK h _, _, hs.new (e' := iter h.size s 0) (wK h _) (y7 h _) (fun k hk => by have := kX hk; subst this; exact vZ h), hk _⟩;have := run_range_string (P := P) (W fx h dr) t (bs s) (vz ht);simp only [execOp, ha.eval hx, this, Sem.run_bind, Result.andThen_ok]
  rfl
theorem S_next {b p : Nat} {s : List UInt8} {L' : List Ent} (hx : ev env x = some (.pointer (some ⟨b, 0, none⟩))) (hp : p < s.length) (hT : Sel L (iter b s p) (iter b s (p + (Utf8.decode (bs s) p).2)) L') (hn : Nat.blt d n = true)
  (hk : K ((d, .tuple [.bool true, .int .i64 p, .int .i32 (Utf8.decode (bs s) p).1].toArray) :: env) L') : StepS P n Q ⟨some d, .next x true, ty, pos, aft, gd⟩ env m L false K := fun h hs => by
 obtain ⟨r, h1, h2⟩ := hT.split;have h3 := hs.take h1;have hb : h[b]? = some (.stringIter (bs s) p) := h3.head;have hsz : p < (bs s).size := by rw [xk]; exact hp
 refine y2 (v := .tuple [.bool true, .int .i64 p, .int .i32 (Utf8.decode (bs s) p).1].toArray) rfl hn fun fx dr a ha => ?_;have hblt : b < h.size := by have := (Array.getElem?_eq_some_iff.1 hb).1; exact this
 refine ⟨h.setIfInBounds b (.stringIter (bs s) (p + (Utf8.decode (bs s) p).2)), dr, ?_, (fun hf => by cases hf), L', (h3.upd (e' := iter b s (p + (Utf8.decode (bs s) p).2)) (fun k _ hk => ?_) (by show mp _ b = _; simp [mp, hblt]) fun k hk => .inl hk).untake h2, hk⟩
 ·have hb' : (W fx h dr).heap[b]? = some (.stringIter (bs s) p) := hb;simp only [execOp, ha.eval hx, Instr.next, getObj, setObj, Sem.run_bind, Sem.run, hb', Result.andThen, hsz, if_true]
  simp [goInt, Sem.run, hb', W]
 ·have hne : b ≠ k := by rintro rfl; simp [iter, blk] at hk
  simp [mp, Array.getElem?_setIfInBounds, hne]
theorem qK {b p : Nat} {s : List UInt8} {r : List Ent} (hx : ev env x = some (.pointer (some ⟨b, 0, none⟩))) (hp : ¬ p < s.length) (hT : Tk L (iter b s p) r) (hn : Nat.blt d n = true)
  (hk : K ((d, .tuple [.bool false].toArray) :: env) L) : StepS P n Q ⟨some d, .next x true, ty, pos, aft, gd⟩ env m L true K := fun h hs => by
 have hb : h[b]? = some (.stringIter (bs s) p) := hs.get hT;have hsz : ¬ p < (bs s).size := by rw [xk]; exact hp
 refine y2 rfl hn fun fx dr a ha => ⟨h, dr, ?_, fun _ => Le.refl _, L, hs, hk⟩;have hb' : (W fx h dr).heap[b]? = some (.stringIter (bs s) p) := hb
 simp [execOp, ha.eval hx, Instr.next, getObj, Sem.run, hb', hsz]
end
def CS (P : Program) (f : FuncId) (args : List Value) (m : Mp) (pre : List Ent) (post : Value → List Ent → Prop) : Prop :=
 ∀ h, HS m pre h → C P f args.toArray h fun v h' => ∃ L', post v L' ∧ HS m L' h'
def postS (m : Mp) (post : Value → List Ent → Prop) : Value → Heap → Prop := fun v h' => ∃ L', post v L' ∧ HS m L' h'
theorem CS.mono {P : Program} {f : FuncId} {args : List Value} {m : Mp} {pre : List Ent} {post post' : Value → List Ent → Prop} (hc : CS P f args m pre post) (hp : ∀ v L', post v L' → post' v L') : CS P f args m pre post' :=
 fun h hs => (hc h hs).mono fun _ _ ⟨L', h1, h2⟩ => ⟨L', hp _ _ h1, h2⟩
def RvS (P : Program) (env : Env) (L : List Ent) : ResultVar → Value → Prop
 | .tmp t, v => lk env t = some v
 | .cell a t, v => ∃ b l tt r, lk env a = some (.pointer (some ⟨b, 0, none⟩)) ∧ Tk L (cel b l tt) r ∧ ((single P t = true ∧ l = [v]) ∨ (aggSize P t = some l.length ∧ v = .agg l.toArray))
def RvsS (P : Program) (env : Env) (L : List Ent) : List ResultVar → List Value → Prop
 | [], [] => True
 | r :: rs, v :: vs => RvS P env L r v ∧ RvsS P env L rs vs
 | _, _ => False
theorem RvsS.ok {P : Program} {env : Env} {m : Mp} {L : List Ent} {h : Heap} (hs : HS m L h) : ∀ {rs : List ResultVar} {vs : List Value}, RvsS P env L rs vs → RvsOk P env h rs vs
 | [], [], _ => trivial
 | .tmp _ :: _, _ :: _, hr => ⟨hr.1, RvsS.ok hs hr.2⟩
 | .cell a t :: _, v :: _, hr => by
   obtain ⟨⟨b, l, tt, r, h1, h2, h3⟩, hr2⟩ := hr;have h4 : mp h b = some (.cells l.toArray tt (0, 0)) := hs.get h2;refine ⟨⟨_, h1, ?_⟩, RvsS.ok hs hr2⟩;rcases h3 with ⟨h5, rfl⟩ | ⟨h5, rfl⟩
   ·exact .inl ⟨h5, zU h4 rfl⟩
   ·exact .inr ⟨l, h5, At.blk h4, rfl⟩
theorem zl {P : Program} {f : FuncId} {fn : Func} {c : Code} {l : List Value} {m : Mp} {pre : List Ent} {post : Value → List Ent → Prop} (rs : List ResultVar) (hf : P.funcs[f]? = some fn) (hb : fn.body = some c) (hrs : fn.results = rs.toArray)
  (hl : Nat.ble l.length fn.ntmps = true) (ht : TS P fn.ntmps c (env0 l 0) m pre (retC P rs (postS m post))) : CS P f l m pre post :=
 fun h hs => Wn rs hf hb hrs hl (ht h hs)
theorem zb {P : Program} {rs : List ResultVar} {env : Env} {m : Mp} {L : List Ent} {post : Value → List Ent → Prop} (vs : List Value) (hv : RvsS P env L rs vs) (L' : List Ent) (hp : Pick L L') (hq : post (tup vs) L') : QS (retC P rs (postS m post)) .ret env m L :=
 fun h hs => ⟨vs, hv.ok hs, L', hq, hp m h hs⟩
theorem ko {P : Program} {rs : List ResultVar} {env : Env} {m : Mp} {L : List Ent} {post : Value → List Ent → Prop} (vs : List Value) (hv : RvsS P env L rs vs) (L' : List Ent) (hp : Pick L L') (hq : post (tup vs) L') : QS (retC P rs (postS m post)) .normal env m L :=
 fun h hs => ⟨vs, hv.ok hs, L', hq, hp m h hs⟩
def HE (L : List Ent) (m : Mp) : Prop := ∀ e ∈ L, e.inv m
def away (e : Ent) (m : Mp) : Mp := fun k => if e.dom k then none else m k
section
variable {P : Program} {n : Nat} {env : Env} {m : Mp} {L r : List Ent} {Q : Post} {K : Env → List Ent → Prop} {d : Nat} {ty : TypeId} {pos : String} {aft : Array Edge} {gd : Option (Nat × Bool)}
theorem HS.frame0 {h h' : Heap} {L' : List Ent} (hs : HS m L h) (hc : HS (mp h) L' h') : HS m (L' ++ L) h' := by
 have h0 := hs.le hc.base;refine ⟨h0.base, fun e he => ?_, fun e he k hk => ?_, List.pairwise_append.2 ⟨hc.apart, h0.apart, fun a ha b hb k hk => ?_⟩⟩
 ·rcases List.mem_append.1 he with he | he
  ·exact hc.inv e he
  ·exact h0.inv e he
 ·rcases List.mem_append.1 he with he | he
  ·exact Le.none hs.base (hc.out e he k hk)
  ·exact h0.out e he k hk
 ·cases hbk : b.dom k with
  | false => rfl
  | true => exact absurd (hc.out a ha k hk) (b.has (hs.inv b hb) hbk)
theorem HS.frame1 {h h' : Heap} {e : Ent} {L' : List Ent} (hs : HS m (e :: r) h) (hc : HS (away e (mp h)) L' h') : HS m (L' ++ r) h' := by
 obtain ⟨h1, h2, h3, h4⟩ := HS.cons_iff.1 hs
 have same : ∀ x ∈ r, ∀ k, x.dom k = true → away e (mp h) k = mp h k := fun x hx k hk => by
  unfold away;rw [if_neg];intro he;have := h4 x hx k he;rw [hk] at this;cases this
 have keep : ∀ k o, away e (mp h) k = some o → mp h' k = some o := hc.base
 have same2 : ∀ x ∈ r, ∀ k, x.dom k = true → mp h' k = mp h k := fun x hx k hk => by
  have h5 := same x hx k hk;cases h6 : mp h k with
  | none => exact absurd h6 (x.has (h1.inv x hx) hk)
  | some o => exact keep k o (by rw [h5, h6])
 have base : Le m (away e (mp h)) := fun k o hk => by
  unfold away;rw [if_neg]
  ·exact h1.base k o hk
  ·intro he; rw [h3 k he] at hk; cases hk
 refine ⟨base.trans hc.base, fun x hx => ?_, fun x hx k hk => ?_, List.pairwise_append.2 ⟨hc.apart, h1.apart, fun a ha b hb k hk => ?_⟩⟩
 ·rcases List.mem_append.1 hx with hx | hx
  ·exact hc.inv x hx
  ·exact x.loc (same2 x hx) (h1.inv x hx)
 ·rcases List.mem_append.1 hx with hx | hx
  ·exact Le.none base (hc.out x hx k hk)
  ·exact h1.out x hx k hk
 ·cases hbk : b.dom k with
  | false => rfl
  | true =>
    have h5 := hc.out a ha k hk;rw [same b hb k hbk] at h5;exact absurd h5 (b.has (h1.inv b hb) hbk)
theorem HS.away {h : Heap} {e : Ent} (hs : HS m (e :: r) h) : HS (away e (mp h)) [e] h ∧ Le m (away e (mp h)) ∧ HE r (Eng.away e (mp h)) := by
 obtain ⟨h1, h2, h3, h4⟩ := HS.cons_iff.1 hs;refine ⟨⟨fun k o hk => ?_, fun x hx => ?_, fun x hx k hk => ?_, List.pairwise_singleton _ _⟩, fun k o hk => ?_, fun x hx => ?_⟩
 ·unfold Eng.away at hk
  split at hk
  ·cases hk
  ·exact hk
 ·rw [List.mem_singleton.1 hx]; exact h2
 ·rw [List.mem_singleton.1 hx] at hk
  simp [Eng.away, hk]
 ·unfold Eng.away;rw [if_neg]
  ·exact h1.base k o hk
  ·intro he; rw [h3 k he] at hk; cases hk
 ·refine x.loc (fun k hk => ?_) (h1.inv x hx);unfold Eng.away;rw [if_neg];intro he;have := h4 x hx k he;rw [hk] at this;cases this
theorem zW {f : FuncId} {args : List Operand} {ats : Array TypeId} {vs : List Value} {post : Value → List Ent → Prop} (hcl : callable P f = true) (hx : evs env args = some vs) (hc : ∀ m', Le m m' → HE L m' → CS P f vs m' [] post) (hn : Nat.blt d n = true)
  (hk : ∀ v L', post v L' → K ((d, v) :: env) (L' ++ L)) : StepS P n Q ⟨some d, .call ⟨.value (.func f), args.toArray, ats⟩, ty, pos, aft, gd⟩ env m L true K := fun h hs =>
 yB hcl hx (hc (mp h) hs.base hs.inv h (HS.nil (Le.refl _))) hn fun v h' ⟨L', h1, h2⟩ => ⟨fun _ => h2.base, _, hs.frame0 h2, hk v L' h1⟩
theorem S_call1 {f : FuncId} {args : List Operand} {ats : Array TypeId} {vs : List Value} {e : Ent} {post : Value → List Ent → Prop} (hcl : callable P f = true) (hx : evs env args = some vs) (hT : Tk L e r) (hc : ∀ m', Le m m' → HE r m' → CS P f vs m' [e] post) (hn : Nat.blt d n = true)
  (hk : ∀ v L', post v L' → K ((d, v) :: env) (L' ++ r)) : StepS P n Q ⟨some d, .call ⟨.value (.func f), args.toArray, ats⟩, ty, pos, aft, gd⟩ env m L false K := fun h hs => by
 have h0 := hs.take hT;obtain ⟨h1, h2, h3⟩ := h0.away;exact yB hcl hx (hc _ h2 h3 h h1) hn fun v h' ⟨L', g1, g2⟩ => ⟨fun hf => (by cases hf), _, h0.frame1 g2, hk v L' g1⟩
theorem xv {f : FuncId} {args : List Operand} {ats : Array TypeId} {vs : List Value} {R : Value → Prop} (hcl : callable P f = true) (hx : evs env args = some vs) (hc : ∀ m', Le m m' → HE L m' → CS P f vs m' [] fun v L' => R v ∧ L' = []) (hn : Nat.blt d n = true)
  (hk : ∀ v, R v → K ((d, v) :: env) L) : StepS P n Q ⟨some d, .call ⟨.value (.func f), args.toArray, ats⟩, ty, pos, aft, gd⟩ env m L true K :=
 zW hcl hx hc hn fun v L' ⟨h1, h2⟩ => by subst h2; exact hk v h1
theorem yp {f : FuncId} {fv : Operand} {args : List Operand} {ats : Array TypeId} {vs p q : List Value} {post : Value → List Ent → Prop} (hcl : callable P f = true) (hf : ev env fv = some (.func (.func f) p.toArray q.toArray)) (hx : evs env args = some vs)
  (hc : ∀ m', Le m m' → HE L m' → CS P f ((p ++ vs) ++ q) m' [] post) (hn : Nat.blt d n = true) (hk : ∀ v L', post v L' → K ((d, v) :: env) (L' ++ L)) : StepS P n Q ⟨some d, .call ⟨.value fv, args.toArray, ats⟩, ty, pos, aft, gd⟩ env m L true K := fun h hs =>
 xD (R := postS (mp h) post) hcl hf hx (hc (mp h) hs.base hs.inv h (HS.nil (Le.refl _))) hn fun v h' ⟨L', h1, h2⟩ => ⟨fun _ => h2.base, _, hs.frame0 h2, hk v L' h1⟩
theorem CS.toLe {f : FuncId} {vs : List Value} {post : Value → List Ent → Prop} {h : Heap} (hc : CS P f vs (mp h) [] post) : C P f vs.toArray h fun v h' => (∃ L', post v L') ∧ Le (mp h) (mp h') :=
 (hc h (HS.nil (Le.refl _))).mono fun _ _ ⟨L', h1, h2⟩ => ⟨⟨L', h1⟩, h2.base⟩
end
end Go.Eng
namespace Go.Eng
def by_ (s : List UInt8) (i : Nat) : Nat := (s.getD i 0).toNat
theorem WN (s : List UInt8) (i : Nat) : by_ s i < 256 := (s.getD i 0).toNat_lt
section
variable {P : Program} {n : Nat} {env : Env} {dst : Option Tmp} {ty : TypeId} {pos : String} {aft : Array Edge} {gd : Option (Nat × Bool)} {t yt : TypeId} {x y : Operand} {k : IntKind} {a b : Nat}
theorem xi (hx : ev env x = some (.int .i64 (a : Nat))) (hy : ev env y = some (.int .i64 (b : Nat))) (hr : a + b ≤ 9223372036854775807) : PureV P n ⟨dst, .binOp .add t x y yt, ty, pos, aft, gd⟩ env (.int .i64 ((a + b : Nat) : Int)) :=
 zy hx hy (by rw [w64 (by omega) (by omega)]; simp)
theorem P_min2N {ts : Array TypeId} (hx : ev env x = some (.int .i64 (a : Nat))) (hy : ev env y = some (.int .i64 (b : Nat))) : PureV P n ⟨dst, .call ⟨.builtin .min, #[x, y], ts⟩, ty, pos, aft, gd⟩ env (.int .i64 ((min a b : Nat) : Int)) := by
 have := vT (P := P) (n := n) (dst := dst) (ty := ty) (pos := pos) (aft := aft) (gd := gd) (ts := ts) hx hy;rwa [show min (a : Int) (b : Int) = ((min a b : Nat) : Int) by omega] at this
theorem wq {s : List UInt8} (hx : ev env x = some (.string (bs s))) (hy : ev env y = some (.int k (a : Nat))) (ht : isStr P t = true) (h1 : a < s.length) : PureV P n ⟨dst, .index t x y, ty, pos, aft, gd⟩ env (.int .u8 ((by_ s a : Nat) : Int)) :=
 Wg hx hy ht (by omega) (by omega)
theorem ux {src dk : TypeId} {k k' : IntKind} (hs : (P.underlying src).isSome = true) (hd : isIntT P dk k' = true) (hx : ev env x = some (.int k (a : Nat))) (hr : k'.wrap (a : Nat) = (a : Nat)) : PureV P n ⟨dst, .convert src dk x, ty, pos, aft, gd⟩ env (.int k' (a : Nat)) := yK hs hd hx hr
theorem zC {A : Option Addr} {m c sz : Nat} (ht : esz P t = some sz) (hx : ev env x = some (.slice A m c)) (hy : ev env y = some (.int k (a : Nat))) (hA : A.isSome = true) (h1 : a < m) :
  PureV P n ⟨dst, .indexAddr t x y, ty, pos, aft, gd⟩ env (.pointer (some ((sa A).add (a * sz)))) := y9 ht hx hy hA (by omega) (by omega)
theorem zm {A : Option Addr} {m c : Nat} (ht : esz P t = some 1) (hx : ev env x = some (.slice A m c)) (hy : ev env y = some (.int k (a : Nat))) (hA : A.isSome = true) (h1 : a < m) :
  PureV P n ⟨dst, .indexAddr t x y, ty, pos, aft, gd⟩ env (.pointer (some ((sa A).add a))) := kr ht hx hy hA (by omega) (by omega)
end
section
variable {P : Program} {n : Nat} {env : Env} {m : Mp} {L : List Ent} {Q : Post} {K : Env → List Ent → Prop} {d : Nat} {ty : TypeId} {pos : String} {aft : Array Edge} {gd : Option (Nat × Bool)} {x : Operand}
theorem qn {b i : Nat} {l : List Value} {e : TypeId} {r : List Ent} {v : Value} {dst : Option Tmp} {t : TypeId} (ht : single P t = true) (hx : ev env x = some (.pointer (some ((sa (some ⟨b, 0, none⟩)).add i)))) (hT : Tk L (cel b l e) r) (hv : l[i]? = some v) : ∀ h, HS m L h → ReadV P n ⟨dst, .load t x, ty, pos, aft, gd⟩ env h v :=
 fun _ hs => za ht hx ((Rd.blk (hs.get hT)).at_ hv)
theorem ut {b p : Nat} {s : List UInt8} {r : Nat × Nat} {L' : List Ent} (hx : ev env x = some (.pointer (some ⟨b, 0, none⟩))) (hp : p < s.length) (hr : Utf8.decode (bs s) p = r) (hT : Sel L (iter b s p) (iter b s (p + r.2)) L') (hn : Nat.blt d n = true)
  (hk : K ((d, .tuple [.bool true, .int .i64 p, .int .i32 r.1].toArray) :: env) L') : StepS P n Q ⟨some d, .next x true, ty, pos, aft, gd⟩ env m L false K := by
 subst hr;exact S_next hx hp hT hn hk
end
end Go.Eng
namespace Go.Eng
def entsM : Nat → List (List UInt8 × Value) → List MapEntry
 | _, [] => []
 | i, (k, v) :: r => ⟨.string (bs k), v, i⟩ :: entsM (i + 1) r
def findM (k : List UInt8) : Nat → List (List UInt8 × Value) → Option (Nat × Value)
 | _, [] => none
 | i, (k', v) :: r => if k = k' then some (i, v) else findM k (i + 1) r
def getM (es : List (List UInt8 × Value)) (k : List UInt8) : Option Value := (findM k 0 es).map (·.2)
def putM (es : List (List UInt8 × Value)) (k : List UInt8) (v : Value) : List (List UInt8 × Value) := match findM k 0 es with
 | some (i, _) => es.set i (k, v)
 | none => es ++ [(k, v)]
def smap (r : Nat) (es : List (List UInt8 × Value)) : Ent := blk r (.map (entsM 0 es).toArray es.length)
def mapStr (P : Program) (t : TypeId) : Option TypeId := match P.underlying t with
 | some (.map kt et) => match P.underlying kt with
   | some .string => some et
   | _ => none
 | _ => none
theorem qR {P : Program} {t et : TypeId} (h : mapStr P t = some et) : ∃ kt, P.underlying t = some (.map kt et) ∧ P.underlying kt = some .string := by
 unfold mapStr at h
 split at h
 ·rename_i kt et' hu
  split at h
  ·rename_i hk; simp only [Option.some.injEq] at h; subst h; exact ⟨kt, hu, hk⟩
  ·cases h
 ·cases h
theorem YE {a b : List UInt8} : (bs a == bs b) = decide (a = b) := by
 show ((bs a).data == (bs b).data) = _;rw [Bool.eq_iff_iff, beq_iff_eq, decide_eq_true_eq]
 simp [bs]
theorem qS (k : List UInt8) : ∀ (es : List (List UInt8 × Value)) (i j : Nat), Instr.findNow .string (.string (bs k)) (entsM j es) i = some (findM k i es)
 | [], _, _ => rfl
 | (k', v) :: r, i, j => by
   unfold entsM Instr.findNow;simp only [Instr.sameNow, YE];by_cases h : k = k'
   ·simp [h, findM]
   ·simp only [h, decide_false];rw [qS k r (i + 1) (j + 1)]
    simp [findM, h]
theorem jK {k : List UInt8} : ∀ {es : List (List UInt8 × Value)} {i j : Nat} {v : Value}, findM k i es = some (j, v) → i ≤ j ∧ es[j - i]? = some (k, v)
 | [], _, _, _, h => by cases h
 | (k', v') :: r, i, j, v, h => by
   unfold findM at h
   split at h
   ·rename_i hk
    injection h with h
    injection h with h1 h2
    subst h1 h2 hk
    simp
   ·obtain ⟨h1, h2⟩ := jK h;refine ⟨by omega, ?_⟩;rw [show j - i = (j - (i + 1)) + 1 by omega]
    simpa using h2
theorem jo : ∀ (es : List (List UInt8 × Value)) (i j : Nat), (entsM i es)[j]? = (es[j]?).map fun p => ⟨.string (bs p.1), p.2, i + j⟩
 | [], _, _ => by simp [entsM]
 | (k, v) :: r, i, 0 => by simp [entsM]
 | (k, v) :: r, i, j + 1 => by simp [entsM, jo r (i + 1) j]; congr 1; funext p; congr 1; omega
theorem Z8 (es : List (List UInt8 × Value)) (i : Nat) (k : List UInt8) (v : Value) : entsM i (es ++ [(k, v)]) = entsM i es ++ [⟨.string (bs k), v, i + es.length⟩] := by
 induction es generalizing i with
 | nil => simp [entsM]
 | cons p r ih => obtain ⟨k', v'⟩ := p; simp only [List.cons_append, entsM, ih, List.length_cons]; rw [show i + 1 + r.length = i + (r.length + 1) by omega]
theorem Y3 (es : List (List UInt8 × Value)) (i j : Nat) (k : List UInt8) (v v0 : Value) (h : es[j]? = some (k, v0)) : entsM i (es.set j (k, v)) = (entsM i es).modify j fun e => { e with key := .string (bs k), val := v } := by
 induction es generalizing i j with
 | nil => simp at h
 | cons p r ih =>
   obtain ⟨k', v'⟩ := p;cases j with
   | zero => simp at h; obtain ⟨rfl, rfl⟩ := h; simp [entsM]
   | succ j => simp only [List.set_cons_succ, entsM, List.modify_succ_cons, ih _ _ (by simpa using h)]
section
variable {P : Program} {n : Nat} {env : Env} {m : Mp} {L r : List Ent} {Q : Post} {K : Env → List Ent → Prop} {dst : Option Tmp} {d : Nat} {ty : TypeId} {pos : String} {aft : Array Edge} {gd : Option (Nat × Bool)} {t et : TypeId} {x y z : Operand} {v : Value}
theorem xC (hn : Nat.blt d n = true) (hk : ∀ b, K ((d, .map (some b)) :: env) (smap b [] :: L)) : StepS P n Q ⟨some d, .makeMap t none, ty, pos, aft, gd⟩ env m L true K := fun h hs =>
 y2 rfl hn fun fx dr a ha => by
  refine ⟨h.push (.map #[] 0), dr, ?_, fun _ => wK h _, _, hs.new (e' := smap h.size []) (wK h _) (y7 h _) (fun k hk => by have := kX hk; subst this; exact vZ h), hk _⟩
  simp [execOp, Instr.makeMap, newObj, Sem.run, W]
theorem v7 {w : World} {b c : Nat} {es : Array MapEntry} (hb : w.heap[b]? = some (.map es c)) : (getObj b).run P w = .ok (.map es c) w := by simp [getObj, Sem.run, hb]
theorem qs {w : World} {b c : Nat} {es : Array MapEntry} {o' : Obj} (hb : w.heap[b]? = some (.map es c)) : (setObj b o').run P w = .ok () { w with heap := w.heap.setIfInBounds b o' } := by simp [setObj, Sem.run, hb]
theorem vE {w : World} {kt : TypeId} (hk : P.underlying kt = some .string) (k : List UInt8) (es : List (List UInt8 × Value)) : (Instr.findKey kt (.string (bs k)) (entsM 0 es)).run P w = .ok (findM k 0 es) w := by
 simp only [Instr.findKey, Sem.run_bind, run_underlying hk, Result.andThen_ok, qS]
 rfl
theorem xg {w : World} {kt : TypeId} (b : Bool) (hk : P.underlying kt = some .string) (k : List UInt8) : (Instr.checkKey b 10000 kt (.string (bs k))).run P w = .ok () w := by
 show (Instr.checkKey b (9999 + 1) kt (.string (bs k))).run P w = .ok () w;rw [Instr.checkKey];simp only [Sem.run_bind, run_underlying hk, Result.andThen_ok]
 rfl
theorem xV {fx : Fx} {h : Heap} {dr b : Nat} {es : List (List UInt8 × Value)} {k : List UInt8} {zv : Value} {cm : Bool} (ht : mapStr P t = some et) (hb : mp h b = some (.map (entsM 0 es).toArray es.length)) (hz : ∀ w, (zeroValue et).run P w = .ok zv w) :
  (Instr.lookup t (.map (some b)) (.string (bs k)) cm).run P (W fx h dr) = .ok (if cm then .tuple #[(getM es k).getD zv, .bool (getM es k).isSome] else (getM es k).getD zv) (W fx h dr) := by
 obtain ⟨kt, h1, h2⟩ := qR ht;have hb' : (W fx h dr).heap[b]? = some (.map (entsM 0 es).toArray es.length) := hb;simp only [Instr.lookup, Sem.run_bind, run_underlying h1, Result.andThen_ok, v7 hb', xg _ h2, Sem.run_pure];have hfk := vE (P := P) (w := W fx h dr) h2 k es;simp only [hfk, Result.andThen_ok];unfold getM;cases hf : findM k 0 es with
 | none => simp [hz]
 | some p => simp
theorem wn {b : Nat} {es : List (List UInt8 × Value)} {k : List UInt8} {zv : Value} (ht : mapStr P t = some et) (hx : ev env x = some (.map (some b))) (hy : ev env y = some (.string (bs k))) (hT : Tk L (smap b es) r) (hzz : ∀ w, (zeroValue et).run P w = .ok zv w) :
  ∀ h, HS m L h → ReadV P n ⟨dst, .lookup t x y false, ty, pos, aft, gd⟩ env h ((getM es k).getD zv) := fun h hs a w ha hl => by
 have h1 : mp w.heap b = some (.map (entsM 0 es).toArray es.length) := hl _ _ (hs.get hT);have := xV (P := P) (fx := ⟨w.tape, w.os, w.output, []⟩) (h := w.heap) (dr := w.drawn) (cm := false) (k := k) ht h1 hzz;simp only [execOp, ha.eval hx, ha.eval hy, Sem.run_bind];rw [← W_of] at this;rw [this]
 rfl
theorem jy {b : Nat} {es : List (List UInt8 × Value)} {k : List UInt8} {zv : Value} (ht : mapStr P t = some et) (hx : ev env x = some (.map (some b))) (hy : ev env y = some (.string (bs k))) (hT : Tk L (smap b es) r) (hzz : ∀ w, (zeroValue et).run P w = .ok zv w) :
  ∀ h, HS m L h → ReadV P n ⟨dst, .lookup t x y true, ty, pos, aft, gd⟩ env h (.tuple [(getM es k).getD zv, .bool (getM es k).isSome].toArray) := fun h hs a w ha hl => by
 have h1 : mp w.heap b = some (.map (entsM 0 es).toArray es.length) := hl _ _ (hs.get hT);have := xV (P := P) (fx := ⟨w.tape, w.os, w.output, []⟩) (h := w.heap) (dr := w.drawn) (cm := true) (k := k) ht h1 hzz;simp only [execOp, ha.eval hx, ha.eval hy, Sem.run_bind];rw [← W_of] at this;rw [this]
 rfl
def zero1 (P : Program) (t : TypeId) (v : Value) : Prop := ∀ w, (zeroValue t).run P w = .ok v w
theorem kx {i : TypeInfo} (h : P.info? t = some i) (hz : i.zero = some v) : zero1 P t v := fun w => by simp [zeroValue, typeInfo, h, hz]
theorem yR {b : Nat} {es : List (List UInt8 × Value)} {k : List UInt8} {L' : List Ent} (ht : mapStr P t = some et) (hx : ev env x = some (.map (some b))) (hy : ev env y = some (.string (bs k))) (hz : ev env z = some v)
  (hT : Sel L (smap b es) (smap b (putM es k v)) L') (hk : K env L') : StepS P n Q ⟨none, .mapUpdate t x y z, ty, pos, aft, gd⟩ env m L false K := fun h hs => by
 obtain ⟨r, g1, g2⟩ := hT.split;have h3 := hs.take g1;have hb : mp h b = some (.map (entsM 0 es).toArray es.length) := h3.head;have hblt := xI hb;obtain ⟨kt, u1, u2⟩ := qR ht
 have put : ∀ o : Obj, (smap b (putM es k v)).inv (mp (h.setIfInBounds b o)) → HS m L' (h.setIfInBounds b o) := fun o ho =>
  (h3.upd (e' := smap b (putM es k v)) (fun j _ hj => by
   have hne : b ≠ j := by rintro rfl; simp [smap, blk] at hj
   simp [mp, Array.getElem?_setIfInBounds, hne]) ho fun j hj => .inl hj).untake g2
 refine xp rfl fun fx dr a ha => ?_;have hb' : (W fx h dr).heap[b]? = some (.map (entsM 0 es).toArray es.length) := hb;have hfk := vE (P := P) (w := W fx h dr) u2 k es;cases hf : findM k 0 es with
 | none =>
   rw [hf] at hfk;refine ⟨h.setIfInBounds b (.map ((entsM 0 es).toArray.push ⟨.string (bs k), v, es.length⟩) (es.length + 1)), dr, ?_, fun hh => (by cases hh), L', put _ ?_, hk⟩
   ·simp only [execOp, ha.eval hx, ha.eval hy, ha.eval hz, Instr.mapUpdate, Sem.run_bind, run_underlying u1, Result.andThen_ok, v7 hb', xg _ u2, hfk, qs hb', Sem.run_pure]
    rfl
   ·show mp _ b = _;simp only [putM, hf, Z8, Nat.zero_add]
    simp [mp, hblt]
 | some p =>
   obtain ⟨i, v0⟩ := p;rw [hf] at hfk;obtain ⟨_, hg⟩ := jK hf;simp only [Nat.sub_zero] at hg;have hgi : ((entsM 0 es).toArray)[i]? = some ⟨.string (bs k), v0, i⟩ := by rw [List.getElem?_toArray, jo, hg]; simp
   have hkey : (((entsM 0 es).toArray[i]?).map (·.key)).getD (.string (bs k)) = .string (bs k) := by rw [hgi]; rfl
   have hst : (Instr.keyThatStays (.string (bs k)) (.string (bs k))).run P (W fx h dr) = .ok (.string (bs k)) (W fx h dr) := by
    unfold Instr.keyThatStays;rw [if_pos]
    ·rfl
    ·show Instr.sameBits (9999 + 1) _ _ = true;show (bs k == bs k) = true;rw [YE]
     simp
   refine ⟨h.setIfInBounds b (.map ((entsM 0 es).toArray.modify i fun e => { e with key := .string (bs k), val := v }) es.length), dr, ?_, fun hh => (by cases hh), L', put _ ?_, hk⟩
   ·simp only [execOp, ha.eval hx, ha.eval hy, ha.eval hz, Instr.mapUpdate, Sem.run_bind, run_underlying u1, Result.andThen_ok, v7 hb', xg _ u2, hfk, hkey, hst, qs hb', Sem.run_pure]
    rfl
   ·show mp _ b = _;simp only [putM, hf, Y3 es 0 i k v v0 hg, List.length_set]
    simp [mp, hblt]
end
end Go.Eng
namespace Go.Eng
inductive Dt where
 | i (k : IntKind) (n : Int)
 | s (t : List UInt8)
 | b (x : Bool)
deriving DecidableEq
inductive Dk where
 | i (k : IntKind)
 | s
 | b
deriving DecidableEq
def Dt.v : Dt → Value
 | .i k n => .int k n
 | .s t => .string (bs t)
 | .b x => .bool x
def Dt.k : Dt → Dk
 | .i k _ => .i k
 | .s _ => .s
 | .b _ => .b
def fkOf : TypeDesc → Option Dk
 | .int k => some (.i k)
 | .string => some .s
 | .bool => some .b
 | _ => none
def flatGs (P : Program) : Nat → List Field → Option (List Dk)
 | _, [] => some []
 | o, f :: fs => match (P.underlying f.type).bind fkOf with
   | some k => if f.name ≠ "_" ∧ f.offset = o then (flatGs P (o + 1) fs).map (k :: ·) else none
   | none => none
def flatG (P : Program) (t : TypeId) : Option (List Dk) := if P.stoodInHeld t || P.eqGuardType P.depth t then none else match P.underlying t with
 | some (.struct fs) => flatGs P 0 fs.toList
 | _ => none
theorem kB {P : Program} {w : World} {d t : Nat} {k : Dk} {x y : Dt} (hu : (P.underlying t).bind fkOf = some k) (hx : x.k = k) (hy : y.k = k) : (Op.equalIn (d + 1) t x.v y.v).run P w = .ok (decide (x = y)) w := by
 cases hd : P.underlying t with
 | none => rw [hd] at hu; cases hu
 | some td =>
   rw [hd] at hu;simp only [Option.bind_some] at hu;cases td <;> simp only [fkOf, Option.some.injEq, reduceCtorEq] at hu
   all_goals (subst hu; cases x <;> simp only [Dt.k, Dk.i.injEq, reduceCtorEq] at hx <;> cases y <;> simp only [Dt.k, Dk.i.injEq, reduceCtorEq] at hy)
   ·simp [Op.equalIn, run_underlying hd, Dt.v]; rfl
   ·subst hx hy; simp [Op.equalIn, run_underlying hd, Dt.v]; rfl
   ·simp [Op.equalIn, run_underlying hd, Dt.v, YE]
theorem Yr {P : Program} {t : Nat} {k : Dk} (hu : (P.underlying t).bind fkOf = some k) : single P t = true := by
 unfold single;cases hd : P.underlying t with
 | none => rw [hd] at hu; cases hu
 | some td => rw [hd] at hu; cases td <;> simp [fkOf] at hu ⊢
theorem qT {P : Program} {d : Nat} {w : World} {xs ys : Array Value} : ∀ {fs : List Field} {ks : List Dk} {o : Nat} {as bs : List Dt}, flatGs P o fs = some ks → as.map Dt.k = ks → bs.map Dt.k = ks →
  (∀ i u, (as.map Dt.v)[i]? = some u → xs[o + i]? = some u) → (∀ i u, (bs.map Dt.v)[i]? = some u → ys[o + i]? = some u) → (Op.eqFields (d + 1) xs ys fs).run P w = .ok (decide (as = bs)) w
 | [], ks, o, as, bs, hf, ha, hb, _, _ => by
   simp only [flatGs, Option.some.injEq] at hf;subst hf;have e1 : as = [] := by simpa using ha
   have e2 : bs = [] := by simpa using hb
   subst e1 e2
   simp [Op.eqFields]
 | f :: fs, ks, o, as, bs, hf, ha, hb, hx, hy => by
   unfold flatGs at hf
   split at hf
   ·rename_i k hu
    split at hf
    ·rename_i hc
     obtain ⟨hn, ho⟩ := hc;cases hr : flatGs P (o + 1) fs with
     | none => rw [hr] at hf; cases hf
     | some ks' =>
       rw [hr] at hf;simp only [Option.map_some, Option.some.injEq] at hf;subst hf
       match as, bs, ha, hb with
       | a :: as, b :: bs, ha, hb =>
         simp only [List.map_cons, List.cons.injEq] at ha hb;have h1 := hx 0 a.v (by simp);have h2 := hy 0 b.v (by simp)
         have ih := qT (P := P) (d := d) (w := w) (xs := xs) (ys := ys) hr ha.2 hb.2
          (fun i u hi => by have := hx (i + 1) u (by simpa using hi); rwa [show o + (i + 1) = o + 1 + i by omega] at this)
          (fun i u hi => by have := hy (i + 1) u (by simpa using hi); rwa [show o + (i + 1) = o + 1 + i by omega] at this)
         have hs := Yr hu;have he := kB (P := P) (w := w) (d := d) hu ha.1 hb.1;subst ho;simp only [Nat.add_zero] at h1 h2
         simp [Op.eqFields, hn, part, wI hs, h1, h2, he]
         by_cases hab : a = b
         ·subst hab; simp [ih]
         ·simp [hab]
    ·cases hf
   ·cases hf
section
variable {P : Program} {n : Nat} {env : Env} {dst : Option Tmp} {ty : TypeId} {pos : String} {aft : Array Edge} {gd : Option (Nat × Bool)} {t yt : Nat} {x y : Operand} {ks : List Dk} {as bs : List Dt}
theorem j9 (hk : flatG P t = some ks) (ha : as.map Dt.k = ks) (hb : bs.map Dt.k = ks) (w : World) :
  (∀ op, (eqGuard op t x y (.agg (as.map Dt.v).toArray) (.agg (bs.map Dt.v).toArray)).run P w = .ok () w) ∧ (Op.equal t (.agg (as.map Dt.v).toArray) (.agg (bs.map Dt.v).toArray)).run P w = .ok (decide (as = bs)) w := by
 unfold flatG at hk
 split at hk
 ·cases hk
 ·rename_i hno
  simp only [Bool.or_eq_true, not_or, Bool.not_eq_true] at hno
  split at hk
  ·rename_i fs hu
   refine ⟨fun op => ?_, ?_⟩
   ·unfold eqGuard
    simp [hno.2]
   ·have hf : P.fieldsOf t = fs := by unfold Program.fieldsOf; rw [hu]
    have hu' : P.underlying t = some (.struct (P.fieldsOf t)) := by rw [hf]; exact hu
    show (Op.equalIn (9998 + 1 + 1) t _ _).run P w = _;rw [run_equalIn_struct w (9998 + 1) t _ _ hu' hno.1, hf];exact qT hk ha hb (fun i u hi => by simpa using hi) (fun i u hi => by simpa using hi)
  ·cases hk
theorem Zs (as bs : List Dt) (hk : flatG P t = some ks) (ha : as.map Dt.k = ks) (hb : bs.map Dt.k = ks) (hx : ev env x = some (.agg (as.map Dt.v).toArray)) (hy : ev env y = some (.agg (bs.map Dt.v).toArray)) :
  PureV P n ⟨dst, .binOp .eql t x y yt, ty, pos, aft, gd⟩ env (.bool (decide (as = bs))) := by
 intro a w hag;obtain ⟨h1, h2⟩ := j9 (x := x) (y := y) hk ha hb w
 simp [execOp, hag.eval hx, hag.eval hy, h1, binOp, h2]
end
section
variable {P : Program} {n : Nat} {env : Env} {m : Mp} {L r : List Ent} {dst : Option Tmp} {ty : TypeId} {pos : String} {aft : Array Edge} {gd : Option (Nat × Bool)} {t : TypeId} {x y : Operand} {v : Value}
end
section
variable {P : Program} {n : Nat} {env : Env} {m : Mp} {L r : List Ent} {Q : Post} {p : Prop} {l0 l : List Oper}
theorem TS_fact {c : Code} (hf : ∀ h, HS m L h → p) (hk : p → TS P n c env m L Q) : TS P n c env m L Q := fun h hs => hk (hf h hs) h hs
theorem Z0 {e sz n c : Nat} {A : Option Addr} {xs : List Value} (hT : Tk L (own e sz A n c xs) r) (h0 : 0 < xs.length) : ∀ h, HS m L h → A.isSome = true := fun _ hs => (Own.rd (hs.get hT)).isSome h0
end
end Go.Eng
namespace Go.Eng
section
variable {P : Program} {Q : Exit → Act → World → Prop} {next : Act → World → Prop}
end
section
variable {P : Program} {n : Nat} {env : Env} {m : Mp} {L : List Ent} {Q : Post}
def Roomy (Q : Post) : Prop := ∀ env h, ¬ Q .outgrown env h
theorem Roomy.lets {x : Fx} (h : Roomy Q) : ¬ LetsOut (lift n x Q) := fun ⟨_, _, _, _, _, _, _, hq⟩ => h _ _ hq
def midQ (m : Mp) (K : Env → List Ent → Prop) (Q : Post) : Post
 | .normal, env, h => ∃ L', HS m L' h ∧ K env L'
 | .ret, env, h => Q .ret env h
 | _, _, _ => False
theorem YK {K : Env → List Ent → Prop} (L' : List Ent) (hp : Pick L L') (hk : K env L') : QS (midQ m K Q) .normal env m L := fun h hs => ⟨L', hp m h hs, hk⟩
end
section
variable {P : Program} {n : Nat} {env : Env} {m : Mp} {L : List Ent} {Q : Exit → Act → World → Prop} {x : Fx} {h : Heap} {d : Nat} {a : Act} {K : Env → List Ent → Prop}
def noQ : Post := fun _ _ _ => False
theorem qo {A B : Code} (ht : TS P n A env m L (midQ m K noQ)) (hs : HS m L h) (hag : AgD n x env a) (hk : ∀ env' L' h' d' a', K env' L' → HS m L' h' → AgD n x env' a' → B.wp P Q a' (W x h' d')) : (Code.seq A B).wp P Q a (W x h d) := by
 refine wp_seq (wp_mono (ht h hs x d a hag) ?_);rintro e a' w' ⟨env', h', d', hag', rfl, hq⟩;cases e with
 | normal => obtain ⟨L', hs', hb⟩ := hq; exact hk _ _ _ _ _ hb hs' hag'
 | ret => exact hq.elim
 | exit i => exact hq.elim
 | goto i => exact hq.elim
 | panic c => exact hq.elim
 | outgrown => exact hq.elim
theorem agD0 {l : List Value} {t : Nat → Question → Nat} {o : Os} {u : Array (Nat × ByteArray)} (hl : l.length ≤ n) : AgD n ⟨t, o, u, []⟩ (env0 l 0) { tmps := l.toArray ++ Array.replicate (n - l.toArray.size) undef, defers := [] } := by
 refine ⟨⟨?_, ?_⟩, rfl⟩
 ·simp; omega
 ·intro t v hv;rw [qi] at hv;simp only [Nat.zero_le, if_true, Nat.sub_zero] at hv;have hlt : t < l.length := (List.getElem?_eq_some_iff.1 hv).1;rw [Array.getElem?_append_left (by simpa using hlt)]
  simpa using hv
theorem at_W {c : Code} {w : World} (e : w = W x h d) (hk : ∀ a, AgD n x env a → c.wp P Q a (W x h d)) (hag : AgD n x env a) : c.wp P Q a w := by
 rw [e]; exact hk a hag
variable {l l0 : List Oper} {o : Oper} {v : Value} {t : Nat} {k : Nat} {w : World}
end
section
variable {m : Mp} {L : List Ent} {h h' : Heap}
end
end Go.Eng
namespace Go.Eng
def pan (v : Value) : List PanicEntry := [{ v, recovered := false }]
def CP (P : Program) (f : FuncId) (args : Array Value) (h : Heap) (R Rp : Value → Heap → Prop) : Prop :=
 ∀ (x : Fx) (d : Nat), Calls P f args (W x h d) fun e w' => ∃ v h' d', w' = W x h' d' ∧ ((e = .returned v ∧ R v h') ∨ (e = .panicked (pan v) ∧ Rp v h'))
theorem CP.of {P : Program} {f : FuncId} {args : Array Value} {h : Heap} {R Rp : Value → Heap → Prop} (hc : C P f args h R) : CP P f args h R Rp := fun x d =>
 (hc x d).mono fun _ _ ⟨v, h', d', h1, h2, h3⟩ => ⟨v, h', d', h2, .inl ⟨h1, h3⟩⟩
def retP (P : Program) (rs : List ResultVar) (R Rp : Value → Heap → Prop) : Post
 | .normal, env, h => ∃ vs, RvsOk P env h rs vs ∧ R (tup vs) h
 | .ret, env, h => ∃ vs, RvsOk P env h rs vs ∧ R (tup vs) h
 | .panic c, _, h => ∃ v, c = pan v ∧ Rp v h
 | _, _, _ => False
theorem CP_of {P : Program} {f : FuncId} {fn : Func} {c : Code} {l : List Value} {h : Heap} {R Rp : Value → Heap → Prop} (rs : List ResultVar) (hf : P.funcs[f]? = some fn) (hb : fn.body = some c) (hrs : fn.results = rs.toArray)
  (hl : Nat.ble l.length fn.ntmps = true) (ht : T P fn.ntmps c (env0 l 0) h (retP P rs R Rp)) : CP P f l.toArray h R Rp := by
 intro x d;refine calls_of_wp hf hb (wp_mono (ht ⟨x.tape, x.os, x.out, []⟩ d _ (agD0 (Nat.le_of_ble_eq_true hl))) ?_);rintro e a w' ⟨env, h', d', hag, rfl, hq⟩;cases e with
 | normal =>
   obtain ⟨vs, h1, h2⟩ := hq;exact ⟨hag.defers, _, h1.results hrs hag.toAg, _, h', d', rfl, .inl ⟨rfl, h2⟩⟩
 | ret =>
   obtain ⟨vs, h1, h2⟩ := hq;exact ⟨hag.defers, _, h1.results hrs hag.toAg, _, h', d', rfl, .inl ⟨rfl, h2⟩⟩
 | exit i => exact hq.elim
 | goto l => exact hq.elim
 | panic c =>
   obtain ⟨v, rfl, h2⟩ := hq;exact ⟨hag.defers, v, h', d', rfl, .inr ⟨rfl, h2⟩⟩
 | outgrown => exact hq.elim
section
variable {P : Program} {n : Nat} {env : Env} {h : Heap} {Q : Post} {K : Env → Heap → Prop} {d : Nat} {ty : TypeId} {pos : String} {aft : Array Edge} {gd : Option (Nat × Bool)}
theorem E_callP {f : FuncId} {args : List Operand} {ats : Array TypeId} {vs : List Value} {R Rp : Value → Heap → Prop} (hcl : callable P f = true) (hx : evs env args = some vs) (hc : CP P f vs.toArray h R Rp) (hn : Nat.blt d n = true)
  (hk : ∀ v h', R v h' → K ((d, v) :: env) h') (hp : ∀ v h', Rp v h' → Q (.panic (pan v)) env h') : Step P n Q ⟨some d, .call ⟨.value (.func f), args.toArray, ats⟩, ty, pos, aft, gd⟩ env h K := by
 intro fx dr a ha;have h1 := vP ha.toAg hx
 have h2 : (execOp a.eval ⟨some d, .call ⟨.value (.func f), args.toArray, ats⟩, ty, pos, aft, gd⟩).run P (W fx h dr) = .ok (.enter f vs.toArray) (W fx h dr) := by
  simp only [execOp, resolve, h1, Act.eval, Deferred.ofValue, Sem.run_bind, Sem.run_pure, Result.andThen_ok, invoke, Array.empty_append, Array.append_empty];exact xE hcl _ _
 unfold Oper.wp;rw [h2, Oper.upon_enter];refine (hc fx dr).mono ?_;rintro e w' ⟨v, h', d', rfl, ⟨rfl, hr⟩ | ⟨rfl, hr⟩⟩
 ·exact ⟨_, h', d', ha.put d v (by simpa [Nat.blt_eq] using hn), rfl, hk v h' hr⟩
 ·exact ⟨_, h', d', ha, rfl, hp v h' hr⟩
theorem E_panic {dst : Option Tmp} {y : Operand} {t : TypeId} {v : Value} (hx : ev env y = some (.iface t v)) (hq : Q (.panic (pan (.iface t v))) env h) : Step P n Q ⟨dst, .panic y, ty, pos, aft, gd⟩ env h K := by
 intro fx dr a ha
 have h2 : (execOp a.eval ⟨dst, .panic y, ty, pos, aft, gd⟩).run P (W fx h dr) = .halt (.panic (.iface t v)) (W fx h dr) := by
  simp only [execOp, ha.toAg.eval hx, Instr.panic, goPanic]
  rfl
 unfold Oper.wp;rw [h2, Oper.upon_panic];exact ⟨env, h, dr, ha, rfl, hq⟩
end
section
variable {P : Program} {n : Nat} {env : Env} {dst : Option Tmp} {ty : TypeId} {pos : String} {aft : Array Edge} {gd : Option (Nat × Bool)} {x : Operand} {t u xt : TypeId} {v zv : Value}
theorem wR (ht : isIface P t = false) (hs : (P.underlying t).isSome = true) (hx : ev env x = some (.iface t v)) : PureV P n ⟨dst, .typeAssert x xt t true, ty, pos, aft, gd⟩ env (.tuple #[v, .bool true]) := by
 intro a' w ha;obtain ⟨ds, hds⟩ := Option.isSome_iff_exists.1 hs;unfold isIface at ht;rw [hds] at ht;simp only [execOp, Instr.typeAssert, ha.eval hx];cases ds <;> simp_all [run_underlying hds]
theorem uQ (ht : isIface P t = false) (hs : (P.underlying t).isSome = true) (hx : ev env x = some (.iface u v)) (hne : Nat.beq u t = false) (hz : ∀ w, (zeroValue t).run P w = .ok zv w) : PureV P n ⟨dst, .typeAssert x xt t true, ty, pos, aft, gd⟩ env (.tuple #[zv, .bool false]) := by
 intro a' w ha;obtain ⟨ds, hds⟩ := Option.isSome_iff_exists.1 hs;have hut : ¬ u = t := fun e => by rw [e, Nat.beq_refl] at hne; cases hne
 unfold isIface at ht;rw [hds] at ht;simp only [execOp, Instr.typeAssert, ha.eval hx];cases ds <;> simp_all [run_underlying hds]
end
section
variable {P : Program} {n : Nat} {env : Env} {h : Heap} {m : Mp} {L : List Ent} {Q : Post} {d : Nat} {ty : TypeId} {pos : String} {aft : Array Edge} {gd : Option (Nat × Bool)}
end
section
variable {P : Program} {n : Nat} {env : Env} {m : Mp} {L : List Ent} {Q : Post} {l : List Oper} {wild : Nat → Bool} {t : OT} {o : Oper} {v : Value} {d i : Nat}
theorem jT {K : Env → List Ent → Prop} (hr : ∀ h, HS m L h → ReadV P n o env h v) (hd : o.dst = some d) (hn : Nat.blt d n = true) (hk : K ((d, v) :: env) L) : StepS P n Q o env m L true K := fun h hs => (hr h hs).step hd hn ⟨fun _ => Le.refl _, L, hs, hk⟩
theorem xA (ho : nth l i = some o) (hr : ∀ h, HS m L h → ReadV P n o env h v) (hd : o.dst = some d) (hn : Nat.blt d n = true) (hw : wanted l env o = some true) (hk : VTS P n l wild t ((d, v) :: env) m L Q) : VTS P n l wild (.step i .kept t) env m L Q :=
 zn ho (jT hr hd hn hk) hw
end
end Go.Eng
namespace Go.Eng
theorem HS.congr {m : Mp} {L : List Ent} {h h' : Heap} (hs : HS m L h) (e : mp h' = mp h) : HS m L h' := ⟨by rw [e]; exact hs.base, by rw [e]; exact hs.inv, hs.out, hs.apart⟩
def Wc (m : Mp) (a : Addr) (v : Value) : Prop := mc m a = some v ∧ mfr m a = false
theorem Wc.mono {m m' : Mp} (h : Le m m') {a : Addr} {v : Value} (hc : Wc m a v) : Wc m' a v := by
 refine ⟨xW h hc.1, ?_⟩;obtain ⟨h1, h2⟩ := hc;unfold mc at h1;cases hb : m a.block with
 | none => rw [hb] at h1; cases h1
 | some o =>
   unfold mfr at h2 ⊢;rw [hb] at h2;rw [h _ _ hb];exact h2
theorem Wc.cel {m : Mp} {b i : Nat} {l : List Value} {e : TypeId} {v : Value} (hi : (cel b l e).inv m) (hv : vnth l i = some v) : Wc m ⟨b, i, none⟩ v :=
 ⟨zU hi hv, by have h1 : m b = some (.cells l.toArray e (0, 0)) := hi; simp [mfr, h1]⟩
theorem Wc.own {m : Mp} {e sz k c i : Nat} {A : Option Addr} {xs : List Value} {v : Value} (hi : Own m e sz A k c xs) (hv : xs[i]? = some v) : Wc m ((sa A).add i) v := by
 refine ⟨(Own.rd hi).at_ hv, ?_⟩;have hs := (Own.rd hi i v hv).1;obtain ⟨_, _, ⟨rfl, _⟩ | ⟨g, o, cur, rfl, hg, _⟩⟩ := hi
 ·cases hs
 ·have : (sa (some (⟨g, o, none⟩ : Addr))).add i = ⟨g, o + i, none⟩ := by show (⟨g, o, none⟩ : Addr).add i = _; rw [Addr.add_lit]
  rw [this]
  simp [mfr, hg]
section
variable {P : Program} {n : Nat} {env : Env} {m : Mp} {L r : List Ent} {Q : Post} {K : Env → List Ent → Prop} {d : Nat} {ty : TypeId} {pos : String} {aft : Array Edge} {gd : Option (Nat × Bool)} {t : TypeId} {x y : Operand} {v : Value}
theorem z7 {a : Addr} {dst : Option Tmp} (ht : single P t = true) (hx : ev env x = some (.pointer (some a))) (hc : Wc m a v) : ∀ h, HS m L h → ReadV P n ⟨dst, .load t x, ty, pos, aft, gd⟩ env h v := zR ht hx hc.1
structure Plc (a : Addr) (E : Value → Ent) : Prop where
 wc : ∀ {m : Mp} {u : Value}, (E u).inv m → Wc m a u
 set : ∀ {m : Mp} {r : List Ent} {h : Heap} {u v : Value}, HS m (E u :: r) h → HS m (E v :: r) (hset h a v)
theorem Ya {b k : Nat} {o : Obj} (hk : (blk b o).dom k = false) : k ≠ b := by rintro rfl; simp [blk] at hk
theorem Plc.cel {b i : Nat} {l : List Value} {e : TypeId} (hi : i < l.length) : Plc ⟨b, i, none⟩ (fun v => cel b (l.set i v) e) where
 wc := fun {m u} h => Wc.cel (l := l.set i u) h (by rw [← vU]; simp [hi])
 set := fun {m r h u v} hs => by
  refine hs.upd (e' := Eng.cel b (l.set i v) e) (fun k _ hk => uF h _ v (Ya hk)) ?_ fun k hk => .inl hk;have := kJ (i := i) h v (l := l.set i u) (e := e) (fr := (0, 0)) hs.head;show mp _ b = _;rw [this, List.set_set]
theorem Plc.own {e sz k c i : Nat} {A : Option Addr} {xs : List Value} (hi : i < xs.length) : Plc ((sa A).add i) (fun v => own e sz A k c (xs.set i v)) where
 wc := fun {m u} h => Wc.own (xs := xs.set i u) h (by simp [hi])
 set := fun {m r h u v} hs => by
  have ho : Own (mp h) e sz A k c (xs.set i u) := hs.head;obtain ⟨hl, hc, ⟨rfl, rfl⟩ | ⟨g, o, cur, rfl, hg, hcm, hcs, htake⟩⟩ := ho
  ·simp only [List.length_set] at hl;have h1 : k = 0 := by omega
   rw [h1] at hl;omega
  ·have hsa : (sa (some (⟨g, o, none⟩ : Addr))).add i = ⟨g, o + i, none⟩ := by show (⟨g, o, none⟩ : Addr).add i = _; rw [Addr.add_lit]
   rw [hsa];have hg' : mp h g = some (.cells cur.toList.toArray e (0, 0)) := by simpa using hg
   refine hs.upd (e' := Eng.own e sz (some ⟨g, o, none⟩) k c (xs.set i v)) (fun j _ hj => uF h _ v ?_) ?_ fun j hj => .inl hj
   ·intro e;subst e;have hj' : inB (some ⟨_, o, none⟩) _ = false := hj
    simp [inB, ownB] at hj'
   ·refine ⟨by simpa using hl, hc, .inr ⟨g, o, _, rfl, kJ h v hg', hcm, by simpa using hcs, ?_⟩⟩;simp only [List.length_set] at hl;rw [show xs.set i v = (xs.set i u).set i v from by rw [List.set_set], ← htake];simp only [List.drop_set, Nat.add_sub_cancel_left]
    split
    ·omega
    ·rw [List.take_set]
structure PlcN (a : Addr) (E : List Value → Ent) (q : Nat) : Prop where
 at_ : ∀ {l : List Value} {i : Nat}, l.length = q → i < q → Plc (a.add i) (fun v => E (l.set i v))
theorem PlcN.cel {b o : Nat} {l : List Value} {e : TypeId} {q : Nat} (hi : o + q ≤ l.length) : PlcN ⟨b, o, none⟩ (fun w => cel b (l.take o ++ w ++ l.drop (o + q)) e) q where
 at_ := fun {w i} hw hiq => by
  rw [Addr.add_lit];have := Plc.cel (b := b) (i := o + i) (l := l.take o ++ w ++ l.drop (o + q)) (e := e) (by simp; omega)
  have e1 : (fun v => Eng.cel b ((l.take o ++ w ++ l.drop (o + q)).set (o + i) v) e) = (fun v => Eng.cel b (l.take o ++ w.set i v ++ l.drop (o + q)) e) := by
   funext v
   congr 1
   rw [List.append_assoc, List.set_append_right _ _ (by simp; omega), List.set_append_left _ _ (by simp; omega), List.append_assoc]
   congr 3
   simp
   omega
  rw [e1] at this;exact this
theorem PlcN.own {e sz k c o : Nat} {A : Option Addr} {xs : List Value} {q : Nat} (hi : o + q ≤ xs.length) : PlcN ((sa A).add o) (fun w => own e sz A k c (xs.take o ++ w ++ xs.drop (o + q))) q where
 at_ := fun {w i} hw hiq => by
  rw [vi];have := Plc.own (e := e) (sz := sz) (k := k) (c := c) (A := A) (i := o + i) (xs := xs.take o ++ w ++ xs.drop (o + q)) (by simp; omega)
  have e1 : (fun v => Eng.own e sz A k c ((xs.take o ++ w ++ xs.drop (o + q)).set (o + i) v)) = (fun v => Eng.own e sz A k c (xs.take o ++ w.set i v ++ xs.drop (o + q))) := by
   funext v
   congr 1
   rw [List.append_assoc, List.set_append_right _ _ (by simp; omega), List.set_append_left _ _ (by simp; omega), List.append_assoc]
   congr 3
   simp
   omega
  rw [e1] at this;exact this
end
inductive USetL : List Value → Nat → List Value → List Value → Prop
 | nil {r : List Value} : USetL r 0 [] r
 | cons {u v : Value} {r vs r' : List Value} (h : USetL r 0 vs r') : USetL (u :: r) 0 (v :: vs) (v :: r')
 | there {u : Value} {r vs r' : List Value} {i : Nat} (h : USetL r i vs r') : USetL (u :: r) (i + 1) vs (u :: r')
theorem USetL.eq {l vs l' : List Value} {i : Nat} (h : USetL l i vs l') : i + vs.length ≤ l.length ∧ l' = l.take i ++ vs ++ l.drop (i + vs.length) := by
 induction h with
 | nil => simp
 | cons h ih =>
   obtain ⟨h1, h2⟩ := ih
   simp at h1 h2 ⊢
   exact ⟨h1, h2⟩
 | there h ih =>
   obtain ⟨h1, h2⟩ := ih;refine ⟨by simp; omega, ?_⟩;rw [h2]
   simp [Nat.add_right_comm]
section
variable {P : Program} {n : Nat} {env : Env} {h : Heap} {m : Mp} {L : List Ent} {Q : Post} {ty : TypeId} {pos : String} {aft : Array Edge} {gd : Option (Nat × Bool)} {t : TypeId} {x y : Operand}
theorem Zw {K : Env → Heap → Prop} {b o q : Nat} {l vs l' : List Value} {e : TypeId} (ht : aggSize P t = some q) (hx : ev env x = some (.pointer (some ⟨b, o, none⟩))) (hy : ev env y = some (.agg vs.toArray)) (hq : Nat.beq vs.length q = true)
  (hb : mp h b = some (.cells l.toArray e (0, 0))) (hu : USetL l o vs l') (h1 : vs.all oneV = true)
  (hk : ∀ h', mp h' b = some (.cells l'.toArray e (0, 0)) → (∀ j, j ≠ b → mp h' j = mp h j) → h'.size = h.size → K env h') : Step P n Q ⟨none, .store t x y, ty, pos, aft, gd⟩ env h K :=
 xp rfl fun fx dr act ha => by
  have hq' := Nat.eq_of_beq_eq_true hq;obtain ⟨hu1, hu2⟩ := hu.eq;obtain ⟨_, i, hi, hsi⟩ := xX ht;have hst := run_storeCells_at P b o e vs 0 l.toArray (W fx h dr) hb (by simp; omega) (fun v hv => uB (by rw [List.all_eq_true] at h1; exact h1 v hv))
  obtain ⟨h', hw, hsz2, hoth⟩ := u0 fx h dr b (l.toArray.toList.take (o + 0) ++ vs ++ l.toArray.toList.drop (o + 0 + vs.length)).toArray;have hg' := setRow_heap (W fx h dr) b l.toArray (l.toArray.toList.take (o + 0) ++ vs ++ l.toArray.toList.drop (o + 0 + vs.length)).toArray e (0, 0) hb;rw [hw] at hg' hst;refine ⟨h', dr, ?_, hk h' ?_ hoth hsz2⟩
  ·have hc : (Value.agg vs.toArray).cells = vs.toArray := rfl;simp only [execOp, Instr.storeAt, ha.eval hx, ha.eval hy, Instr.sureAddr, storeVar, hc]
   simp [sizeOf, typeInfo, hi, hsi, hq', hst]
  ·rw [hu2];exact hg'
theorem xU {K : Env → List Ent → Prop} {b o q : Nat} {l vs l' : List Value} {e : TypeId} {L' : List Ent} (ht : aggSize P t = some q) (hx : ev env x = some (.pointer (some ⟨b, o, none⟩))) (hy : ev env y = some (.agg vs.toArray)) (hq : Nat.beq vs.length q = true)
  (hT : Sel L (cel b l e) (cel b l' e) L') (hu : USetL l o vs l') (h1 : vs.all oneV = true) (hk : K env L') : StepS P n Q ⟨none, .store t x y, ty, pos, aft, gd⟩ env m L false K := fun h hs => by
 obtain ⟨r, g1, g2⟩ := hT.split;have h3 := hs.take g1;exact Zw ht hx hy hq (show mp h b = some (.cells l.toArray e (0, 0)) from h3.head) hu h1 fun h' k1 k2 k3 => ⟨(fun hf => by cases hf), L', (h3.upd (e' := cel b l' e) (fun k _ hk => k2 k (Ya hk)) k1 fun k hk => .inl hk).untake g2, hk⟩
end
def pack (L : List Ent) : Ent where
 dom := fun k => L.any fun e => e.dom k
 inv := fun m => (∀ e ∈ L, e.inv m) ∧ L.Pairwise fun (a b : Ent) => ∀ k : Nat, a.dom k = true → b.dom k = false
 loc := fun {m m'} h hi => ⟨fun e he => e.loc (fun k hk => h k (by rw [List.any_eq_true]; exact ⟨e, he, hk⟩)) (hi.1 e he), hi.2⟩
 has := fun {m k} hi hk => by
  rw [List.any_eq_true] at hk;obtain ⟨e, he, hk⟩ := hk;exact e.has (hi.1 e he) hk
theorem HS.pack_iff {m : Mp} {L r : List Ent} {h : Heap} : HS m (L ++ r) h ↔ HS m (pack L :: r) h := by
 constructor
 ·intro ⟨h1, h2, h3, h4⟩;rw [List.pairwise_append] at h4;refine HS.cons_iff.2 ⟨⟨h1, fun e he => h2 e (by simp [he]), fun e he => h3 e (by simp [he]), h4.2.1⟩, ⟨fun e he => h2 e (by simp [he]), h4.1⟩, fun k hk => ?_, fun x hx k hk => ?_⟩
  ·have hk' : (L.any fun e => e.dom k) = true := hk;rw [List.any_eq_true] at hk';obtain ⟨e, he, hk'⟩ := hk';exact h3 e (by simp [he]) k hk'
  ·have hk' : (L.any fun e => e.dom k) = true := hk;rw [List.any_eq_true] at hk';obtain ⟨e, he, hk'⟩ := hk';exact h4.2.2 e he x hx k hk'
 ·intro hs;obtain ⟨h1, h2, h3, h4⟩ := HS.cons_iff.1 hs
  have key : ∀ e ∈ L, ∀ k, e.dom k = true → (pack L).dom k = true := fun e he k hk => by
   show (L.any fun e => e.dom k) = true;rw [List.any_eq_true]; exact ⟨e, he, hk⟩
  refine ⟨h1.base, fun e he => ?_, fun e he k hk => ?_, List.pairwise_append.2 ⟨h2.2, h1.apart, fun a ha b hb k hk => h4 b hb k (key a ha k hk)⟩⟩
  ·rcases List.mem_append.1 he with he | he
   ·exact h2.1 e he
   ·exact h1.inv e he
  ·rcases List.mem_append.1 he with he | he
   ·exact h3 k (key e he k hk)
   ·exact h1.out e he k hk
inductive Tks : List Ent → List Ent → List Ent → Prop
 | nil {L : List Ent} : Tks L [] L
 | cons {L r es r' : List Ent} {e : Ent} (h : Tk L e r) (hs : Tks r es r') : Tks L (e :: es) r'
theorem HS.takes {L es r : List Ent} (ht : Tks L es r) : ∀ {m : Mp} {h : Heap}, HS m L h → HS m (es ++ r) h := by
 induction ht with
 | nil => exact fun hs => hs
 | cons h _ ih =>
   intro m h' hs;have h1 := hs.take h;obtain ⟨a1, a2, a3, a4⟩ := HS.cons_iff.1 h1;have h2 := ih a1;refine HS.cons_iff.2 ⟨h2, a2, a3, fun x hx k hk => ?_⟩
   -- what is taken is of what was there
   have h5 := ih (m := fun j => if (Ent.dom _ j) then mp h' j else m j) (h := h') (by
    refine ⟨fun j o hj => ?_, a1.inv, fun x hx j hj => ?_, a1.apart⟩
    ·split at hj
     ·exact hj
     ·exact a1.base j o hj
    ·split
     ·rename_i he
      have := a4 x hx j he;rw [hj] at this;cases this
     ·exact a1.out x hx j hj)
   cases hxk : x.dom k with
   | false => rfl
   | true =>
     have h6 := h5.out x hx k hxk;simp only [hk, if_true] at h6;exact absurd h6 (x.has (h2.inv x hx) hxk)
theorem HS.part {m : Mp} {pre r : List Ent} {h : Heap} (hs : HS m (pre ++ r) h) : ∃ m', Le m m' ∧ HE r m' ∧ HS m' pre h ∧ ∀ {h' : Heap} {L' : List Ent}, HS m' L' h' → HS m (L' ++ r) h' := by
 have h0 := HS.pack_iff.1 hs;obtain ⟨h1, h2, h3⟩ := h0.away;refine ⟨_, h2, h3, ?_, fun hc => h0.frame1 hc⟩;have := HS.pack_iff (L := pre) (r := []) (m := Eng.away (pack pre) (mp h)) (h := h);rw [List.append_nil] at this;exact this.2 h1
def CSP (P : Program) (f : FuncId) (args : List Value) (m : Mp) (pre : List Ent) (post ppost : Value → List Ent → Prop) : Prop :=
 ∀ h, HS m pre h → CP P f args.toArray h (postS m post) (postS m ppost)
theorem CS.toP {P : Program} {f : FuncId} {args : List Value} {m : Mp} {pre : List Ent} {post ppost : Value → List Ent → Prop} (hc : CS P f args m pre post) : CSP P f args m pre post ppost := fun h hs => CP.of (hc h hs)
theorem CSP.of {P : Program} {f : FuncId} {args : List Value} {m : Mp} {pre : List Ent} {post ppost : Value → List Ent → Prop} (hc : CS P f args m pre post) : CSP P f args m pre post ppost := hc.toP
theorem z6 {P : Program} {f : FuncId} {fn : Func} {c : Code} {l : List Value} {m : Mp} {pre : List Ent} {post ppost : Value → List Ent → Prop} (rs : List ResultVar) (hf : P.funcs[f]? = some fn) (hb : fn.body = some c) (hrs : fn.results = rs.toArray)
  (hl : Nat.ble l.length fn.ntmps = true) (ht : TS P fn.ntmps c (env0 l 0) m pre (retP P rs (postS m post) (postS m ppost))) : CSP P f l m pre post ppost :=
 fun h hs => CP_of rs hf hb hrs hl (ht h hs)
theorem zo {P : Program} {rs : List ResultVar} {env : Env} {m : Mp} {L : List Ent} {post ppost : Value → List Ent → Prop} (vs : List Value) (hv : RvsS P env L rs vs) (L' : List Ent) (hp : Pick L L') (hq : post (tup vs) L') : QS (retP P rs (postS m post) (postS m ppost)) .ret env m L :=
 fun h hs => ⟨vs, hv.ok hs, L', hq, hp m h hs⟩
theorem yi {P : Program} {rs : List ResultVar} {env : Env} {m : Mp} {L : List Ent} {post ppost : Value → List Ent → Prop} (vs : List Value) (hv : RvsS P env L rs vs) (L' : List Ent) (hp : Pick L L') (hq : post (tup vs) L') : QS (retP P rs (postS m post) (postS m ppost)) .normal env m L :=
 fun h hs => ⟨vs, hv.ok hs, L', hq, hp m h hs⟩
theorem QS_pan {P : Program} {rs : List ResultVar} {env : Env} {m : Mp} {L : List Ent} {post ppost : Value → List Ent → Prop} {v : Value} (L' : List Ent) (hp : Pick L L') (hq : ppost v L') : QS (retP P rs (postS m post) (postS m ppost)) (.panic (pan v)) env m L :=
 fun h hs => ⟨v, rfl, L', hq, hp m h hs⟩
section
variable {P : Program} {n : Nat} {env : Env} {m : Mp} {L r : List Ent} {Q : Post} {K : Env → List Ent → Prop} {d : Nat} {ty : TypeId} {pos : String} {aft : Array Edge} {gd : Option (Nat × Bool)}
theorem yZ {f : FuncId} {args : List Operand} {ats : Array TypeId} {vs : List Value} {pre : List Ent} {post ppost : Value → List Ent → Prop} (hcl : callable P f = true) (hx : evs env args = some vs) (hT : Tks L pre r) (hc : ∀ m', Le m m' → HE r m' → CSP P f vs m' pre post ppost) (hn : Nat.blt d n = true)
  (hp : ∀ v L', ppost v L' → QS Q (.panic (pan v)) env m (L' ++ r)) (hk : ∀ v L', post v L' → K ((d, v) :: env) (L' ++ r)) : StepS P n Q ⟨some d, .call ⟨.value (.func f), args.toArray, ats⟩, ty, pos, aft, gd⟩ env m L false K := fun h hs => by
 obtain ⟨m', h1, h2, h3, h4⟩ := (HS.takes hT hs).part;exact E_callP hcl hx (hc m' h1 h2 h h3) hn (fun v h' ⟨L', g1, g2⟩ => ⟨fun hf => (by cases hf), _, h4 g2, hk v L' g1⟩) fun v h' ⟨L', g1, g2⟩ => hp v L' g1 h' (h4 g2)
theorem S_panic {dst : Option Tmp} {y : Operand} {t : TypeId} {v : Value} {kept : Bool} (hx : ev env y = some (.iface t v)) (hq : QS Q (.panic (pan (.iface t v))) env m L) : StepS P n Q ⟨dst, .panic y, ty, pos, aft, gd⟩ env m L kept K := fun h hs => E_panic hx (hq h hs)
end
def uni (m n : Mp) : Mp := fun k => (m k).or (n k)
theorem yL (m n : Mp) : Le m (uni m n) := fun k o h => by simp [uni, h]
theorem yU {m n : Mp} (hd : ∀ k, n k ≠ none → m k = none) : Le n (uni m n) := fun k o h => by
 have := hd k (by rw [h]; exact fun e => by cases e)
 simp [uni, this, h]
def snap (ns : Mp) : Ent where
 dom := fun k => (ns k).isSome
 inv := fun m => Le ns m
 loc := fun {m m'} h hi k o hk => by rw [h k (by simp [hk])]; exact hi k o hk
 has := fun {m k} hi hk => by
  obtain ⟨o, ho⟩ := Option.isSome_iff_exists.1 hk;rw [hi k o ho];exact fun e => by cases e
theorem HS.toSnap {m : Mp} {e : Ent} {r : List Ent} {h : Heap} (hs : HS m (e :: r) h) : ∃ ns, e.inv ns ∧ (∀ k, (ns k).isSome = e.dom k) ∧ HS m (snap ns :: r) h := by
 obtain ⟨h1, h2, h3, h4⟩ := HS.cons_iff.1 hs
 have hdom : ∀ k, ((if e.dom k = true then mp h k else none : Option Obj)).isSome = e.dom k := fun k => by
  cases he : e.dom k with
  | false => simp
  | true =>
    simp only [if_true];have := e.has h2 he;cases hm : mp h k with
    | none => exact absurd hm this
    | some o => rfl
 refine ⟨fun k => if e.dom k = true then mp h k else none, e.loc (fun k hk => by simp [hk]) h2, hdom, HS.cons_iff.2 ⟨h1, fun k o hk => ?_, fun k hk => h3 k ?_, fun x hx k hk => h4 x hx k ?_⟩⟩
 ·by_cases he : e.dom k = true
  ·simpa [he] using hk
  ·simp [he] at hk
 ·rw [← hdom k]; exact hk
 ·rw [← hdom k]; exact hk
theorem HS.absorb {m ns : Mp} {r : List Ent} {h : Heap} (hs : HS m (snap ns :: r) h) : (∀ k, ns k ≠ none → m k = none) ∧ HS (uni m ns) r h := by
 obtain ⟨h1, h2, h3, h4⟩ := HS.cons_iff.1 hs;refine ⟨fun k hk => h3 k (by cases hn : ns k with | none => exact absurd hn hk | some o => simp [snap, hn]), fun k o hk => ?_, h1.inv, fun x hx k hk => ?_, h1.apart⟩
 ·unfold uni at hk;cases hm : m k with
  | some u => rw [hm] at hk; simp at hk; subst hk; exact h1.base k _ hm
  | none => rw [hm] at hk; simp at hk; exact h2 k o hk
 ·unfold uni;rw [h1.out x hx k hk];cases hn : ns k with
  | none => rfl
  | some o => have := h4 x hx k (by simp [snap, hn]); rw [hk] at this; cases this
theorem HS.weaken {m m' : Mp} {L : List Ent} {h : Heap} (hs : HS m' L h) (hl : Le m m') : HS m L h :=
 ⟨hl.trans hs.base, hs.inv, (fun e he k hk => by
  cases hm : m k with
  | none => rfl
  | some o => (have := hs.out e he k hk; rw [hl k o hm] at this; cases this)), hs.apart⟩
section
variable {P : Program} {n : Nat} {env : Env} {m : Mp} {L r : List Ent} {Q : Post}
theorem zw {c : Code} {e : Ent} (hT : Tk L e r) (hk : ∀ ns, e.inv ns → (∀ k, (ns k).isSome = e.dom k) → (∀ k, ns k ≠ none → m k = none) → TS P n c env (uni m ns) r Q) : TS P n c env m L Q := fun h hs => by
 obtain ⟨ns, h1, h2, h3⟩ := (hs.take hT).toSnap;obtain ⟨h4, h5⟩ := h3.absorb;exact hk ns h1 h2 h4 h h5
theorem vk {l0 l : List Oper} {e : Ent} (hT : Tk L e r) (hk : ∀ ns, e.inv ns → (∀ k, (ns k).isSome = e.dom k) → (∀ k, ns k ≠ none → m k = none) → VS P n l0 l env (uni m ns) r Q) : VS P n l0 l env m L Q := fun h hs => by
 obtain ⟨ns, h1, h2, h3⟩ := (hs.take hT).toSnap;obtain ⟨h4, h5⟩ := h3.absorb;exact hk ns h1 h2 h4 h h5
theorem j0 {x : Exit} {m' : Mp} (hl : Le m m') (ht : QS Q x env m L) : QS Q x env m' L := fun h hs => ht h (hs.weaken hl)
end
theorem XX {P : Program} {o : Oper} {a : Act} {w : World} {K K' : Act → World → Prop} {Q Q' : Exit → Act → World → Prop} (h : ∀ a w, K a w → K' a w) (hp : ∀ c a w, Q (.panic c) a w → Q' (.panic c) a w) (ho : ∀ a w, Q .outgrown a w → Q' .outgrown a w)
  (hh : o.wp P a w K Q) : o.wp P a w K' Q' := by
 unfold Oper.wp at *;generalize (execOp a.eval o).run P w = r at *;cases r with
 | ok n w' =>
   cases n <;> simp only [Oper.upon] at hh ⊢ <;>
    first
     | exact h _ _ hh
     | exact Calls.mono hh (fun e w'' he => by cases e <;> first | exact h _ _ he | exact hp _ _ _ he | exact he.imp fun _ he => he.imp fun _ he => ho _ _ he)
     | exact Rows.mono hh (fun _ _ he => h _ _ he)
 | halt x w' => cases x <;> simp only [Oper.upon] at hh ⊢ <;> first | exact hp _ _ _ hh | exact hh
theorem vy {P : Program} {ops : Array Oper} {l2 : List Oper} {Q1 Q : Exit → Act → World → Prop} (hn : ∀ a w, Q1 .normal a w → wpList P ops Q l2 a w) (he : ∀ e, e ≠ .normal → ∀ a w, Q1 e a w → Q e a w) :
  ∀ {l1 : List Oper} {a : Act} {w : World}, wpList P ops Q1 l1 a w → wpList P ops Q (l1 ++ l2) a w
 | [], a, w, hh => hn a w hh
 | o :: r, a, w, hh => by
   unfold wpList at hh;show wpList P ops Q (o :: (r ++ l2)) a w;unfold wpList
   split
   ·rename_i hw
    simp only [hw, if_true] at hh;rcases hh with hh | ⟨h1, a', w', h2⟩
    ·exact .inl (XX (fun a w hk => vy hn he hk) (fun c a w => he _ (by simp) a w) (fun a w => he _ (by simp) a w) hh)
    ·exact .inr ⟨h1, a', w', he _ (by simp) _ _ h2⟩
   ·rename_i hw
    rw [if_neg hw] at hh;exact vy hn he hh
section
variable {P : Program} {n : Nat} {env : Env} {m : Mp} {L : List Ent} {Q : Post} {l0 l : List Oper}
end
section
variable {P : Program} {n : Nat} {env : Env} {m : Mp} {L : List Ent} {Q : Post}
end
theorem HE0 {e : Ent} {r : List Ent} {m : Mp} (h : HE (e :: r) m) : e.inv m := h e (by simp)
theorem Wc.he {b i : Nat} {l : List Value} {e : TypeId} {r : List Ent} {m : Mp} {v : Value} (h : HE (Eng.cel b l e :: r) m) (hv : vnth l i = some v) : Wc m ⟨b, i, none⟩ v := Wc.cel (HE0 h) hv
section
variable {P : Program} {n : Nat} {env : Env} {m : Mp} {L : List Ent} {Q : Post} {ch : List PanicEntry}
theorem qW {c : Code} (hq : QS Q (.panic ch) env m L) : QS (thenQ P n c Q) (.panic ch) env m L := hq
theorem kp {id : Nat} (hq : QS Q (.panic ch) env m L) : QS (blockQ id Q) (.panic ch) env m L := hq
theorem ze {α : Type} {S : α → Env} {LL : α → List Ent} {F : α → Prop} {μ : α → Nat} {k : Nat} (hq : QS Q (.panic ch) env m L) : QS (roundS m S LL F μ k Q) (.panic ch) env m L := hq
end
section
variable {P : Program} {n : Nat} {env : Env} {h : Heap} {m : Mp} {L r : List Ent} {Q : Post} {d : Nat} {ty : TypeId} {pos : String} {aft : Array Edge} {gd : Option (Nat × Bool)}
theorem XV {K : Env → Heap → Prop} {f : FuncId} {fv : Operand} {args : List Operand} {ats : Array TypeId} {vs p q : List Value} {R Rp : Value → Heap → Prop} (hcl : callable P f = true) (hf : ev env fv = some (.func (.func f) p.toArray q.toArray)) (hx : evs env args = some vs)
  (hc : CP P f ((p ++ vs) ++ q).toArray h R Rp) (hn : Nat.blt d n = true) (hk : ∀ v h', R v h' → K ((d, v) :: env) h') (hp : ∀ v h', Rp v h' → Q (.panic (pan v)) env h') : Step P n Q ⟨some d, .call ⟨.value fv, args.toArray, ats⟩, ty, pos, aft, gd⟩ env h K := by
 intro fx dr a ha;have h1 := vP ha.toAg hx
 have h2 : (execOp a.eval ⟨some d, .call ⟨.value fv, args.toArray, ats⟩, ty, pos, aft, gd⟩).run P (W fx h dr) = .ok (.enter f ((p ++ vs) ++ q).toArray) (W fx h dr) := by
  simp only [execOp, resolve, h1, ha.toAg.eval hf, Deferred.ofValue, Sem.run_bind, Sem.run_pure, Result.andThen_ok, invoke, List.append_toArray];exact xE hcl _ _
 unfold Oper.wp;rw [h2, Oper.upon_enter];refine (hc fx dr).mono ?_;rintro e w' ⟨v, h', d', rfl, ⟨rfl, hr⟩ | ⟨rfl, hr⟩⟩
 ·exact ⟨_, h', d', ha.put d v (by simpa [Nat.blt_eq] using hn), rfl, hk v h' hr⟩
 ·exact ⟨_, h', d', ha, rfl, hp v h' hr⟩
theorem wB {K : Env → List Ent → Prop} {f : FuncId} {fv : Operand} {args : List Operand} {ats : Array TypeId} {vs p q : List Value} {pre : List Ent} {post ppost : Value → List Ent → Prop} (hcl : callable P f = true) (hf : ev env fv = some (.func (.func f) p.toArray q.toArray)) (hx : evs env args = some vs) (hT : Tks L pre r)
  (hc : ∀ m', Le m m' → HE r m' → CSP P f ((p ++ vs) ++ q) m' pre post ppost) (hn : Nat.blt d n = true) (hp : ∀ v L', ppost v L' → QS Q (.panic (pan v)) env m (L' ++ r)) (hk : ∀ v L', post v L' → K ((d, v) :: env) (L' ++ r)) : StepS P n Q ⟨some d, .call ⟨.value fv, args.toArray, ats⟩, ty, pos, aft, gd⟩ env m L false K := fun h hs => by
 obtain ⟨m', h1, h2, h3, h4⟩ := (HS.takes hT hs).part;exact XV (R := postS m' post) (Rp := postS m' ppost) hcl hf hx (hc m' h1 h2 h h3) hn (fun v h' ⟨L', g1, g2⟩ => ⟨fun hf => (by cases hf), _, h4 g2, hk v L' g1⟩) fun v h' ⟨L', g1, g2⟩ => hp v L' g1 h' (h4 g2)
end
end Go.Eng
namespace Go.Eng
section
variable {P : Program} {n : Nat} {env : Env} {m : Mp} {L : List Ent} {Q : Exit → Act → World → Prop} {x : Fx} {h : Heap} {d : Nat} {a : Act}
theorem wp_TQ {A : Code} {Qr : Post} (ht : TS P n A env m L Qr) (hs : HS m L h) (hag : AgD n x env a) (hk : ∀ e env' h' d' a', Qr e env' h' → AgD n x env' a' → Q e a' (W x h' d')) : A.wp P Q a (W x h d) := by
 refine wp_mono (ht h hs x d a hag) ?_;rintro e a' w' ⟨env', h', d', hag', rfl, hq⟩;exact hk e env' h' d' a' hq hag'
def dfr (fn : Fn) (q : List Value) : Deferred := { target := .fn fn q.toArray, args := #[] }
theorem XY {id t : Nat} {fn : Fn} {ca : List Operand} {q : List Value} {ty1 ty2 : TypeId} {pos1 pos2 : String} {aft1 aft2 : Array Edge} {ats : Array TypeId} (hq : evs env ca = some q) (hn : Nat.blt t n = true) (hag : AgD n x env a)
  (hk : ∀ a', AgD n ⟨x.tape, x.os, x.out, dfr fn q :: x.ds⟩ ((t, .func fn #[] q.toArray) :: env) a' → Q .normal a' (W x h d)) :
  (Code.region id [⟨some t, .makeFunc fn #[] ca.toArray, ty1, pos1, aft1, none⟩, ⟨none, .defer ⟨.value (.tmp t), #[], ats⟩, ty2, pos2, aft2, none⟩].toArray false).wp P Q a (W x h d) := by
 refine wp_region_lit ?_;unfold wpList;rw [if_pos (by simp [Region.wanted])];refine .inl ?_;have h1 := vP hag.toAg hq;have hag2 := hag.put t (.func fn #[] q.toArray) (by simpa [Nat.blt_eq] using hn)
 have hr : (execOp a.eval ⟨some t, .makeFunc fn #[] ca.toArray, ty1, pos1, aft1, none⟩).run P (W x h d) = .ok (.value (.func fn #[] q.toArray)) (W x h d) := by
  simp [execOp, h1, Instr.makeFunc]
 unfold Oper.wp;rw [hr, Oper.upon_value];show wpList P _ Q [_] (a.put (some t) _) _;unfold wpList;rw [if_pos (by simp [Region.wanted])];refine .inl ?_
 have hr2 : (execOp (a.put (some t) (.func fn #[] q.toArray)).eval ⟨none, .defer ⟨.value (.tmp t), #[], ats⟩, ty2, pos2, aft2, none⟩).run P (W x h d) = .ok (.defer (dfr fn q)) (W x h d) := by
  have h2 : (a.put (some t) (.func fn #[] q.toArray)).eval (.tmp t) = .func fn #[] q.toArray := hag2.toAg.eval (by simp [ev, lk])
  simp [execOp, resolve, h2, Deferred.ofValue, dfr]
 unfold Oper.wp;rw [hr2, Oper.upon_defer];show Q .normal _ _;refine hk _ ⟨?_, ?_⟩
 ·exact ⟨hag2.toAg.1, hag2.toAg.2⟩
 ·show dfr fn q :: (a.put (some t) (.func fn #[] q.toArray)).defers = dfr fn q :: x.ds;rw [hag2.defers]
theorem wT {ops : Array Oper} {cs : List Frame} {QS : Exit → Act → List Frame → World → Prop} (hno : ∀ a w, ¬ QS .outgrown a cs w) :
  ∀ (l : List Oper) (k : Nat) (a : Act) (w : World), (∀ j, j < l.length → l[j]? = ops[k + j]?) → wpList P ops (fun e a w => QS e a cs w) l a w → wpOpsS P ops QS (List.range' k l.length) a cs w
 | [], k, a, w, _, hh => hh
 | o :: r, k, a, w, hl, hh => by
   have h0 := hl 0 (by simp);simp only [List.getElem?_cons_zero, Nat.add_zero] at h0
   have hr : ∀ j, j < r.length → r[j]? = ops[k + 1 + j]? := fun j hj => by
    have := hl (j + 1) (by simp; omega);rw [List.getElem?_cons_succ] at this;rw [this]
    congr 1
    omega
   simp only [List.length_cons, List.range'_succ];unfold wpOpsS;simp only [← h0];unfold wpList at hh
   split
   ·rename_i hw
    simp only [hw, if_true] at hh;rcases hh with hh | ⟨_, a', w', h2⟩
    ·unfold Oper.wp at hh;generalize (execOp a.eval o).run P w = res at hh ⊢
     have key : ∀ res, o.upon P a (wpList P ops (fun e a w => QS e a cs w) r) (fun e a w => QS e a cs w) res → o.upon P a (fun a' w' => wpOpsS P ops QS (List.range' (k + 1) r.length) a' cs w') (fun e a' w' => QS e a' cs w') res := by
      intro res hh;cases res with
      | ok nx w' =>
        cases nx <;> simp only [Oper.upon] at hh ⊢ <;>
         first
          | exact wT hno r (k + 1) _ _ hr hh
          | exact Calls.mono hh (fun e w'' he => by cases e <;> first | exact wT hno r (k + 1) _ _ hr he | exact he)
          | exact Rows.mono hh (fun _ _ he => wT hno r (k + 1) _ _ hr he)
      | halt y w' => cases y <;> simp only [Oper.upon] at hh ⊢ <;> exact hh
     cases res with
     | ok nx w' =>
       cases nx <;> first | (simp only [Oper.upon] at hh; done) | exact key _ hh | exact hh.elim
     | halt y w' => exact key _ hh
    ·exact absurd h2 (hno _ _)
   ·rename_i hw
    rw [if_neg hw] at hh;exact wT hno r (k + 1) _ _ hr hh
inductive Rec : FrameMode → Value → FrameMode → Prop
 | ret : Rec .returning .nilIface .returning
 | pan (v : Value) (older : List PanicEntry) : Rec (.panicking ({ v, recovered := false, goexit := false } :: older)) v (.panicking ({ v, recovered := true } :: older))
theorem CD_of {f : FuncId} {fn : Func} {id t : Nat} {l : List Oper} {rest : Code} {args : List Value} {u u' : FrameMode} {vr : Value} {post : Value → List Ent → Prop} {ty : TypeId} {pos : String} {aft : Array Edge} {ats : Array TypeId}
  (hf : P.funcs[f]? = some fn) (hb : fn.body = some (.seq (.region id (⟨some t, .call ⟨.builtin .recover, #[], ats⟩, ty, pos, aft, none⟩ :: l).toArray false) rest)) (hrs : fn.results = ([] : List ResultVar).toArray) (hn : Nat.blt t fn.ntmps = true) (hl : Nat.ble args.length fn.ntmps = true)
  (hm : Rec u vr u') (ht : VS P fn.ntmps (⟨some t, .call ⟨.builtin .recover, #[], ats⟩, ty, pos, aft, none⟩ :: l) l ((t, vr) :: env0 args 0) m L (thenQ P fn.ntmps rest (retC P [] (postS m post)))) (hs : HS m L h) :
  CallsD P f args.toArray u (W x h d) fun e u2 w' => e = .returned (.tuple #[]) ∧ u2 = u' ∧ ∃ h' d' L', w' = W x h' d' ∧ post (.tuple #[]) L' ∧ HS m L' h' := by
 refine callsD_of_wpS hf hb fun c0 cs hu => ?_;refine wpS_seq (wpS_region ?_)
 have hrg : ∀ (o : Oper), List.range (o :: l).toArray.size = 0 :: List.range' 1 l.length := fun o => by
  rw [List.range_eq_range']
  simp [List.range'_succ]
 rw [hrg];unfold wpOpsS;simp only [List.getElem?_toArray, List.getElem?_cons_zero];rw [if_pos (by simp [Region.wanted])]
 have hrec : ∀ (ρ : Operand → Value) (w : World), (execOp ρ (⟨some t, .call ⟨.builtin .recover, #[], ats⟩, ty, pos, aft, none⟩ : Oper)).run P w = .ok .recover w := fun ρ w => by
  simp [execOp, resolve, invoke, builtin]
 simp only [hrec]
 have hcase : (recoverD (c0 :: cs) = some (vr, { c0 with mode := u' } :: cs)) ∨ (recoverD (c0 :: cs) = none ∧ vr = .nilIface ∧ { c0 with mode := u' } = c0) := by
  cases hm with
  | ret => exact .inr ⟨by simp [recoverD, hu], rfl, by cases c0; simp at hu; subst hu; rfl⟩
  | pan v older => exact .inl (by simp [recoverD, hu])
 have hfin : ∀ cs', cs' = { c0 with mode := u' } :: cs → wpOpsS P (⟨some t, .call ⟨.builtin .recover, #[], ats⟩, ty, pos, aft, none⟩ :: l : List Oper).toArray
   (Exit.thenS (rest.wpS P (bodyPostS P fn c0 cs fun e u2 w' => e = .returned (.tuple #[]) ∧ u2 = u' ∧ ∃ h' d' L', w' = W x h' d' ∧ post (.tuple #[]) L' ∧ HS m L' h')) (bodyPostS P fn c0 cs fun e u2 w' => e = .returned (.tuple #[]) ∧ u2 = u' ∧ ∃ h' d' L', w' = W x h' d' ∧ post (.tuple #[]) L' ∧ HS m L' h'))
   (List.range' 1 l.length) (({ tmps := args.toArray ++ Array.replicate (fn.ntmps - args.toArray.size) undef, defers := [] } : Act).put (some t) vr) cs' (W x h d) := by
  rintro cs' rfl;refine wT (fun a w hq => ?_) l 1 _ _ (fun j hj => by rw [List.getElem?_toArray, Nat.add_comm 1 j, List.getElem?_cons_succ]) ?_
  ·obtain ⟨_, hq, _⟩ := hq;cases hq
  ·have hag0 := (agD0 (n := fn.ntmps) (l := args) (t := x.tape) (o := x.os) (u := x.out) (Nat.le_of_ble_eq_true hl)).put t vr (by simpa [Nat.blt_eq] using hn);have h3 := ht h hs _ d _ hag0
   have h4 := vy (l2 := []) (Q := fun e a w => Exit.thenS (rest.wpS P (bodyPostS P fn c0 cs fun e u2 w' => e = .returned (.tuple #[]) ∧ u2 = u' ∧ ∃ h' d' L', w' = W x h' d' ∧ post (.tuple #[]) L' ∧ HS m L' h')) (bodyPostS P fn c0 cs fun e u2 w' => e = .returned (.tuple #[]) ∧ u2 = u' ∧ ∃ h' d' L', w' = W x h' d' ∧ post (.tuple #[]) L' ∧ HS m L' h') e a ({ c0 with mode := u' } :: cs) w) ?_ ?_ h3
   ·rw [List.append_nil] at h4;exact h4
   ·rintro a w ⟨env', h', d', hag', rfl, hq⟩;show rest.wpS P _ a ({ c0 with mode := u' } :: cs) _;refine wpS_of_wp (wp_mono (hq ⟨x.tape, x.os, x.out, []⟩ d' a hag') ?_);rintro e a' w' ⟨env2, h2, d2, hag2, rfl, hq2⟩
    have fin : ∀ (hq2 : ∃ vs, RvsOk P env2 h2 [] vs ∧ postS m post (tup vs) h2), a'.defers = [] ∧ ∃ u2, ({ c0 with mode := u' } : Frame) :: cs = { c0 with mode := u2 } :: cs ∧ ∃ v, (results fn a'.tmps).run P (W ⟨x.tape, x.os, x.out, []⟩ h2 d2) = .ok v (W ⟨x.tape, x.os, x.out, []⟩ h2 d2) ∧ (Ending.returned v = .returned (.tuple #[]) ∧ u2 = u' ∧ ∃ h' d' L', (W ⟨x.tape, x.os, x.out, []⟩ h2 d2) = W x h' d' ∧ post (.tuple #[]) L' ∧ HS m L' h') := by
     rintro ⟨vs, h1, L', hp, hh⟩;cases vs with
     | cons v r => cases h1
     | nil => exact ⟨hag2.defers, u', rfl, .tuple #[], RvsOk.results (vs := []) hrs hag2.toAg h1, rfl, rfl, h2, d2, L', rfl, hp, hh⟩
    cases e with
    | normal => exact fin hq2
    | ret => exact fin hq2
    | exit i => exact hq2.elim
    | goto i => exact hq2.elim
    | panic c => exact hq2.elim
    | outgrown => exact hq2.elim
   ·rintro e hne a w ⟨env', h', d', hag', rfl, hq⟩
    have fin : ∀ (hq2 : ∃ vs, RvsOk P env' h' [] vs ∧ postS m post (tup vs) h'), a.defers = [] ∧ ∃ u2, ({ c0 with mode := u' } : Frame) :: cs = { c0 with mode := u2 } :: cs ∧ ∃ v, (results fn a.tmps).run P (W ⟨x.tape, x.os, x.out, []⟩ h' d') = .ok v (W ⟨x.tape, x.os, x.out, []⟩ h' d') ∧ (Ending.returned v = .returned (.tuple #[]) ∧ u2 = u' ∧ ∃ h2 d2 L', (W ⟨x.tape, x.os, x.out, []⟩ h' d') = W x h2 d2 ∧ post (.tuple #[]) L' ∧ HS m L' h2) := by
     rintro ⟨vs, h1, L', hp, hh⟩;cases vs with
     | cons v r => cases h1
     | nil => exact ⟨hag'.defers, u', rfl, .tuple #[], RvsOk.results (vs := []) hrs hag'.toAg h1, rfl, rfl, h', d', L', rfl, hp, hh⟩
    cases e with
    | normal => exact absurd rfl hne
    | ret => exact fin hq
    | exit i => exact hq.elim
    | goto i => exact hq.elim
    | panic c => exact hq.elim
    | outgrown => exact hq.elim
 rcases hcase with hrc | ⟨hrc, hv, hc0⟩
 ·simp only [hrc];exact hfin _ rfl
 ·simp only [hrc];have := hfin (c0 :: cs) (by rw [hc0]);rw [hv] at this;exact this
theorem uG {fn : Func} {rs : List ResultVar} {f : FuncId} {q : List Value} {u u' : FrameMode} {R : Ending → World → Prop} {post : Value → List Ent → Prop} (hrs : fn.results = rs.toArray) (hcl : callable P f = true) (hu : u ≠ .run) (hs' : settle u' = .returning)
  (hc : CallsD P f q.toArray u (W x h d) fun e u2 w' => e = .returned (.tuple #[]) ∧ u2 = u' ∧ ∃ h' d' L', w' = W x h' d' ∧ post (.tuple #[]) L' ∧ HS m L' h')
  (hag : Ag n env a) (hk : ∀ h' d' L', post (.tuple #[]) L' → HS m L' h' → ∃ vs, RvsOk P env h' rs vs ∧ R (.returned (tup vs)) (W x h' d')) :
  Leaves P fn a.tmps R [dfr (.func f) q] u (W x h d) := by
 refine leaves_cons (f := f) (args := q.toArray) hu ?_ (hc.mono ?_)
 ·have := xE (P := P) hcl q.toArray (W x h d);simp only [invoke]
  simpa using this
 ·rintro e u2 w' ⟨rfl, rfl, h', d', L', rfl, hp, hh⟩;show Leaves P fn a.tmps R [] (settle u2) (W x h' d');rw [hs'];obtain ⟨vs, h1, h2⟩ := hk h' d' L' hp hh;exact ⟨tup vs, RvsOk.results hrs hag h1, h2⟩
end
def endQ (m : Mp) (post : Env → List Ent → Prop) (ppost : Env → Value → List Ent → Prop) : Post
 | .normal, env, h => ∃ L', post env L' ∧ HS m L' h
 | .ret, env, h => ∃ L', post env L' ∧ HS m L' h
 | .panic c, env, h => ∃ v L', c = pan v ∧ ppost env v L' ∧ HS m L' h
 | _, _, _ => False
theorem YL {m m2 : Mp} {env : Env} {L : List Ent} {post : Env → List Ent → Prop} {ppost : Env → Value → List Ent → Prop} (hl : Le m m2) (L' : List Ent) (hp : Pick L L') (hq : post env L') : QS (endQ m post ppost) .ret env m2 L := fun h hs => ⟨L', hq, (hp m2 h hs).weaken hl⟩
theorem xa {m m2 : Mp} {env : Env} {L : List Ent} {post : Env → List Ent → Prop} {ppost : Env → Value → List Ent → Prop} {v : Value} (hl : Le m m2) (L' : List Ent) (hp : Pick L L') (hq : ppost env v L') : QS (endQ m post ppost) (.panic (pan v)) env m2 L := fun h hs => ⟨v, L', rfl, hq, (hp m2 h hs).weaken hl⟩
theorem Pick.app {L L' M : List Ent} (h : Pick L M) : Pick (L' ++ L) M := by
 induction L' with
 | nil => exact h
 | cons e r ih => exact fun m hp hs => ih m hp hs.tail
end Go.Eng
namespace Go.Eng
def YB (P : Program) (ops : Array Oper) (m : Mp) (o : Oper) (v : Value) (a : Act) : Prop :=
 (Region.wanted o (yielded ops a.tmps) = true ∧ ∀ w', Le m (mp w'.heap) → (execOp a.eval o).run P w' = .ok (.value v) w') ∨
 (Region.wanted o (yielded ops a.tmps) = false ∧ v = undef)
def opB (P : Program) (ops : Array Oper) (m : Mp) (Q : Exit → Act → World → Prop) (i : Nat) (K : Act → World → Prop) (a : Act) (w : World) : Prop :=
 match ops[i]? with
 | none => K a w
 | some o => if Region.wanted o (yielded ops a.tmps) then o.wp P a w (fun a' w' => Le m (mp w'.heap) ∧ K a' w') Q else K (a.put o.dst undef) w
def anyB (P : Program) (ops : Array Oper) (m : Mp) (Q : Exit → Act → World → Prop) : Nat → Array Bool → Act → World → Prop
 | 0, listed, a, w => Region.ready .any ops listed = [] ∧ Q .normal a w
 | fuel + 1, listed, a, w =>
   (Region.ready .any ops listed = [] → Q .normal a w) ∧
   ∀ i ∈ Region.ready .any ops listed, opB P ops m Q i (anyB P ops m Q fuel (listed.setIfInBounds i true)) a w
section
variable {P : Program} {ops : Array Oper} {m : Mp} {Q : Exit → Act → World → Prop}
theorem ZG {i : Nat} {a : Act} {w : World} {K K' : Act → World → Prop} (h : ∀ a w, Le m (mp w.heap) → K a w → K' a w) (hle : Le m (mp w.heap)) (hh : opB P ops m Q i K a w) : opB P ops m Q i K' a w := by
 unfold opB at *
 split
 ·rename_i ho; simp only [ho] at hh; exact h _ _ hle hh
 ·rename_i o ho
  simp only [ho] at hh
  split
  ·rename_i hw; simp only [hw, if_true] at hh; exact Oper.wp_mono (fun _ _ k => ⟨k.1, h _ _ k.1 k.2⟩) hh
  ·rename_i hw; simp only [hw] at hh; exact h _ _ hle hh
theorem k7 {i : Nat} {a : Act} {w : World} {K K' : Act → World → Prop} (h : ∀ a w, K a w → K' a w) (hh : opB P ops m Q i K a w) : wpOp P ops Q i K' a w := by
 unfold opB at hh;unfold wpOp
 split
 ·rename_i ho; simp only [ho] at hh; exact h _ _ hh
 ·rename_i o ho
  simp only [ho] at hh
  split
  ·rename_i hw; simp only [hw, if_true] at hh; exact .inl (Oper.wp_mono (fun _ _ k => h _ _ k.2) hh)
  ·rename_i hw; simp only [hw] at hh; exact h _ _ hh
theorem wS : ∀ (fuel : Nat) (listed : Array Bool) (a : Act) (w : World), anyB P ops m Q fuel listed a w → wpAny P .any ops Q fuel listed a w
 | 0, _, _, _, h => h
 | fuel + 1, _, _, _, h => ⟨h.1, fun i hi => k7 (fun a w => wS fuel _ a w) (h.2 i hi)⟩
theorem YB.opB {i : Nat} {o : Oper} {v : Value} {a : Act} {w : World} (hi : ops[i]? = some o) (hy : YB P ops m o v a) (hle : Le m (mp w.heap)) {K : Act → World → Prop} (h : K (a.put o.dst v) w) : opB P ops m Q i K a w := by
 unfold Eng.opB;simp only [hi];rcases hy with ⟨hw, hv⟩ | ⟨hw, rfl⟩
 ·simp only [hw, if_true, Oper.wp, hv w hle, Oper.upon]; exact ⟨hle, h⟩
 ·simp only [hw, Bool.false_eq_true, if_false]; exact h
theorem YB.of_same {o : Oper} {v : Value} {a a' : Act} (hy : YB P ops m o v a) (he : execOp a'.eval o = execOp a.eval o) (hw : Region.wanted o (yielded ops a'.tmps) = Region.wanted o (yielded ops a.tmps)) : YB P ops m o v a' := by
 unfold YB at *;rw [he, hw];exact hy
theorem opB_put {j : Nat} {oi oj : Oper} {v : Value} (hj : ops[j]? = some oj) (hap : oi.apart ops oj = true) (hsi : ∀ cs b, oi.op ≠ .select cs b) (hsj : ∀ cs b, oj.op ≠ .select cs b)
  (hQ : ∀ c a w, Q (.panic c) (a.put oi.dst v) w → Q (.panic c) a w) {K : Act → World → Prop} {a : Act} {w : World}
  (hy : YB P ops m oi v a) (h : opB P ops m Q j K (a.put oi.dst v) w) : opB P ops m Q j (fun a' w' => YB P ops m oi v a' ∧ K (a'.put oi.dst v) w') a w := by
 obtain ⟨h1, h2, h3⟩ := Oper.apart_spec hap;have keep : ∀ (a : Act), YB P ops m oi v a → ∀ u, YB P ops m oi v (a.put oj.dst u) := fun a hy u => hy.of_same (execOp_put oi hsi a oj.dst u h3) (wanted_put oi a oj.dst u h3);have keepD : ∀ d, YB P ops m oi v { a with defers := d :: a.defers } := fun d => hy.of_same rfl rfl;unfold opB at *;simp only [hj] at *;rw [wanted_put oj a oi.dst v h1] at h
 split
 ·rename_i hw
  simp only [hw, if_true] at h;unfold Oper.wp at *;rw [execOp_put oj hsj a oi.dst v h1] at h;generalize (execOp a.eval oj).run P w = r at *;cases r with
  | ok n w' =>
    cases n <;> simp only [Oper.upon] at h ⊢
    case value u => exact ⟨h.1, keep a hy u, by rw [← Act.put_comm a v u h2]; exact h.2⟩
    case skip => exact ⟨h.1, keep a hy _, by rw [← Act.put_comm a v undef h2]; exact h.2⟩
    case defer d =>
     refine ⟨h.1, keep _ (keepD d) _, ?_⟩;have := h.2;rw [← Act.put_comm _ v undef h2, ← Act.put_defers];exact this
    case enter f args =>
     refine Calls.mono h fun e w'' he => ?_;cases e with
     | returned u => exact ⟨he.1, keep a hy u, by rw [← Act.put_comm a v u h2]; exact he.2⟩
     | panicked c => exact hQ _ _ _ he
     | outgrown => exact he
    case row row args => exact Rows.mono h fun u w'' he => ⟨he.1, keep a hy u, by rw [← Act.put_comm a v u h2]; exact he.2⟩
  | halt x w' =>
    cases x <;> simp only [Oper.upon] at h ⊢
    case panic u => exact hQ _ _ _ h
 ·rename_i hw
  simp only [hw] at h;exact ⟨keep a hy _, by rw [← Act.put_comm a v undef h2]; exact h⟩
theorem jQ {l : List Oper} {i : Nat} {oi : Oper} {v : Value} (hops : ops = l.toArray) (hi : ops[i]? = some oi) (hsel : ∀ (j : Nat) (o : Oper) cs b, ops[j]? = some o → o.op ≠ .select cs b)
  (hQ : ∀ c a w, Q (.panic c) (a.put oi.dst v) w → Q (.panic c) a w) :
  ∀ (fuel : Nat) (listed : Array Bool) (a : Act) (w : World), Le m (mp w.heap) →
   (∀ j oj, ops[j]? = some oj → j ≠ i → listed.getD j true = false → j ∉ reach l i → oi.apart ops oj = true) →
   (∀ k, listed.getD k false = true → k ∉ reach l i) →
   i ∈ Region.ready .any ops listed → YB P ops m oi v a →
   anyB P ops m Q fuel (listed.setIfInBounds i true) (a.put oi.dst v) w → anyB P ops m Q (fuel + 1) listed a w := by
 intro fuel
 induction fuel with
 | zero =>
   intro listed a w hle _ _ hr hy H;refine ⟨fun h => (by rw [h] at hr; cases hr), fun j hj => ?_⟩;by_cases hji : j = i
   ·subst hji; exact hy.opB hi hle H
   ·have := ready_mono hj hji;rw [H.1] at this;cases this
 | succ fuel ih =>
   intro listed a w hle hfree hinv hr hy H;refine ⟨fun h => (by rw [h] at hr; cases hr), fun j hj => ?_⟩;by_cases hji : j = i
   ·subst hji; exact hy.opB hi hle H
   ·have h1 := H.2 j (ready_mono hj hji);obtain ⟨hjun, oj, hoj, hall⟩ := mem_ready.1 hj
    have hnot : j ∉ reach l i := fun hmem => by
     obtain ⟨o, ho, e, he, hb, h3⟩ := qv hmem;rw [← hops, hoj] at ho
     injection ho with ho
     subst ho;have h1 := hall e he hb;rcases h3 with heq | h3
     ·have h0 := (mem_ready.1 hr).1;rw [heq] at h1;rcases Nat.lt_or_ge i listed.size with h' | h'
      ·simp [h'] at h0 h1; rw [h0] at h1; cases h1
      ·simp [Array.getElem?_eq_none h'] at h1
     ·exact hinv _ h1 h3
    have hf1 := hfree j oj hoj hji hjun hnot;have h2 := opB_put hoj hf1 (fun cs b => hsel i oi cs b hi) (fun cs b => hsel j oj cs b hoj) hQ hy h1
    have hfree' : ∀ k ok, ops[k]? = some ok → k ≠ i → (listed.setIfInBounds j true).getD k true = false → k ∉ reach l i → oi.apart ops ok = true := fun k ok hk hki hun hno => by
     refine hfree k ok hk hki ?_ hno;by_cases hjk : j = k
     ·subst hjk; exact hjun
     ·rw [getD_set_ne true hjk] at hun; exact hun
    have hinv' : ∀ k, (listed.setIfInBounds j true).getD k false = true → k ∉ reach l i := fun k hk => by
     by_cases hjk : j = k
     ·subst hjk; exact hnot
     ·rw [getD_set_ne false hjk] at hk; exact hinv k hk
    refine ZG (fun a' w' hle' h3 => ih (listed.setIfInBounds j true) a' w' hle' hfree' hinv' (ready_mono hr (Ne.symm hji)) h3.1 ?_) hle h2;rw [Array.setIfInBounds_comm _ _ hji];exact h3.2
end
inductive OB where
 | done
 | step (i : Nat) (q : Bool) (t : OB)
 | fork (s t : OB)
def headsB : OB → List Nat
 | .done => []
 | .step i _ _ => [i]
 | .fork s t => headsB s ++ headsB t
def freeB (l : List Oper) (listed : Array Bool) (i : Nat) (oi : Oper) : Bool :=
 (fun rs => (List.range l.length).all fun j => j == i || rs.contains j || listed.getD j true || match nth l j with
  | none => true
  | some oj => oi.apart l.toArray oj) (reach l i) &&
 (reach l i).all fun k => !listed.getD k false
def chkB (l : List Oper) : OB → Bool → Nat → Array Bool → Bool
 | .done, b, n, listed => !b && Nat.beq n 0 && (Region.ready .any l.toArray listed).isEmpty
 | .step i q t, b, n, listed => match n with
   | 0 => false
   | k + 1 =>
     (match nth l i with
      | none => false
      | some o => if q then !b && (Region.ready .any l.toArray listed).contains i && freeB l listed i o else b || Region.ready .any l.toArray listed == [i]) &&
     chkB l t false k (listed.setIfInBounds i true)
 | .fork s t, b, n, listed => (b || (!(Region.ready .any l.toArray listed).isEmpty && (Region.ready .any l.toArray listed).all (headsB s ++ headsB t).contains)) && chkB l s true n listed && chkB l t true n listed
def seqB (P : Program) (l : List Oper) (m : Mp) (Q : Exit → Act → World → Prop) : OB → Act → World → Prop
 | .done, a, w => Q .normal a w
 | .step i q t, a, w =>
   if q then ∃ o v, nth l i = some o ∧ YB P l.toArray m o v a ∧ seqB P l m Q t (a.put o.dst v) w
   else opB P l.toArray m Q i (seqB P l m Q t) a w
 | .fork s t, a, w => seqB P l m Q s a w ∧ seqB P l m Q t a w
theorem kh {P : Program} {l : List Oper} {m : Mp} {Q : Exit → Act → World → Prop} (hsel : noSel l = true)
  (hQ : ∀ c a a' w, a'.tmps.size = a.tmps.size → a'.defers = a.defers → Q (.panic c) a' w → Q (.panic c) a w) :
  ∀ (t : OB) (n : Nat) (listed : Array Bool) (a : Act) (w : World), Le m (mp w.heap) → seqB P l m Q t a w →
   (chkB l t false n listed = true → anyB P l.toArray m Q n listed a w) ∧
   (chkB l t true n listed = true → headsB t ≠ [] ∧ 0 < n ∧ ∀ i ∈ headsB t, opB P l.toArray m Q i (anyB P l.toArray m Q (n - 1) (listed.setIfInBounds i true)) a w) := by
 intro t
 induction t with
 | done =>
   intro n listed a w _ hs;refine ⟨fun hc => ?_, fun hc => by simp [chkB] at hc⟩;simp only [chkB, Bool.not_false, Bool.true_and, Bool.and_eq_true, List.isEmpty_iff] at hc;have hn := Nat.eq_of_beq_eq_true hc.1;subst hn;exact ⟨hc.2, hs⟩
 | step i q t ih =>
   intro n listed a w hle hs;cases n with
   | zero => exact ⟨fun hc => by simp [chkB] at hc, fun hc => by simp [chkB] at hc⟩
   | succ k =>
     unfold seqB at hs;cases hk : q with
     | true =>
       rw [if_pos hk] at hs;obtain ⟨o, v, ho, hy, hs⟩ := hs;refine ⟨fun hc => ?_, fun hc => ?_⟩
       ·unfold chkB at hc;rw [Bool.and_eq_true] at hc;obtain ⟨hc, hc'⟩ := hc;rw [ho] at hc;simp only [if_true, Bool.not_false, Bool.true_and, Bool.and_eq_true] at hc;obtain ⟨hr, hf⟩ := hc;have hi : l.toArray[i]? = some o := by rw [y6]; exact ho
        unfold freeB at hf;rw [Bool.and_eq_true] at hf;obtain ⟨hf, hf2⟩ := hf;refine jQ rfl hi (wD hsel) (fun c a w h => hQ c a _ w ?_ ?_ h) k listed a w hle ?_ ?_ (by simpa using hr) hy ((ih k _ _ _ hle hs).1 hc')
        ·cases o.dst <;> simp [Act.put]
        ·cases o.dst <;> simp [Act.put]
        ·intro j oj hj hji hun hno;rw [List.all_eq_true] at hf
         have hlt : j < l.length := by
          have := (Array.getElem?_eq_some_iff.1 hj).1
          simpa using this
         have := hf j (List.mem_range.2 hlt);rw [y6] at hj;rw [hj] at this
         have hno' : (reach l i).contains j = false := by
          cases hcn : (reach l i).contains j with
          | false => rfl
          | true => exact absurd (List.contains_iff_mem.1 hcn) hno
         simpa only [hun, hno', beq_eq_false_iff_ne.2 hji, Bool.false_or] using this
        ·intro k hk hmem;rw [List.all_eq_true] at hf2;have := hf2 k hmem;rw [hk] at this;cases this
       ·unfold chkB at hc;rw [Bool.and_eq_true] at hc;rw [ho] at hc
        simp at hc
     | false =>
       rw [if_neg (by rw [hk]; simp)] at hs
       have hb : ∀ b, chkB l (.step i false t) b (k + 1) listed = true → opB P l.toArray m Q i (anyB P l.toArray m Q k (listed.setIfInBounds i true)) a w := fun b hc => by
        unfold chkB at hc;rw [Bool.and_eq_true] at hc;exact ZG (fun a w hle' hs => (ih k _ a w hle' hs).1 hc.2) hle hs
       refine ⟨fun hc => ?_, fun hc => ⟨by simp [headsB], Nat.succ_pos _, fun j hj => ?_⟩⟩
       ·have hrd : Region.ready .any l.toArray listed = [i] := by
         unfold chkB at hc;rw [Bool.and_eq_true] at hc;have hc1 := hc.1
         split at hc1
         ·cases hc1
         ·simp only [Bool.false_eq_true, if_false, Bool.false_or] at hc1
          simpa using hc1
        refine ⟨(fun h => by rw [hrd] at h; cases h), fun j hj => ?_⟩;rw [hrd] at hj;have : j = i := by simpa using hj
        subst this;exact hb _ hc
       ·have : j = i := by simpa [headsB] using hj
        subst this;exact hb _ hc
 | fork s t ih1 ih2 =>
   intro n listed a w hle hs;unfold seqB at hs
   have key : ∀ b, chkB l (.fork s t) b n listed = true → headsB (.fork s t) ≠ [] ∧ 0 < n ∧ ∀ i ∈ headsB (.fork s t), opB P l.toArray m Q i (anyB P l.toArray m Q (n - 1) (listed.setIfInBounds i true)) a w := fun b hc => by
    unfold chkB at hc;simp only [Bool.and_eq_true] at hc;obtain ⟨h1, h0, h2⟩ := (ih1 n listed a w hle hs.1).2 hc.1.2;obtain ⟨_, _, h3⟩ := (ih2 n listed a w hle hs.2).2 hc.2;refine ⟨by simp [headsB, h1], h0, fun i hi => ?_⟩;simp only [headsB, List.mem_append] at hi;rcases hi with hi | hi
    ·exact h2 i hi
    ·exact h3 i hi
   refine ⟨fun hc => ?_, key true⟩;obtain ⟨k1, k2, k3⟩ := key false hc;unfold chkB at hc;simp only [Bool.and_eq_true, Bool.false_or] at hc;have hall := hc.1.1.2;have hne := hc.1.1.1;rw [List.all_eq_true] at hall;obtain ⟨k, rfl⟩ : ∃ k, n = k + 1 := ⟨n - 1, by omega⟩;refine ⟨fun hnil => (by rw [hnil] at hne; cases hne), fun i hi => ?_⟩;have := hall i hi;exact k3 i (by simpa [headsB] using this)
def checkB (l : List Oper) (t : OB) : Bool := noSel l && chkB l t false l.length (Array.replicate l.length false)
def VBS (P : Program) (n : Nat) (l : List Oper) (t : OB) (env : Env) (m : Mp) (L : List Ent) (Q : Post) : Prop :=
 ∀ h, HS m L h → ∀ (x : Fx) (d : Nat) (a : Act), AgD n x env a → seqB P l m (lift n x Q) t a (W x h d)
section
variable {P : Program} {n : Nat} {env : Env} {m : Mp} {L : List Ent} {Q : Post} {l : List Oper} {s t : OB} {o : Oper} {v : Value} {d i : Nat}
theorem Wb {id : Nat} (t : OB) (hm : P.follows .mixedOrders = true) (hck : checkB l t = true) (hQ : ∀ c env env' h, Q (.panic c) env h → Q (.panic c) env' h) (hv : VBS P n l t env m L Q) : TS P n (.region id l.toArray true) env m L Q := by
 intro h hs x d a hag;unfold checkB at hck;simp only [Bool.and_eq_true] at hck;obtain ⟨h1, h3⟩ := hck;have hs' := hv h hs x (d + 1) a hag
 have := (kh h1 (Q := lift n x Q) (by
  rintro c a a' w hsz hdf ⟨env, h, d, hag, rfl, hq⟩
  refine ⟨[], h, d, ⟨⟨by rw [← hsz]; exact hag.size, fun t v ht => by simp [lk] at ht⟩, by rw [← hdf]; exact hag.defers⟩, rfl, hQ _ _ _ _ hq⟩) t l.length _ a _ hs.base hs').1 h3
 refine wp_region_any hm (wS (m := m) _ _ _ _ ?_);rw [List.size_toArray];exact this
theorem VBS_nil (hq : QS Q .normal env m L) : VBS P n l .done env m L Q := fun h hs _ d _ hag => ⟨env, h, d, hag, rfl, hq h hs⟩
theorem Zp (h1 : VBS P n l s env m L Q) (h2 : VBS P n l t env m L Q) : VBS P n l (.fork s t) env m L Q := fun h hs x d a hag => ⟨h1 h hs x d a hag, h2 h hs x d a hag⟩
theorem Zo (ho : nth l i = some o) (hr : PureV P n o env v) (hd : o.dst = some d) (hn : Nat.blt d n = true) (hw : wanted l env o = some true) (hk : VBS P n l t ((d, v) :: env) m L Q) : VBS P n l (.step i true t) env m L Q := by
 intro h hs x dr a hag;unfold seqB;rw [if_pos rfl];refine ⟨o, v, ho, .inl ⟨yC hag.toAg hw, fun w' _ => hr a w' hag⟩, ?_⟩;rw [hd];exact hk h hs x dr _ (hag.put d v (by simpa [Nat.blt_eq] using hn))
theorem WW (ho : nth l i = some o) (hr : ∀ h, HS m [] h → ReadV P n o env h v) (hd : o.dst = some d) (hn : Nat.blt d n = true) (hw : wanted l env o = some true) (hk : VBS P n l t ((d, v) :: env) m L Q) : VBS P n l (.step i true t) env m L Q := by
 intro h hs x dr a hag;unfold seqB;rw [if_pos rfl];refine ⟨o, v, ho, .inl ⟨yC hag.toAg hw, fun w' hl => hr w'.heap (HS.nil hl) a w' hag (Le.refl _)⟩, ?_⟩;rw [hd];exact hk h hs x dr _ (hag.put d v (by simpa [Nat.blt_eq] using hn))
theorem WV (ho : nth l i = some o) (hw : wanted l env o = some false) (hd : o.dst = some d) (hn : Nat.blt d n = true) (hk : VBS P n l t ((d, undef) :: env) m L Q) : VBS P n l (.step i true t) env m L Q := by
 intro h hs x dr a hag;unfold seqB;rw [if_pos rfl];refine ⟨o, undef, ho, .inr ⟨yC hag.toAg hw, rfl⟩, ?_⟩;rw [hd];exact hk h hs x dr _ (hag.put d undef (by simpa [Nat.blt_eq] using hn))
theorem zk {kept : Bool} (ho : nth l i = some o) (hst : StepS P n Q o env m L kept fun env' L' => VBS P n l t env' m L' Q) (hw : wanted l env o = some true) : VBS P n l (.step i false t) env m L Q := by
 intro h hs x dr a hag;unfold seqB;rw [if_neg (by simp)];unfold opB;rw [y6, ho];simp only;rw [if_pos (yC hag.toAg hw)];refine Oper.wp_mono ?_ (hst h hs x dr a hag);rintro a' w' ⟨env', h', d', hag', rfl, _, L', hh, hv⟩;exact ⟨hh.base, hv h' hh x d' a' hag'⟩
end
theorem kn {P : Program} {rs : List ResultVar} {env : Env} {m m2 : Mp} {L : List Ent} {post : Value → List Ent → Prop} (hl : Le m m2) (vs : List Value) (hv : RvsS P env L rs vs) (L' : List Ent) (hp : Pick L L') (hq : post (tup vs) L') : QS (retC P rs (postS m post)) .ret env m2 L :=
 fun h hs => ⟨vs, hv.ok hs, L', hq, (hp m2 h hs).weaken hl⟩
section
variable {P : Program} {n : Nat} {env : Env} {m : Mp} {L : List Ent} {Q : Post} {β : Type}
def round4 (m : Mp) (S : Nat → Option Addr → Nat → β → Env) (LL : Nat → Option Addr → Nat → β → List Ent) (F : Nat → β → Prop) (μ : Nat → Nat) (k : Nat) (Q : Post) : Post := roundS m (fun y : Nat × Option Addr × Nat × β => S y.1 y.2.1 y.2.2.1 y.2.2.2) (fun y => LL y.1 y.2.1 y.2.2.1 y.2.2.2) (fun y => F y.1 y.2.2.2) (fun y => μ y.1) k Q
theorem yh {S : Nat → Option Addr → Nat → β → Env} {LL : Nat → Option Addr → Nat → β → List Ent} {F : Nat → β → Prop} {μ : Nat → Nat} {k i : Nat} (hq : QS Q (.exit i) env m L) {m0 : Mp} : QS (round4 m0 S LL F μ k Q) (.exit i) env m L := hq
theorem xh {S : Nat → Option Addr → Nat → β → Env} {LL : Nat → Option Addr → Nat → β → List Ent} {F : Nat → β → Prop} {μ : Nat → Nat} {k : Nat} {m0 : Mp} (hl : Le m0 m) (j : Nat) (A : Option Addr) (c : Nat) (b : β) (hs : Sub (S j A c b) env) (hp : Pick L (LL j A c b)) (hF : F j b) (hk : μ j < k) : QS (round4 m0 S LL F μ k Q) .normal env m L :=
 fun h hh => ⟨(j, A, c, b), hs, ⟨hF, (hp m h hh).weaken hl⟩, hk⟩
theorem wl {c : Code} (S : Nat → Option Addr → Nat → β → Env) (LL : Nat → Option Addr → Nat → β → List Ent) (F : Nat → β → Prop) (μ : Nat → Nat) (j : Nat) (A : Option Addr) (cc : Nat) (b : β) (hs : Sub (S j A cc b) env) (hp : Pick L (LL j A cc b)) (hF : F j b)
  (hr : ∀ (j : Nat) (A : Option Addr) (cc : Nat) (b : β), F j b → TS P n c (S j A cc b) m (LL j A cc b) (round4 m S LL F μ (μ j) Q)) : TS P n (.loop c) env m L Q :=
 zZ (fun y : Nat × Option Addr × Nat × β => S y.1 y.2.1 y.2.2.1 y.2.2.2) (fun y => LL y.1 y.2.1 y.2.2.1 y.2.2.2) (fun y => F y.1 y.2.2.2) (fun y => μ y.1) (j, A, cc, b) hs hp hF fun y hF => hr y.1 y.2.1 y.2.2.1 y.2.2.2 hF
end
theorem uh {P : Program} {t : TypeId} (ht : isIface P t = true) : ∃ ms, P.underlying t = some (.interface ms) := by
 unfold isIface at ht
 split at ht
 ·exact ⟨_, by assumption⟩
 ·cases ht
section
variable {P : Program} {n : Nat} {env : Env} {dst : Option Tmp} {ty : TypeId} {pos : String} {aft : Array Edge} {gd : Option (Nat × Bool)} {t yt u : TypeId} {x : Operand} {v : Value}
theorem P_ieqNo (ht : isIface P t = true) (hx : ev env x = some (.iface u v)) : PureV P n ⟨dst, .binOp .eql t x (.const .nilIface) yt, ty, pos, aft, gd⟩ env (.bool false) := by
 intro a w hag;obtain ⟨ms, hu⟩ := uh ht;have hy : a.eval (.const .nilIface) = .nilIface := rfl
 have h1 : (eqGuard .eql t x (.const .nilIface) (.iface u v) .nilIface).run P w = .ok () w := by
  unfold eqGuard
  simp
 have h2 : (Op.equal t (.iface u v) .nilIface).run P w = .ok false w := by
  show (Op.equalIn (9999 + 1) t _ _).run P w = _;rw [Op.equalIn]
  simp [run_underlying hu]
 simp [execOp, hag.eval hx, hy, h1, binOp, h2]
theorem Wi (ht : isIface P t = true) (hx : ev env x = some .nilIface) : PureV P n ⟨dst, .binOp .eql t x (.const .nilIface) yt, ty, pos, aft, gd⟩ env (.bool true) := by
 intro a w hag;obtain ⟨ms, hu⟩ := uh ht;have hy : a.eval (.const .nilIface) = .nilIface := rfl
 have h1 : (eqGuard .eql t x (.const .nilIface) .nilIface .nilIface).run P w = .ok () w := by
  unfold eqGuard
  simp
 have h2 : (Op.equal t .nilIface .nilIface).run P w = .ok true w := by
  show (Op.equalIn (9999 + 1) t _ _).run P w = _;rw [Op.equalIn]
  simp [run_underlying hu]
 simp [execOp, hag.eval hx, hy, h1, binOp, h2]
end
end Go.Eng
namespace Go.Eng
section
variable {P : Program} {n : Nat} {env : Env} {h : Heap} {Q : Post}
def jumpQ {α : Type} (l : Nat) (S : α → Env) (H : α → Heap → Prop) (μ : α → Nat) (k : Option Nat) (Q : Post) : Post
 | .goto l', env, h => l' = l ∧ ∃ y, Sub (S y) env ∧ H y h ∧ ∀ k0, k = some k0 → μ y < k0
 | e, env, h => Q e env h
theorem WY {α : Type} {c rest : Code} (l : Nat) (hf : findLabel c l = some rest) (S : α → Env) (H : α → Heap → Prop) (μ : α → Nat) (first : T P n c env h (jumpQ l S H μ none Q))
  (pass : ∀ (y : α) (h : Heap), H y h → T P n rest (S y) h (jumpQ l S H μ (some (μ y)) Q)) : T P n (.scope c) env h Q := by
 intro x d a hag b k cs;have hg : gotoIn l (.inScope c :: k) = some (.code rest :: .inScope c :: k) := by simp [gotoIn, hf]
 have key : ∀ (m : Nat) (y : α) (h : Heap) (d : Nat) (a : Act), μ y = m → AgD n x (S y) a → H y h →
   ∃ e a' w', lift n x Q e a' w' ∧ Arrives P (lone (b.at a (.code rest :: .inScope c :: k)) cs (W x h d)) b k cs e a' w' := by
  intro m
  induction m using Nat.strongRecOn with
  | _ m ih =>
    intro y h d a hm hag hH;obtain ⟨e, a₁, w₁, hq, harr⟩ := pass y h hH x d a hag b (.inScope c :: k) cs;obtain ⟨env₁, h₁, d₁, hag₁, rfl, hq⟩ := hq;cases e with
    | normal => exact ⟨.normal, a₁, _, ⟨env₁, h₁, d₁, hag₁, rfl, hq⟩, Steps.trans harr (.one step_inScope)⟩
    | exit id => exact ⟨.exit id, a₁, _, ⟨env₁, h₁, d₁, hag₁, rfl, hq⟩, fun k' hk => harr k' (by simp [exitTo, hk])⟩
    | goto l' =>
      obtain ⟨rfl, y₁, hs₁, hH₁, hlt⟩ := hq;obtain ⟨e₂, a₂, w₂, hq₂, harr₂⟩ := ih (μ y₁) (hm ▸ hlt _ rfl) y₁ h₁ d₁ a₁ rfl (hag₁.sub hs₁) hH₁;exact ⟨e₂, a₂, w₂, hq₂, .of_steps (harr _ hg) harr₂⟩
    | ret => exact ⟨_, a₁, _, ⟨env₁, h₁, d₁, hag₁, rfl, hq⟩, harr⟩
    | panic ch => exact ⟨_, a₁, _, ⟨env₁, h₁, d₁, hag₁, rfl, hq⟩, harr⟩
    | outgrown => exact ⟨_, a₁, _, ⟨env₁, h₁, d₁, hag₁, rfl, hq⟩, harr⟩
 obtain ⟨e, a₁, w₁, hq, harr⟩ := first x d a hag b (.inScope c :: k) cs
 obtain ⟨env₁, h₁, d₁, hag₁, rfl, hq⟩ := hq;cases e with
 | normal => exact ⟨.normal, a₁, _, ⟨env₁, h₁, d₁, hag₁, rfl, hq⟩, .head step_scope (Steps.trans harr (.one step_inScope))⟩
 | exit id => exact ⟨.exit id, a₁, _, ⟨env₁, h₁, d₁, hag₁, rfl, hq⟩, fun k' hk => .head step_scope (harr k' (by simp [exitTo, hk]))⟩
 | goto l' =>
   obtain ⟨rfl, y₁, hs₁, hH₁, _⟩ := hq;obtain ⟨e₂, a₂, w₂, hq₂, harr₂⟩ := key _ y₁ h₁ d₁ a₁ rfl (hag₁.sub hs₁) hH₁;exact ⟨e₂, a₂, w₂, hq₂, .of_steps (.head step_scope (harr _ hg)) harr₂⟩
 | ret => exact ⟨_, a₁, _, ⟨env₁, h₁, d₁, hag₁, rfl, hq⟩, .of_steps (.one step_scope) harr⟩
 | panic ch => exact ⟨_, a₁, _, ⟨env₁, h₁, d₁, hag₁, rfl, hq⟩, .of_steps (.one step_scope) harr⟩
 | outgrown => exact ⟨_, a₁, _, ⟨env₁, h₁, d₁, hag₁, rfl, hq⟩, .of_steps (.one step_scope) harr⟩
end
section
variable {P : Program} {n : Nat} {env : Env} {m : Mp} {L : List Ent} {Q : Post} {α : Type} {l : Nat} {S : α → Env} {LL : α → List Ent} {F : α → Prop} {μ : α → Nat} {k : Option Nat}
def jumpS (m : Mp) (l : Nat) (S : α → Env) (LL : α → List Ent) (F : α → Prop) (μ : α → Nat) (k : Option Nat) (Q : Post) : Post := jumpQ l S (fun y h => F y ∧ HS m (LL y) h) μ k Q
theorem qX (hq : QS Q .ret env m L) : QS (jumpS m l S LL F μ k Q) .ret env m L := hq
theorem wQ {ch : List PanicEntry} (hq : QS Q (.panic ch) env m L) : QS (jumpS m l S LL F μ k Q) (.panic ch) env m L := hq
theorem uw (y : α) (hs : Sub (S y) env) (hp : Pick L (LL y)) (hF : F y) (hk : ∀ k0, k = some k0 → μ y < k0) : QS (jumpS m l S LL F μ k Q) (.goto l) env m L := fun h hh => ⟨rfl, y, hs, ⟨hF, hp m h hh⟩, hk⟩
theorem Yi {l : Nat} (hq : QS Q (.goto l) env m L) : TS P n (.goto l) env m L Q := fun h hs _ d _ hag => wp_goto ⟨env, h, d, hag, rfl, hq h hs⟩
theorem xw {c : Code} {i : Nat} (hq : QS Q (.goto i) env m L) : QS (thenQ P n c Q) (.goto i) env m L := hq
theorem xl {id i : Nat} (hq : QS Q (.goto i) env m L) : QS (blockQ id Q) (.goto i) env m L := hq
theorem vu {β : Type} {S : β → Env} {LL : β → List Ent} {F : β → Prop} {μ : β → Nat} {k i : Nat} (hq : QS Q (.goto i) env m L) : QS (roundS m S LL F μ k Q) (.goto i) env m L := hq
theorem XM {c rest : Code} (l : Nat) (hf : findLabel c l = some rest) (S : α → Env) (LL : α → List Ent) (F : α → Prop) (μ : α → Nat) (first : TS P n c env m L (jumpS m l S LL F μ none Q))
  (pass : ∀ (y : α), F y → TS P n rest (S y) m (LL y) (jumpS m l S LL F μ (some (μ y)) Q)) : TS P n (.scope c) env m L Q :=
 fun h hs => WY l hf S _ μ (first h hs) fun y h ⟨h1, h2⟩ => pass y h1 h h2
theorem Zr {rest : Code} {k0 : Nat} (y : α) (pass : TS P n rest (S y) m (LL y) (jumpS m l S LL F μ (some k0) Q)) (hs : Sub (S y) env) (hp : Pick L (LL y)) : TS P n rest env m L (jumpS m l S LL F μ none Q) := fun h hh =>
 qH (jS (S y) hs (pass h (hp m h hh))) fun e env h hq => by
  cases e with
  | goto i => obtain ⟨e, y, h1, h2, _⟩ := hq; exact ⟨e, y, h1, h2, fun k0 h => by cases h⟩
  | _ => exact hq
end
theorem yV {P : Program} {n : Nat} {env : Env} {m : Mp} {L : List Ent} {Q : Post} {K : Env → List Ent → Prop} {ty : TypeId} {pos : String} {aft : Array Edge} {gd : Option (Nat × Bool)} {t et : TypeId} {x y z : Operand} {v : Value} {b : Nat} {es : List (List UInt8 × Value)} {k : List UInt8} {L' : List Ent} (ht : mapStr P t = some et) (hx : ev env x = some (.map (some b))) (hy : ev env y = some (.string (bs k))) (hz : ev env z = some v)
  (hT : Sel L (smap b es) (smap b (putM es k v)) L') (hk : K env L') : StepS P n Q ⟨none, .insert t x y z, ty, pos, aft, gd⟩ env m L false K :=
 yR (P := P) (n := n) (Q := Q) (ty := ty) (pos := pos) (aft := aft) (gd := gd) ht hx hy hz hT hk
def VAS (P : Program) (n : Nat) (l : List Oper) (fuel : Nat) (listed : Array Bool) (env : Env) (m : Mp) (L : List Ent) (Q : Post) : Prop :=
 ∀ h, HS m L h → ∀ (x : Fx) (d : Nat) (a : Act), AgD n x env a → anyB P l.toArray m (lift n x Q) fuel listed a (W x h d)
section
variable {P : Program} {n : Nat} {env : Env} {m : Mp} {L : List Ent} {Q : Post} {l : List Oper} {o : Oper} {v : Value} {d i : Nat}
theorem We {id : Nat} (hm : P.follows .mixedOrders = true) (hv : VAS P n l l.length (Array.replicate l.length false) env m L Q) : TS P n (.region id l.toArray true) env m L Q := by
 intro h hs x d a hag;refine wp_region_any hm (wS (m := m) _ _ _ _ ?_);rw [List.size_toArray];exact hv h hs x (d + 1) a hag
theorem jw {fuel : Nat} {listed : Array Bool} (ho : nth l i = some o) (hck : (noSel l && ((Region.ready .any l.toArray listed).contains i && freeB l listed i o)) = true) (hQ : ∀ c env env' h, Q (.panic c) env h → Q (.panic c) env' h)
  (hy : ∀ x a, AgD n x env a → YB P l.toArray m o v a) (hd : o.dst = some d) (hn : Nat.blt d n = true) (hk : VAS P n l fuel (listed.setIfInBounds i true) ((d, v) :: env) m L Q) : VAS P n l (fuel + 1) listed env m L Q := by
 intro h hs x dr a hag;simp only [Bool.and_eq_true] at hck;obtain ⟨hsel, hr, hf⟩ := hck;have hi : l.toArray[i]? = some o := by rw [y6]; exact ho
 unfold freeB at hf;rw [Bool.and_eq_true] at hf;obtain ⟨hf, hf2⟩ := hf;refine jQ rfl hi (wD hsel) (fun c a w h => ?_) fuel listed a _ hs.base ?_ ?_ (by simpa using hr) (hy x a hag) ?_
 ·obtain ⟨env1, h1, d1, hag1, rfl, hq1⟩ := h;refine ⟨[], h1, d1, ⟨⟨?_, fun t v ht => by simp [lk] at ht⟩, ?_⟩, rfl, hQ _ _ _ _ hq1⟩
  ·rw [← hag1.size]; cases o.dst <;> simp [Act.put]
  ·rw [← hag1.defers]; cases o.dst <;> simp [Act.put]
 ·intro j oj hj hji hun hno;rw [List.all_eq_true] at hf
  have hlt : j < l.length := by
   have := (Array.getElem?_eq_some_iff.1 hj).1
   simpa using this
  have := hf j (List.mem_range.2 hlt);rw [y6] at hj;rw [hj] at this
  have hno' : (reach l i).contains j = false := by
   cases hcn : (reach l i).contains j with
   | false => rfl
   | true => exact absurd (List.contains_iff_mem.1 hcn) hno
  simpa only [hun, hno', beq_eq_false_iff_ne.2 hji, Bool.false_or] using this
 ·intro k hk hmem;rw [List.all_eq_true] at hf2;have := hf2 k hmem;rw [hk] at this;cases this
 ·rw [hd];exact hk h hs x dr _ (hag.put d v (by simpa [Nat.blt_eq] using hn))
theorem xG {fuel : Nat} {listed : Array Bool} (ho : nth l i = some o) (hck : (noSel l && ((Region.ready .any l.toArray listed).contains i && freeB l listed i o)) = true) (hQ : ∀ c env env' h, Q (.panic c) env h → Q (.panic c) env' h)
  (hr : PureV P n o env v) (hd : o.dst = some d) (hn : Nat.blt d n = true) (hw : wanted l env o = some true) (hk : VAS P n l fuel (listed.setIfInBounds i true) ((d, v) :: env) m L Q) : VAS P n l (fuel + 1) listed env m L Q :=
 jw ho hck hQ (fun _ a hag => .inl ⟨yC hag.toAg hw, fun w' _ => hr a w' hag⟩) hd hn hk
theorem WX {fuel : Nat} {listed : Array Bool} (ho : nth l i = some o) (hck : (noSel l && ((Region.ready .any l.toArray listed).contains i && freeB l listed i o)) = true) (hQ : ∀ c env env' h, Q (.panic c) env h → Q (.panic c) env' h)
  (hr : ∀ h, HS m [] h → ReadV P n o env h v) (hd : o.dst = some d) (hn : Nat.blt d n = true) (hw : wanted l env o = some true) (hk : VAS P n l fuel (listed.setIfInBounds i true) ((d, v) :: env) m L Q) : VAS P n l (fuel + 1) listed env m L Q :=
 jw ho hck hQ (fun _ a hag => .inl ⟨yC hag.toAg hw, fun w' hl => hr w'.heap (HS.nil hl) a w' hag (Le.refl _)⟩) hd hn hk
theorem Yf {σ : Type} (f : σ → Array Bool) (μ : σ → Nat) (Inv : σ → Env → List Ent → Prop)
  (step : ∀ s env L, Inv s env L → (Region.ready .any l.toArray (f s) = [] → QS Q .normal env m L) ∧ (μ s = 0 → Region.ready .any l.toArray (f s) = []) ∧
   ∀ i ∈ Region.ready .any l.toArray (f s), ∃ o kept s', nth l i = some o ∧ wanted l env o = some true ∧ f s' = (f s).setIfInBounds i true ∧ μ s' + 1 = μ s ∧ StepS P n Q o env m L kept fun env' L' => Inv s' env' L') :
  ∀ (k : Nat) (s : σ) (env : Env) (L : List Ent), μ s = k → Inv s env L → VAS P n l k (f s) env m L Q
 | 0, s, env, L, hk, hi => fun h hs x d a hag => by
   obtain ⟨h1, h2, -⟩ := step s env L hi;exact ⟨h2 hk, env, h, d, hag, rfl, h1 (h2 hk) h hs⟩
 | k + 1, s, env, L, hk, hi => fun h hs x d a hag => by
   obtain ⟨h1, -, h3⟩ := step s env L hi;refine ⟨fun hr => ⟨env, h, d, hag, rfl, h1 hr h hs⟩, fun i hin => ?_⟩;obtain ⟨o, kept, s', ho, hw, hf, hm, hst⟩ := h3 i hin;unfold opB;rw [y6, ho];simp only;rw [if_pos (yC hag.toAg hw)];refine Oper.wp_mono ?_ (hst h hs x d a hag);rintro a' w' ⟨env', h', d', hag', rfl, _, L', hh, hv⟩;refine ⟨hh.base, ?_⟩;rw [← hf]
   exact Yf f μ Inv step k s' env' L' (by omega) hv h' hh x d' a' hag'
end
theorem nth_mem {l : List Oper} {i : Nat} {o : Oper} (h : nth l i = some o) : o ∈ l := by
 induction l generalizing i with
 | nil => cases h
 | cons x r ih =>
   cases i with
   | zero => cases h; exact .head _
   | succ i => exact .tail _ (ih h)
theorem kf {P : Program} {l : List Oper} {wild : Nat → Bool} {Q : Exit → Act → World → Prop} (hsel : noSel l = true)
  (hQ : ∀ o ∈ l, ∀ v c a w, Q (.panic c) (a.put o.dst v) w → Q (.panic c) a w) :
  ∀ (t : OT) (n : Nat) (listed : Array Bool) (a : Act) (w : World), seqT P l wild Q t a w →
   (chkT l wild t false n listed = true → anyE P l.toArray wild Q n listed a w) ∧
   (chkT l wild t true n listed = true → headsT t ≠ [] ∧ 0 < n ∧ ∀ i ∈ headsT t, opE P l.toArray wild Q i (anyE P l.toArray wild Q (n - 1) (listed.setIfInBounds i true)) a w) := by
 intro t
 induction t with
 | done =>
   intro n listed a w hs;refine ⟨fun hc => ?_, fun hc => by simp [chkT] at hc⟩;simp only [chkT, Bool.not_false, Bool.true_and, Bool.and_eq_true, List.isEmpty_iff] at hc;have hn := Nat.eq_of_beq_eq_true hc.1;subst hn;exact ⟨hc.2, hs⟩
 | step i k t ih =>
   intro n listed a w hs;cases n with
   | zero => exact ⟨fun hc => by simp [chkT] at hc, fun hc => by simp [chkT] at hc⟩
   | succ m =>
     unfold seqT at hs;cases hk : k.quiet with
     | true =>
       rw [if_pos hk] at hs;obtain ⟨o, v, ho, hy, hs⟩ := hs;refine ⟨fun hc => ?_, fun hc => ?_⟩
       ·unfold chkT at hc;rw [Bool.and_eq_true] at hc;obtain ⟨hc, hc'⟩ := hc;rw [ho] at hc;simp only [hk, if_true, Bool.not_false, Bool.true_and, Bool.and_eq_true] at hc;obtain ⟨hr, hf⟩ := hc;have hi : l.toArray[i]? = some o := by rw [y6]; exact ho
        unfold free at hf;rw [Bool.and_eq_true] at hf;obtain ⟨hf, hf2⟩ := hf;refine uO rfl hi (wD hsel) (fun c a w h => hQ o (nth_mem ho) _ c a w h) m listed a w ?_ ?_ (by simpa using hr) hy ((ih m _ _ _ hs).1 hc')
        ·intro j oj hj hji hun hno;rw [List.all_eq_true] at hf
         have hlt : j < l.length := by
          have := (Array.getElem?_eq_some_iff.1 hj).1
          simpa using this
         have := hf j (List.mem_range.2 hlt);rw [y6] at hj;rw [hj] at this
         have hno' : (reach l i).contains j = false := by
          cases hcn : (reach l i).contains j with
          | false => rfl
          | true => exact absurd (List.contains_iff_mem.1 hcn) hno
         simp only [hun, hno', beq_eq_false_iff_ne.2 hji, Bool.false_or, Bool.and_eq_true] at this;exact ⟨this.1, by cases hw : wild j <;> simp [hw] at this ⊢ <;> simp [this]⟩
        ·intro k hk hmem;rw [List.all_eq_true] at hf2;have := hf2 k hmem;rw [hk] at this;cases this
       ·unfold chkT at hc;rw [Bool.and_eq_true] at hc;rw [ho] at hc
        simp [hk] at hc
     | false =>
       rw [if_neg (by rw [hk]; simp)] at hs
       have hb : ∀ b, chkT l wild (.step i k t) b (m + 1) listed = true → opE P l.toArray wild Q i (anyE P l.toArray wild Q m (listed.setIfInBounds i true)) a w := fun b hc => by
        unfold chkT at hc;rw [Bool.and_eq_true] at hc;exact uY (fun a w hs => (ih m _ a w hs).1 hc.2) hs
       refine ⟨fun hc => ?_, fun hc => ⟨by simp [headsT], Nat.succ_pos _, fun j hj => ?_⟩⟩
       ·have hrd : Region.ready .any l.toArray listed = [i] := by
         unfold chkT at hc;rw [Bool.and_eq_true] at hc;have hc1 := hc.1
         split at hc1
         ·cases hc1
         ·simp only [hk, Bool.false_eq_true, if_false, Bool.false_or] at hc1
          simpa using hc1
        refine ⟨(fun h => by rw [hrd] at h; cases h), fun j hj => ?_⟩;rw [hrd] at hj;have : j = i := by simpa using hj
        subst this;exact hb _ hc
       ·have : j = i := by simpa [headsT] using hj
        subst this;exact hb _ hc
 | fork s t ih1 ih2 =>
   intro n listed a w hs;unfold seqT at hs
   have key : ∀ b, chkT l wild (.fork s t) b n listed = true → headsT (.fork s t) ≠ [] ∧ 0 < n ∧ ∀ i ∈ headsT (.fork s t), opE P l.toArray wild Q i (anyE P l.toArray wild Q (n - 1) (listed.setIfInBounds i true)) a w := fun b hc => by
    unfold chkT at hc;simp only [Bool.and_eq_true] at hc;obtain ⟨h1, h0, h2⟩ := (ih1 n listed a w hs.1).2 hc.1.2;obtain ⟨_, _, h3⟩ := (ih2 n listed a w hs.2).2 hc.2;refine ⟨by simp [headsT, h1], h0, fun i hi => ?_⟩;simp only [headsT, List.mem_append] at hi;rcases hi with hi | hi
    ·exact h2 i hi
    ·exact h3 i hi
   refine ⟨fun hc => ?_, key true⟩;obtain ⟨k1, k2, k3⟩ := key false hc;unfold chkT at hc;simp only [Bool.and_eq_true, Bool.false_or] at hc;have hall := hc.1.1.2;have hne := hc.1.1.1;rw [List.all_eq_true] at hall;obtain ⟨m, rfl⟩ : ∃ m, n = m + 1 := ⟨n - 1, by omega⟩;refine ⟨fun hnil => (by rw [hnil] at hne; cases hne), fun i hi => ?_⟩;have := hall i hi;exact k3 i (by simpa [headsT] using this)
def dropE (d : Nat) (env : Env) : Env := env.filter fun p => !Nat.beq p.1 d
theorem uc {d t : Nat} : ∀ {env : Env}, d ≠ t → lk (dropE d env) t = lk env t
 | [], _ => rfl
 | (k, v) :: r, h => by
   have ih := uc (env := r) h;by_cases hk : k = d
   ·subst hk;have e : dropE k ((k, v) :: r) = dropE k r := by simp [dropE]
    rw [e, ih];show lk r t = (match Nat.beq k t with | true => some v | false => lk r t);rw [qG h]
   ·have e : dropE d ((k, v) :: r) = (k, v) :: dropE d r := by unfold dropE; rw [List.filter_cons_of_pos (by rw [qG hk]; rfl)]
    rw [e];show (match Nat.beq k t with | true => some v | false => lk (dropE d r) t) = (match Nat.beq k t with | true => some v | false => lk r t);rw [ih]
theorem vo {d : Nat} : ∀ {env : Env}, lk (dropE d env) d = none
 | [] => rfl
 | (k, v) :: r => by
   have ih := vo (d := d) (env := r);by_cases hk : k = d
   ·subst hk;have e : dropE k ((k, v) :: r) = dropE k r := by simp [dropE]
    rw [e, ih]
   ·have e : dropE d ((k, v) :: r) = (k, v) :: dropE d r := by unfold dropE; rw [List.filter_cons_of_pos (by rw [qG hk]; rfl)]
    rw [e];show (match Nat.beq k d with | true => some v | false => lk (dropE d r) d) = none;rw [qG hk, ih]
def allDst (k : Nat) (l : List Oper) : Bool := l.all fun o => match o.dst with
 | none => true
 | some d => Nat.blt k d
theorem wm {P : Program} {n : Nat} {env : Env} {m : Mp} {L : List Ent} {Q : Post} {l : List Oper} {id : Nat} (t : OT) (hm : P.follows .mixedOrders = true) (hck : checkT l t = true) (k : Nat) (hk : allDst k l = true)
  (hQ : ∀ d c env h, Nat.blt k d = true → Q (.panic c) env h → Q (.panic c) (dropE d env) h) (hv : VTS P n l (wildT t) t env m L Q) : TS P n (.region id l.toArray true) env m L Q := by
 intro h hs x d a hag;unfold checkT at hck;simp only [Bool.and_eq_true] at hck;obtain ⟨h1, h3⟩ := hck;have hs := hv h hs x (d + 1) a hag
 have := (kf h1 (Q := lift n x Q) (by
  rintro o ho v c a w ⟨env, h, d, hag, rfl, hq⟩;cases hod : o.dst with
  | none => rw [hod] at hag; exact ⟨env, h, d, hag, rfl, hq⟩
  | some j =>
    rw [hod] at hag;unfold allDst at hk;rw [List.all_eq_true] at hk;have hj := hk o ho;rw [hod] at hj;refine ⟨dropE j env, h, d, ⟨⟨by rw [← hag.size]; simp [Act.put], fun t u ht => ?_⟩, hag.defers⟩, rfl, hQ j c env h hj hq⟩
    have hne : j ≠ t := by
     rintro rfl;rw [vo] at ht;cases ht
    rw [uc hne] at ht;have h5 := hag.toAg.at_ t u ht
    simpa [Act.put, hne] using h5) t l.length _ a _ hs).1 h3
 refine wp_region_any hm (xj (wild := wildT t) _ _ _ _ ?_);rw [List.size_toArray];exact this
end Go.Eng
namespace Go.Eng
open Go.ChangeShapes Go.WideShapes Go.ChangeAt Go.RowKit
def GoodR {H : Type} (P : Program) (w : World) (t : TypeId) (x : DataW H × List MemPlace) : Prop := w.noneFrozen x.2 ∧ ∀ k ∈ DataW.weights P t x.1, k ≤ reachBytes
section
variable {H : Type} {enc : TypeId × Value → H} {P : Program} {w : World} {base : Nat} {spare : Nat → Bool} {held : Bool}
theorem vM {e : TypeId} : ∀ {l : List (DataW H)} {d : DataW H} {k : Nat}, d ∈ l → k ∈ DataW.weights P e d → k ∈ DataW.weightsAll P e l
 | [], _, _, h, _ => by cases h
 | a :: r, d, k, h, hk => by
   simp only [DataW.weightsAll, List.mem_append];rcases List.mem_cons.1 h with rfl | h
   ·exact .inl hk
   ·exact .inr (vM h hk)
theorem xq {t i ft off fuel : Nat} {cs : List Value} {x : DataW H × List MemPlace} (hf : fld P t i = some (ft, off)) (h : DataW.trod enc P w base spare held fuel t cs = some x) (hg : GoodR P w t x) :
  ∃ n y, fuel = n + 1 ∧ cs.length = P.cellsOf t ∧ DataW.trod enc P w base spare held n ft ((cs.drop off).take (P.cellsOf ft)) = some y ∧ GoodR P w ft y := by
 unfold fld at hf
 split at hf
 ·rename_i fs hu
  obtain ⟨xs, n, rfl, rfl, hl, hlen, hx⟩ := DataW.trod_struct hu h;cases hfi : fs[i]? with
  | none => rw [hfi] at hf; cases hf
  | some f =>
    rw [hfi] at hf;simp only [Option.map_some, Option.some.injEq, Prod.mk.injEq] at hf;obtain ⟨rfl, rfl⟩ := hf;have h1 := hx i f hfi;have hi : i < xs.length := by rw [hlen]; exact (Array.getElem?_eq_some_iff.1 hfi).1
    rw [List.getElem?_eq_getElem hi] at h1;refine ⟨n, _, rfl, hl, h1, fun b o hm => hg.1 b o (List.mem_flatMap.2 ⟨_, List.getElem_mem hi, hm⟩), fun k hk => hg.2 k ?_⟩;simp only [DataW.weights, hu];exact DataW.weights_mem_each (j := i) (t := f.type) (by simp [hfi]) (by simp [hi]) k hk
 ·cases hf
theorem YQ {t fuel : Nat} {cs : List Value} {x : DataW H × List MemPlace} (ht : isStr P t = true) (h : DataW.trod enc P w base spare held fuel t cs = some x) (hg : GoodR P w t x) : ∃ l : List UInt8, cs = [.string (bs l)] ∧ l.length ≤ 140737488355328 := by
 obtain ⟨s, h1, h3, h2⟩ := DataW.trod_string (jD ht) h;refine ⟨s.data.toList, by rw [YF]; exact h1, ?_⟩;have := hg.2 s.data.toList.length (by rw [h3]; simp [DataW.weights]);unfold reachBytes at this;omega
theorem XE {t e sz by_ fuel : Nat} {cs : List Value} {x : DataW H × List MemPlace} (ht : sliceT P t e = true) (hc : P.cellsOf e = sz) (hb : P.bytesOf e = by_) (h : DataW.trod enc P w base spare held fuel t cs = some x) (hg : GoodR P w t x) :
  ∃ (A : Option Addr) (len cap : Nat) (vs : List Value) (n : Nat), cs = [.slice A len cap] ∧ (0 < len → A.isSome = true) ∧ len * by_ ≤ reachBytes ∧ (∀ i u, vs[i]? = some u → Wc (mp w.heap) ((sa A).add i) u) ∧ vs.length = len * sz ∧ n ≤ fuel ∧
   ∀ i, i < len → ∃ y, DataW.trod enc P w base spare held n e ((vs.drop (i * sz)).take sz) = some y ∧ GoodR P w e y := by
 rcases DataW.trod_slice (y4 ht) h with ⟨hcs, _⟩ | ⟨a, len, cap, elems, rest, n, rfl, rfl, rfl, _, hl, hm, hel, hx, _⟩
 ·exact ⟨none, 0, 0, [], 0, hcs, (fun h => absurd h (Nat.lt_irrefl 0)), by rw [Nat.zero_mul]; exact Nat.zero_le _, (fun i u h => by simp at h), by rw [Nat.zero_mul]; rfl, Nat.zero_le _, fun i hi => by omega⟩
 ·rw [hc] at hx;have hwt := hg.2
  have hle : len * by_ ≤ reachBytes := by
   have h1 := hwt ((elems.length + rest.length) * P.bytesOf e) (by simp [DataW.weights, y4 ht]);rw [hb] at h1;refine Nat.le_trans (Nat.mul_le_mul_right _ ?_) h1;omega
  have h1 : ∀ i, i < len → ∃ l : List Value, w.cells? base (a.add (i * sz)) sz = some l ∧ ∃ y, DataW.trod enc P w base spare held n e l = some y ∧ GoodR P w e y := fun i hi => by
   have h2 := hx i hi;rw [List.getElem?_eq_getElem (by omega)] at h2;obtain ⟨l, h3, h4⟩ := Option.bind_eq_some_iff.1 h2;refine ⟨l, h3, _, h4, fun b o hm => hg.1 b o ?_, fun k hk => hwt k ?_⟩
   ·exact List.mem_append.2 (.inr (List.mem_flatMap.2 ⟨_, List.mem_append.2 (.inl (List.getElem_mem (by omega))), hm⟩))
   ·simp only [DataW.weights, y4 ht, List.mem_cons, List.mem_append];exact .inr (.inl (vM (List.mem_map.2 ⟨_, List.getElem_mem (by omega), rfl⟩) hk))
  obtain ⟨ls, hls, hp⟩ := yP h1
  have hlen : ∀ l ∈ ls, l.length = sz := fun l hl => by
   obtain ⟨i, hi, rfl⟩ := List.getElem_of_mem hl;exact (World.cells?_some (hp i hi).1).2.1
  have key : ∀ (ls : List (List Value)), (∀ l ∈ ls, l.length = sz) → ls.flatten.length = ls.length * sz ∧ ∀ (i j : Nat), j < sz → ls.flatten[i * sz + j]? = (ls[i]?).bind (·[j]?) := by
   intro ls
   induction ls with
   | nil => intro _; exact ⟨by simp, fun i j _ => by simp⟩
   | cons l r ih =>
     intro hl;obtain ⟨h2, h3⟩ := ih fun x hx => hl x (List.mem_cons_of_mem _ hx);have h4 := hl l (by simp);refine ⟨by rw [List.flatten_cons, List.length_append, h2, h4, List.length_cons, Nat.add_mul]; omega, fun i j hj => ?_⟩;rw [List.flatten_cons];cases i with
     | zero => rw [List.getElem?_append_left (by omega)]; simp
     | succ i =>
       rw [List.getElem?_append_right (by rw [h4, Nat.add_mul]; omega), h4, show (i + 1) * sz + j - sz = i * sz + j by rw [Nat.add_mul]; omega, h3 i j hj]
       simp
  obtain ⟨k1, k2⟩ := key ls hlen;refine ⟨some a, len, cap, ls.flatten, n, rfl, fun _ => rfl, hle, fun q u hq => ?_, by rw [k1, hls], Nat.le_succ _, fun i hi => ?_⟩
  ·have hq1 : q < ls.length * sz := by rw [← k1]; exact (List.getElem?_eq_some_iff.1 hq).1
   have hsz : 0 < sz := Nat.pos_of_ne_zero (by rintro rfl; simp at hq1);have hi : q / sz < ls.length := Nat.div_lt_of_lt_mul (by rw [Nat.mul_comm]; exact hq1);have hj : q % sz < sz := Nat.mod_lt _ hsz;have hqe : q / sz * sz + q % sz = q := by rw [Nat.mul_comm]; exact Nat.div_add_mod q sz
   have h5 := k2 (q / sz) (q % sz) hj;rw [hqe, List.getElem?_eq_getElem hi] at h5;have h6 := (World.cells?_some (hp _ hi).1).2.2 _ hj;rw [hq] at h5;simp only [Option.bind_some] at h5;rw [← h5, wz, vi, hqe] at h6;have h7 : mc (mp w.heap) ((sa (some a)).add q) = some u := h6;refine ⟨h7, ?_⟩;have hsp := World.cell?_spot (w := w) (a := (sa (some a)).add q) h7
   have ha : (sa (some a)).add q = ⟨a.block, a.off + q, none⟩ := by
    have e : (sa (some a)).add q = a.add q := rfl;rw [e] at hsp ⊢;unfold Addr.add at hsp ⊢
    split
    ·rename_i h0
     rw [if_pos h0] at hsp;subst h0;obtain ⟨b, o, s⟩ := a;simp only at hsp;subst hsp
     rfl
    ·rfl
   rw [ha, ← Z7];refine hg.1 _ _ ?_;refine List.mem_append.2 (.inl (List.mem_map.2 ⟨q, ?_, rfl⟩));rw [List.mem_range, hc];have h8 : len * sz ≤ (elems.length + rest.length) * sz := Nat.mul_le_mul_right _ (by omega);rw [hls] at hq1;omega
  ·have hi' : i < ls.length := by omega
   have : (ls.flatten.drop (i * sz)).take sz = ls[i] := by
    apply List.ext_getElem?
    intro j;rw [List.getElem?_take, List.getElem?_drop]
    split
    ·rename_i hj
     rw [k2 i j hj, List.getElem?_eq_getElem hi']
     rfl
    ·rw [List.getElem?_eq_none];have := hlen _ (List.getElem_mem hi');omega
   rw [this];exact (hp i hi').2
end
end Go.Eng
namespace Go.Eng
section
variable {P : Program} {n : Nat} {env : Env} {x : Operand} {t yt : TypeId} {dst : Option Tmp} {ty : TypeId} {pos : String} {aft : Array Edge} {gd : Option (Nat × Bool)}
theorem jY {op : BinOp} {t : TypeId} {x y : Operand} {A : Option Addr} {m c : Nat} {v : Value} : eqGuard op t x y (.slice A m c) v = pure () := by cases op <;> rfl
theorem Yk {A : Option Addr} {m c : Nat} (ht : isSlice P t = true) (hx : ev env x = some (.slice A m c)) : PureV P n ⟨dst, .binOp .eql t x (.const (.slice none 0 0)) yt, ty, pos, aft, gd⟩ env (.bool A.isNone) := by
 intro a' w ha;obtain ⟨e, he⟩ := ZC ht;simp only [execOp, ha.eval hx, ha.eval (rfl : ev env (.const (.slice none 0 0)) = some (.slice none 0 0)), jY]
 simp [Go.run_eql_slice_nil w t e A m c he]
end
end Go.Eng
namespace Go.Eng
theorem Pick.tr {L1 L2 L3 : List Ent} (h1 : Pick L1 L2) (h2 : Pick L2 L3) : Pick L1 L3 := fun m h hs => h2 m h (h1 m h hs)
theorem Pick.packSnoc {os r : List Ent} {o : Ent} : Pick (pack os :: o :: r) (pack (os ++ [o]) :: r) := fun m h hs => by
 have h1 : HS m (os ++ o :: r) h := HS.pack_iff.2 hs;rw [show os ++ o :: r = (os ++ [o]) ++ r by simp] at h1;exact HS.pack_iff.1 h1
section
variable {P : Program} {n : Nat} {env : Env} {m : Mp} {L r : List Ent} {Q : Post}
end
end Go.Eng
namespace Go.Eng
section
variable {P : Program} {n : Nat} {env : Env} {m : Mp} {L r : List Ent} {Q : Post} {ty : TypeId} {pos : String} {aft : Array Edge} {gd : Option (Nat × Bool)} {d : Nat}
theorem wo {K : Env → List Ent → Prop} {f : FuncId} {fv : Operand} {args : List Operand} {ats : Array TypeId} {vs p q : List Value} {pre : List Ent} {post : Value → List Ent → Prop} (hcl : callable P f = true) (hf : ev env fv = some (.func (.func f) p.toArray q.toArray)) (hx : evs env args = some vs) (hT : Tks L pre r)
  (hc : ∀ m', Le m m' → HE r m' → CS P f ((p ++ vs) ++ q) m' pre post) (hn : Nat.blt d n = true) (hk : ∀ v L', post v L' → K ((d, v) :: env) (L' ++ r)) : StepS P n Q ⟨some d, .call ⟨.value fv, args.toArray, ats⟩, ty, pos, aft, gd⟩ env m L false K :=
 wB (ppost := fun _ _ => False) hcl hf hx hT (fun m' h1 h2 => (hc m' h1 h2).toP) hn (fun _ _ h => h.elim) hk
end
end Go.Eng
namespace Go.Eng
section
variable {P : Program} {n : Nat} {env : Env} {m : Mp} {L : List Ent} {x y : Operand} {t et : TypeId} {dst : Option Tmp} {ty : TypeId} {pos : String} {aft : Array Edge} {gd : Option (Nat × Bool)}
def MapAt (m : Mp) (b : Nat) (es : List (List UInt8 × Value)) : Prop := m b = some (.map (entsM 0 es).toArray es.length)
theorem MapAt.mono {m m' : Mp} {b : Nat} {es : List (List UInt8 × Value)} (h : MapAt m b es) (hl : Le m m') : MapAt m' b es := hl _ _ h
theorem MapAt.of {m : Mp} {b : Nat} {es : List (List UInt8 × Value)} (h : (smap b es).inv m) : MapAt m b es := h
theorem jx {b : Nat} {es : List (List UInt8 × Value)} {k : List UInt8} {zv : Value} (hm : MapAt m b es) (ht : mapStr P t = some et) (hx : ev env x = some (.map (some b))) (hy : ev env y = some (.string (bs k))) (hzz : ∀ w, (zeroValue et).run P w = .ok zv w) :
  ∀ h, HS m L h → ReadV P n ⟨dst, .lookup t x y false, ty, pos, aft, gd⟩ env h ((getM es k).getD zv) := fun h hs a w ha hl => by
 have h1 : mp w.heap b = some (.map (entsM 0 es).toArray es.length) := hl _ _ (hs.base _ _ hm);have := xV (P := P) (fx := ⟨w.tape, w.os, w.output, []⟩) (h := w.heap) (dr := w.drawn) (cm := false) (k := k) ht h1 hzz;simp only [execOp, ha.eval hx, ha.eval hy, Sem.run_bind];rw [← W_of] at this;rw [this]
 rfl
theorem uP {b : Nat} {es : List (List UInt8 × Value)} {k : List UInt8} {zv : Value} (hm : MapAt m b es) (ht : mapStr P t = some et) (hx : ev env x = some (.map (some b))) (hy : ev env y = some (.string (bs k))) (hzz : ∀ w, (zeroValue et).run P w = .ok zv w) :
  ∀ h, HS m L h → ReadV P n ⟨dst, .lookup t x y true, ty, pos, aft, gd⟩ env h (.tuple [(getM es k).getD zv, .bool (getM es k).isSome].toArray) := fun h hs a w ha hl => by
 have h1 : mp w.heap b = some (.map (entsM 0 es).toArray es.length) := hl _ _ (hs.base _ _ hm);have := xV (P := P) (fx := ⟨w.tape, w.os, w.output, []⟩) (h := w.heap) (dr := w.drawn) (cm := true) (k := k) ht h1 hzz;simp only [execOp, ha.eval hx, ha.eval hy, Sem.run_bind];rw [← W_of] at this;rw [this]
 rfl
end
end Go.Eng
namespace Go.Eng
section
variable {P : Program} {n : Nat} {env : Env} {h : Heap} {Q : Post} {K : Env → Heap → Prop} {d : Nat} {ty : TypeId} {pos : String} {aft : Array Edge} {gd : Option (Nat × Bool)} {x y : Operand} {t u : TypeId}
end
section
variable {P : Program} {n : Nat} {env : Env} {m : Mp} {L : List Ent} {Q : Post} {K : Env → List Ent → Prop} {d : Nat} {ty : TypeId} {pos : String} {aft : Array Edge} {gd : Option (Nat × Bool)} {x y : Operand} {t u : TypeId}
def Buf (A : Option Addr) (l : List UInt8) : Prop := (l = [] ∧ A = none) ∨ (l ≠ [] ∧ ∃ g, A = some ⟨g, 0, none⟩)
theorem Buf.nil : Buf none [] := .inl ⟨rfl, rfl⟩
end
end Go.Eng
namespace Go.Eng
inductive Fm where
 | thn (c : Code)
 | blk (id : Nat)
def appQ (P : Program) (n : Nat) : List Fm → Post → Post
 | [], Q => Q
 | .thn c :: r, Q => thenQ P n c (appQ P n r Q)
 | .blk i :: r, Q => blockQ i (appQ P n r Q)
inductive Go1 where
 | code (c : Code)
 | ops (l0 l : List Oper)
 | exit (e : Exit)
def Holds (P : Program) (n : Nat) (g : Go1) (fs : List Fm) (env : Env) (m : Mp) (L : List Ent) (Q : Post) : Prop := match g with
 | .code c => TS P n c env m L (appQ P n fs Q)
 | .ops l0 l => VS P n l0 l env m L (appQ P n fs Q)
 | .exit e => QS (appQ P n fs Q) e env m L
structure Tab where
 fo : List (Nat × Nat × Nat)
 il : List Nat
def Tab.foff (T : List (Nat × Nat × Nat)) (s f : Nat) : Option Nat := match T with
 | [] => none
 | (a, b, o) :: r => match Nat.beq a s && Nat.beq b f with
   | true => some o
   | false => Tab.foff r s f
def Tab.has (T : List Nat) (s : Nat) : Bool := match T with
 | [] => false
 | a :: r => Nat.beq a s || Tab.has r s
structure TabOk (P : Program) (T : Tab) : Prop where
 fo : T.fo.all (fun x => decide (Eng.foff P x.1 x.2.1 = some x.2.2)) = true
 il : T.il.all (fun x => isSlice P x) = true
theorem TabOk.foff {P : Program} {T : Tab} (h : TabOk P T) {s f o : Nat} (hf : Tab.foff T.fo s f = some o) : Eng.foff P s f = some o := by
 have h1 := h.fo;generalize T.fo = l at h1 hf
 induction l with
 | nil => cases hf
 | cons x r ih =>
   obtain ⟨a, b, c⟩ := x;simp only [List.all_cons, Bool.and_eq_true, decide_eq_true_eq] at h1;unfold Tab.foff at hf
   split at hf
   ·rename_i hb
    simp only [Bool.and_eq_true] at hb;have e1 := Nat.eq_of_beq_eq_true hb.1;have e2 := Nat.eq_of_beq_eq_true hb.2;subst e1 e2;cases hf;exact h1.1
   ·exact ih h1.2 hf
theorem TabOk.has {P : Program} {T : Tab} (h : TabOk P T) {s : Nat} (hf : Tab.has T.il s = true) : isSlice P s = true := by
 have h1 := h.il;generalize T.il = l at h1 hf
 induction l with
 | nil => cases hf
 | cons x r ih =>
   simp only [List.all_cons, Bool.and_eq_true] at h1;unfold Tab.has at hf;rw [Bool.or_eq_true] at hf;rcases hf with hb | hb
   ·have e1 := Nat.eq_of_beq_eq_true hb;subst e1;exact h1.1
   ·exact ih h1.2 hb
def pvT (T : Tab) (env : Env) : Op → Option Value
 | .move x => ev env x
 | .assign x => ev env x
 | .pick c x y => match ev env c with
   | some (.bool true) => ev env x
   | some (.bool false) => ev env y
   | _ => none
 | .nilCheck x => match ev env x with
   | some (.pointer (some b)) => some (.pointer (some b))
   | _ => none
 | .fieldAddr s x f => match Tab.foff T.fo s f with
   | some o => match ev env x with
     | some (.pointer (some b)) => some (.pointer (some (b.add o)))
     | _ => none
   | none => none
 | .unOp .not _ x => match ev env x with
   | some (.bool b) => some (.bool (!b))
   | _ => none
 | .extract x i => match ev env x with
   | some (.tuple a) => vnth a.toList i
   | _ => none
 | .makeFunc fn fi ca => match evs env fi.toList with
   | some p => match evs env ca.toList with
     | some q => some (.func fn p.toArray q.toArray)
     | none => none
   | none => none
 | .call c => match c.callee with
   | .builtin .len => match c.args.toList, c.argTypes.toList with
     | [x], [t] => match Tab.has T.il t with
       | true => match ev env x with
         | some (.slice _ m _) => some (.int .i64 m)
         | _ => none
       | false => none
     | _, _ => none
   | _ => none
 | _ => none
theorem uy {P : Program} {T : Tab} (hT : TabOk P T) {n : Nat} {env : Env} {o : Oper} {v : Value} (h : pvT T env o.op = some v) : PureV P n o env v := by
 obtain ⟨dst, op, ty, pos, aft, gd⟩ := o;change pvT T env op = some v at h;unfold pvT at h
 split at h
 ·exact zV h
 ·exact zK h
 ·split at h
  ·exact yN ‹_› h
  ·exact xH ‹_› h
  ·cases h
 ·split at h
  ·cases h; exact YN ‹_›
  ·cases h
 ·split at h
  ·split at h
   ·cases h; exact qZ (hT.foff ‹_›) ‹_›
   ·cases h
  ·cases h
 ·split at h
  ·cases h; exact xb ‹_›
  ·cases h
 ·split at h
  ·rename_i a ha
   exact XQ (l := a.toList) (by rw [ha]) h
  ·cases h
 ·rename_i fn fi ca
  split at h
  ·split at h
   ·cases h;have e1 : fi = fi.toList.toArray := by simp
    have e2 : ca = ca.toList.toArray := by simp
    rw [e1, e2];exact zt ‹_› ‹_›
   ·cases h
  ·cases h
 ·rename_i c
  obtain ⟨callee, args, ats⟩ := c;dsimp only at h
  split at h
  ·split at h
   ·rename_i x t h1 h2
    split at h
    ·split at h
     ·cases h;have e1 : args = #[x] := by rw [← Array.toArray_toList (xs := args), h1]
      have e2 : ats = #[t] := by rw [← Array.toArray_toList (xs := ats), h2]
      subst e1 e2;exact j2 (hT.has ‹_›) ‹_›
     ·cases h
    ·cases h
   ·cases h
  ·cases h
 ·cases h
def stepG (T : Tab) (n : Nat) (g : Go1) (fs : List Fm) (env : Env) : Option (Go1 × List Fm × Env) := match g with
 | .code (.seq a b) => some (.code a, .thn b :: fs, env)
 | .code (.region _ l false) => some (.ops l.toList l.toList, fs, env)
 | .code (.block id c) => some (.code c, .blk id :: fs, env)
 | .code .skip => some (.exit .normal, fs, env)
 | .code .ret => some (.exit .ret, fs, env)
 | .code (.exit id) => some (.exit (.exit id), fs, env)
 | .code (.cond c a b) => match ev env c with
   | some (.bool true) => some (.code a, fs, env)
   | some (.bool false) => some (.code b, fs, env)
   | _ => none
 | .code _ => none
 | .ops _ [] => some (.exit .normal, fs, env)
 | .ops l0 (o :: l) => match o.dst with
   | none => none
   | some d => match Nat.blt d n with
     | false => none
     | true => match wanted l0 env o with
       | some false => some (.ops l0 l, fs, (d, undef) :: env)
       | some true => match pvT T env o.op with
         | some v => some (.ops l0 l, fs, (d, v) :: env)
         | none => none
       | none => none
 | .exit .normal => match fs with
   | .thn c :: fs => some (.code c, fs, env)
   | .blk _ :: fs => some (.exit .normal, fs, env)
   | [] => none
 | .exit .ret => match fs with
   | .thn _ :: fs => some (.exit .ret, fs, env)
   | .blk _ :: fs => some (.exit .ret, fs, env)
   | [] => none
 | .exit (.exit i) => match fs with
   | .thn _ :: fs => some (.exit (.exit i), fs, env)
   | .blk id :: fs => match Nat.beq i id with
     | true => some (.exit .normal, fs, env)
     | false => some (.exit (.exit i), fs, env)
   | [] => none
 | .exit _ => none
def runG (T : Tab) (n : Nat) : Nat → Go1 → List Fm → Env → Go1 × List Fm × Env
 | 0, g, fs, env => (g, fs, env)
 | k + 1, g, fs, env => match stepG T n g fs env with
   | some (g, fs, env) => runG T n k g fs env
   | none => (g, fs, env)
theorem ZB {P : Program} {T : Tab} (hT : TabOk P T) {n : Nat} {g g' : Go1} {fs fs' : List Fm} {env env' : Env} {m : Mp} {L : List Ent} {Q : Post} (h : stepG T n g fs env = some (g', fs', env')) (hk : Holds P n g' fs' env' m L Q) : Holds P n g fs env m L Q := by
 unfold stepG at h
 split at h
 ·cases h; exact WZ hk
 ·rename_i id l
  cases h;show TS P n (.region id l false) env m L _;have : l = l.toList.toArray := by simp
  rw [this];exact XN hk
 ·cases h; exact Wf hk
 ·cases h; exact Yh hk
 ·cases h; exact TS_ret hk
 ·cases h; exact TS_exit hk
 ·split at h
  ·cases h; exact TS_true ‹_› hk
  ·cases h; exact Wa ‹_› hk
  ·cases h
 ·cases h
 ·cases h; exact VS_nil hk
 ·split at h
  ·cases h
  ·split at h
   ·cases h
   ·split at h
    ·cases h; exact VS_skip ‹_› ‹_› ‹_› hk
    ·split at h
     ·cases h; exact Ye (uy hT ‹_›) ‹_› ‹_› ‹_› hk
     ·cases h
    ·cases h
 ·split at h
  ·cases h; exact Yj hk
  ·cases h; exact y8 hk
  ·cases h
 ·split at h
  ·cases h; exact zL hk
  ·cases h; exact zH hk
  ·cases h
 ·split at h
  ·cases h; exact km hk
  ·split at h
   ·rename_i hb
    cases h;have e := Nat.eq_of_beq_eq_true hb;subst e;exact zF hk
   ·cases h; exact kq ‹_› hk
  ·cases h
 ·cases h
theorem wr {P : Program} {T : Tab} (hT : TabOk P T) {n : Nat} {m : Mp} {L : List Ent} {Q : Post} : ∀ (k : Nat) {g g' : Go1} {fs fs' : List Fm} {env env' : Env}, runG T n k g fs env = (g', fs', env') → Holds P n g' fs' env' m L Q → Holds P n g fs env m L Q
 | 0, _, _, _, _, _, _, h, hk => by cases h; exact hk
 | k + 1, g, g', fs, fs', env, env', h, hk => by
   unfold runG at h
   split at h
   ·exact ZB hT ‹_› (wr hT k h hk)
   ·cases h; exact hk
def cmpO (env : Env) : Op → Option Prop
 | .binOp c _ x y _ => match ev env x, ev env y with
   | some (.int k a), some (.int k' b) => match decide (k = k') with
     | true => match c with
       | .eql => some (a = b)
       | .neq => some (¬ a = b)
       | .lss => some (a < b)
       | .leq => some (a ≤ b)
       | .gtr => some (b < a)
       | .geq => some (b ≤ a)
       | _ => none
     | false => none
   | some (.string s), some (.string u) => match c with
     | .eql => some (s.data.toList = u.data.toList)
     | .neq => some (¬ s.data.toList = u.data.toList)
     | _ => none
   | _, _ => none
 | _ => none
theorem Yd (s : ByteArray) : bs s.data.toList = s := by cases s; simp [bs]
theorem xL {P : Program} {n : Nat} {env : Env} {o : Oper} {p : Prop} (h : cmpO env o.op = some p) : (p → PureV P n o env (.bool true)) ∧ (¬ p → PureV P n o env (.bool false)) := by
 have gen : ∀ {q : Prop} [Decidable q], PureV P n o env (.bool (decide q)) → (q → PureV P n o env (.bool true)) ∧ (¬ q → PureV P n o env (.bool false)) := fun {q} _ hv => ⟨fun hq => by rwa [decide_eq_true hq] at hv, fun hq => by rwa [decide_eq_false hq] at hv⟩;obtain ⟨dst, op, ty, pos, aft, gd⟩ := o;change cmpO env op = some p at h;unfold cmpO at h
 split at h
 ·rename_i c t x y yt
  split at h
  ·rename_i k a k' b hx hy
   split at h
   ·rename_i hk
    have hk := of_decide_eq_true hk;subst hk
    split at h <;> first | (cases h) | skip
    ·exact gen (zz hx hy)
    ·exact gen (Zu hx hy)
    ·exact gen (yz hx hy)
    ·exact gen (qY hx hy)
    ·exact gen (vv hx hy)
    ·exact gen (xd hx hy)
   ·cases h
  ·rename_i s u hx hy
   rw [← Yd s] at hx;rw [← Yd u] at hy
   split at h <;> first | (cases h) | skip
   ·exact gen (qL hx hy)
   ·exact gen (jW hx hy)
  ·cases h
 ·cases h
class Reif (P : Program) (n : Nat) (Q : Post) (fs : outParam (List Fm)) (Q0 : outParam Post) : Prop where
 eq : Q = appQ P n fs Q0
instance (priority := low) {P : Program} {n : Nat} {Q : Post} : Reif P n Q [] Q := ⟨rfl⟩
instance {P : Program} {n : Nat} {Q : Post} {fs : List Fm} : Reif P n (appQ P n fs Q) fs Q := ⟨rfl⟩
instance {P : Program} {n : Nat} {Q Q0 : Post} {fs : List Fm} {c : Code} [r : Reif P n Q fs Q0] : Reif P n (thenQ P n c Q) (.thn c :: fs) Q0 := ⟨by rw [r.eq]; rfl⟩
instance {P : Program} {n : Nat} {Q Q0 : Post} {fs : List Fm} {i : Nat} [r : Reif P n Q fs Q0] : Reif P n (blockQ i Q) (.blk i :: fs) Q0 := ⟨by rw [r.eq]; rfl⟩
theorem runTS {P : Program} {T : Tab} (hT : TabOk P T) (k : Nat) {n : Nat} {c : Code} {env : Env} {m : Mp} {L : List Ent} {Q Q0 : Post} {fs : List Fm} {g' : Go1} {fs' : List Fm} {env' : Env} [r : Reif P n Q fs Q0] (h : runG T n k (.code c) fs env = (g', fs', env')) (hk : Holds P n g' fs' env' m L Q0) : TS P n c env m L Q := by
 rw [r.eq]; exact wr hT k h hk
theorem runVS {P : Program} {T : Tab} (hT : TabOk P T) (k : Nat) {n : Nat} {l0 l : List Oper} {env : Env} {m : Mp} {L : List Ent} {Q Q0 : Post} {fs : List Fm} {g' : Go1} {fs' : List Fm} {env' : Env} [r : Reif P n Q fs Q0] (h : runG T n k (.ops l0 l) fs env = (g', fs', env')) (hk : Holds P n g' fs' env' m L Q0) : VS P n l0 l env m L Q := by
 rw [r.eq]; exact wr hT k h hk
theorem readVS {P : Program} {T : Tab} (hT : TabOk P T) (k : Nat) {n d : Nat} {o : Oper} {v : Value} {l0 l : List Oper} {env : Env} {m : Mp} {L : List Ent} {Q Q0 : Post} {fs : List Fm} {g' : Go1} {fs' : List Fm} {env' : Env} [r : Reif P n Q fs Q0] (hr : ∀ h, HS m L h → ReadV P n o env h v) (hk : Holds P n g' fs' env' m L Q0)
  (hd : o.dst = some d) (hn : Nat.blt d n = true) (hw : wanted l0 env o = some true) (h : runG T n k (.ops l0 l) fs ((d, v) :: env) = (g', fs', env')) : VS P n l0 (o :: l) env m L Q := VS_read hr hd hn hw (runVS hT k h hk)
theorem pureVS {P : Program} {T : Tab} (hT : TabOk P T) (k : Nat) {n d : Nat} {o : Oper} {v : Value} {l0 l : List Oper} {env : Env} {m : Mp} {L : List Ent} {Q Q0 : Post} {fs : List Fm} {g' : Go1} {fs' : List Fm} {env' : Env} [r : Reif P n Q fs Q0] (hr : PureV P n o env v) (hk : Holds P n g' fs' env' m L Q0)
  (hd : o.dst = some d) (hn : Nat.blt d n = true) (hw : wanted l0 env o = some true) (h : runG T n k (.ops l0 l) fs ((d, v) :: env) = (g', fs', env')) : VS P n l0 (o :: l) env m L Q := Ye hr hd hn hw (runVS hT k h hk)
end Go.Eng
namespace Go.Eng
theorem Tk.h1 {x1 e : Ent} {r : List Ent} : Tk (x1 :: e :: r) e (x1 :: r) := .there .here
theorem Tk.h2 {x1 x2 e : Ent} {r : List Ent} : Tk (x1 :: x2 :: e :: r) e (x1 :: x2 :: r) := .there .h1
theorem Tk.h3 {x1 x2 x3 e : Ent} {r : List Ent} : Tk (x1 :: x2 :: x3 :: e :: r) e (x1 :: x2 :: x3 :: r) := .there .h2
theorem Tk.h4 {x1 x2 x3 x4 e : Ent} {r : List Ent} : Tk (x1 :: x2 :: x3 :: x4 :: e :: r) e (x1 :: x2 :: x3 :: x4 :: r) := .there .h3
theorem Tk.h5 {x1 x2 x3 x4 x5 e : Ent} {r : List Ent} : Tk (x1 :: x2 :: x3 :: x4 :: x5 :: e :: r) e (x1 :: x2 :: x3 :: x4 :: x5 :: r) := .there .h4
theorem Tk.h6 {x1 x2 x3 x4 x5 x6 e : Ent} {r : List Ent} : Tk (x1 :: x2 :: x3 :: x4 :: x5 :: x6 :: e :: r) e (x1 :: x2 :: x3 :: x4 :: x5 :: x6 :: r) := .there .h5
theorem Tk.h7 {x1 x2 x3 x4 x5 x6 x7 e : Ent} {r : List Ent} : Tk (x1 :: x2 :: x3 :: x4 :: x5 :: x6 :: x7 :: e :: r) e (x1 :: x2 :: x3 :: x4 :: x5 :: x6 :: x7 :: r) := .there .h6
theorem Tk.h8 {x1 x2 x3 x4 x5 x6 x7 x8 e : Ent} {r : List Ent} : Tk (x1 :: x2 :: x3 :: x4 :: x5 :: x6 :: x7 :: x8 :: e :: r) e (x1 :: x2 :: x3 :: x4 :: x5 :: x6 :: x7 :: x8 :: r) := .there .h7
theorem Tk.h9 {x1 x2 x3 x4 x5 x6 x7 x8 x9 e : Ent} {r : List Ent} : Tk (x1 :: x2 :: x3 :: x4 :: x5 :: x6 :: x7 :: x8 :: x9 :: e :: r) e (x1 :: x2 :: x3 :: x4 :: x5 :: x6 :: x7 :: x8 :: x9 :: r) := .there .h8
theorem Tk.h10 {x1 x2 x3 x4 x5 x6 x7 x8 x9 x10 e : Ent} {r : List Ent} : Tk (x1 :: x2 :: x3 :: x4 :: x5 :: x6 :: x7 :: x8 :: x9 :: x10 :: e :: r) e (x1 :: x2 :: x3 :: x4 :: x5 :: x6 :: x7 :: x8 :: x9 :: x10 :: r) := .there .h9
theorem Tk.h11 {x1 x2 x3 x4 x5 x6 x7 x8 x9 x10 x11 e : Ent} {r : List Ent} : Tk (x1 :: x2 :: x3 :: x4 :: x5 :: x6 :: x7 :: x8 :: x9 :: x10 :: x11 :: e :: r) e (x1 :: x2 :: x3 :: x4 :: x5 :: x6 :: x7 :: x8 :: x9 :: x10 :: x11 :: r) := .there .h10
theorem Tk.h12 {x1 x2 x3 x4 x5 x6 x7 x8 x9 x10 x11 x12 e : Ent} {r : List Ent} : Tk (x1 :: x2 :: x3 :: x4 :: x5 :: x6 :: x7 :: x8 :: x9 :: x10 :: x11 :: x12 :: e :: r) e (x1 :: x2 :: x3 :: x4 :: x5 :: x6 :: x7 :: x8 :: x9 :: x10 :: x11 :: x12 :: r) := .there .h11
theorem Tk.h13 {x1 x2 x3 x4 x5 x6 x7 x8 x9 x10 x11 x12 x13 e : Ent} {r : List Ent} : Tk (x1 :: x2 :: x3 :: x4 :: x5 :: x6 :: x7 :: x8 :: x9 :: x10 :: x11 :: x12 :: x13 :: e :: r) e (x1 :: x2 :: x3 :: x4 :: x5 :: x6 :: x7 :: x8 :: x9 :: x10 :: x11 :: x12 :: x13 :: r) := .there .h12
theorem Tk.h14 {x1 x2 x3 x4 x5 x6 x7 x8 x9 x10 x11 x12 x13 x14 e : Ent} {r : List Ent} : Tk (x1 :: x2 :: x3 :: x4 :: x5 :: x6 :: x7 :: x8 :: x9 :: x10 :: x11 :: x12 :: x13 :: x14 :: e :: r) e (x1 :: x2 :: x3 :: x4 :: x5 :: x6 :: x7 :: x8 :: x9 :: x10 :: x11 :: x12 :: x13 :: x14 :: r) := .there .h13
theorem Tk.h15 {x1 x2 x3 x4 x5 x6 x7 x8 x9 x10 x11 x12 x13 x14 x15 e : Ent} {r : List Ent} : Tk (x1 :: x2 :: x3 :: x4 :: x5 :: x6 :: x7 :: x8 :: x9 :: x10 :: x11 :: x12 :: x13 :: x14 :: x15 :: e :: r) e (x1 :: x2 :: x3 :: x4 :: x5 :: x6 :: x7 :: x8 :: x9 :: x10 :: x11 :: x12 :: x13 :: x14 :: x15 :: r) := .there .h14
theorem Tk.h16 {x1 x2 x3 x4 x5 x6 x7 x8 x9 x10 x11 x12 x13 x14 x15 x16 e : Ent} {r : List Ent} : Tk (x1 :: x2 :: x3 :: x4 :: x5 :: x6 :: x7 :: x8 :: x9 :: x10 :: x11 :: x12 :: x13 :: x14 :: x15 :: x16 :: e :: r) e (x1 :: x2 :: x3 :: x4 :: x5 :: x6 :: x7 :: x8 :: x9 :: x10 :: x11 :: x12 :: x13 :: x14 :: x15 :: x16 :: r) := .there .h15
theorem Sel.h1 {x1 e e' : Ent} {r : List Ent} : Sel (x1 :: e :: r) e e' (x1 :: e' :: r) := .there .here
theorem Sel.h2 {x1 x2 e e' : Ent} {r : List Ent} : Sel (x1 :: x2 :: e :: r) e e' (x1 :: x2 :: e' :: r) := .there .h1
theorem Sel.h3 {x1 x2 x3 e e' : Ent} {r : List Ent} : Sel (x1 :: x2 :: x3 :: e :: r) e e' (x1 :: x2 :: x3 :: e' :: r) := .there .h2
theorem Sel.h4 {x1 x2 x3 x4 e e' : Ent} {r : List Ent} : Sel (x1 :: x2 :: x3 :: x4 :: e :: r) e e' (x1 :: x2 :: x3 :: x4 :: e' :: r) := .there .h3
theorem Sel.h5 {x1 x2 x3 x4 x5 e e' : Ent} {r : List Ent} : Sel (x1 :: x2 :: x3 :: x4 :: x5 :: e :: r) e e' (x1 :: x2 :: x3 :: x4 :: x5 :: e' :: r) := .there .h4
theorem Sel.h6 {x1 x2 x3 x4 x5 x6 e e' : Ent} {r : List Ent} : Sel (x1 :: x2 :: x3 :: x4 :: x5 :: x6 :: e :: r) e e' (x1 :: x2 :: x3 :: x4 :: x5 :: x6 :: e' :: r) := .there .h5
theorem Sel.h7 {x1 x2 x3 x4 x5 x6 x7 e e' : Ent} {r : List Ent} : Sel (x1 :: x2 :: x3 :: x4 :: x5 :: x6 :: x7 :: e :: r) e e' (x1 :: x2 :: x3 :: x4 :: x5 :: x6 :: x7 :: e' :: r) := .there .h6
theorem Sel.h8 {x1 x2 x3 x4 x5 x6 x7 x8 e e' : Ent} {r : List Ent} : Sel (x1 :: x2 :: x3 :: x4 :: x5 :: x6 :: x7 :: x8 :: e :: r) e e' (x1 :: x2 :: x3 :: x4 :: x5 :: x6 :: x7 :: x8 :: e' :: r) := .there .h7
theorem Sel.h9 {x1 x2 x3 x4 x5 x6 x7 x8 x9 e e' : Ent} {r : List Ent} : Sel (x1 :: x2 :: x3 :: x4 :: x5 :: x6 :: x7 :: x8 :: x9 :: e :: r) e e' (x1 :: x2 :: x3 :: x4 :: x5 :: x6 :: x7 :: x8 :: x9 :: e' :: r) := .there .h8
theorem Sel.h10 {x1 x2 x3 x4 x5 x6 x7 x8 x9 x10 e e' : Ent} {r : List Ent} : Sel (x1 :: x2 :: x3 :: x4 :: x5 :: x6 :: x7 :: x8 :: x9 :: x10 :: e :: r) e e' (x1 :: x2 :: x3 :: x4 :: x5 :: x6 :: x7 :: x8 :: x9 :: x10 :: e' :: r) := .there .h9
theorem Sel.h11 {x1 x2 x3 x4 x5 x6 x7 x8 x9 x10 x11 e e' : Ent} {r : List Ent} : Sel (x1 :: x2 :: x3 :: x4 :: x5 :: x6 :: x7 :: x8 :: x9 :: x10 :: x11 :: e :: r) e e' (x1 :: x2 :: x3 :: x4 :: x5 :: x6 :: x7 :: x8 :: x9 :: x10 :: x11 :: e' :: r) := .there .h10
theorem Sel.h12 {x1 x2 x3 x4 x5 x6 x7 x8 x9 x10 x11 x12 e e' : Ent} {r : List Ent} : Sel (x1 :: x2 :: x3 :: x4 :: x5 :: x6 :: x7 :: x8 :: x9 :: x10 :: x11 :: x12 :: e :: r) e e' (x1 :: x2 :: x3 :: x4 :: x5 :: x6 :: x7 :: x8 :: x9 :: x10 :: x11 :: x12 :: e' :: r) := .there .h11
theorem Sel.h13 {x1 x2 x3 x4 x5 x6 x7 x8 x9 x10 x11 x12 x13 e e' : Ent} {r : List Ent} : Sel (x1 :: x2 :: x3 :: x4 :: x5 :: x6 :: x7 :: x8 :: x9 :: x10 :: x11 :: x12 :: x13 :: e :: r) e e' (x1 :: x2 :: x3 :: x4 :: x5 :: x6 :: x7 :: x8 :: x9 :: x10 :: x11 :: x12 :: x13 :: e' :: r) := .there .h12
theorem Sel.h14 {x1 x2 x3 x4 x5 x6 x7 x8 x9 x10 x11 x12 x13 x14 e e' : Ent} {r : List Ent} : Sel (x1 :: x2 :: x3 :: x4 :: x5 :: x6 :: x7 :: x8 :: x9 :: x10 :: x11 :: x12 :: x13 :: x14 :: e :: r) e e' (x1 :: x2 :: x3 :: x4 :: x5 :: x6 :: x7 :: x8 :: x9 :: x10 :: x11 :: x12 :: x13 :: x14 :: e' :: r) := .there .h13
theorem Sel.h15 {x1 x2 x3 x4 x5 x6 x7 x8 x9 x10 x11 x12 x13 x14 x15 e e' : Ent} {r : List Ent} : Sel (x1 :: x2 :: x3 :: x4 :: x5 :: x6 :: x7 :: x8 :: x9 :: x10 :: x11 :: x12 :: x13 :: x14 :: x15 :: e :: r) e e' (x1 :: x2 :: x3 :: x4 :: x5 :: x6 :: x7 :: x8 :: x9 :: x10 :: x11 :: x12 :: x13 :: x14 :: x15 :: e' :: r) := .there .h14
theorem Sel.h16 {x1 x2 x3 x4 x5 x6 x7 x8 x9 x10 x11 x12 x13 x14 x15 x16 e e' : Ent} {r : List Ent} : Sel (x1 :: x2 :: x3 :: x4 :: x5 :: x6 :: x7 :: x8 :: x9 :: x10 :: x11 :: x12 :: x13 :: x14 :: x15 :: x16 :: e :: r) e e' (x1 :: x2 :: x3 :: x4 :: x5 :: x6 :: x7 :: x8 :: x9 :: x10 :: x11 :: x12 :: x13 :: x14 :: x15 :: x16 :: e' :: r) := .there .h15
theorem USet.h1 {x1 u v : Value} {r : List Value} : USet (x1 :: u :: r) 1 v (x1 :: v :: r) := .there .here
theorem USet.h2 {x1 x2 u v : Value} {r : List Value} : USet (x1 :: x2 :: u :: r) 2 v (x1 :: x2 :: v :: r) := .there .h1
theorem USet.h3 {x1 x2 x3 u v : Value} {r : List Value} : USet (x1 :: x2 :: x3 :: u :: r) 3 v (x1 :: x2 :: x3 :: v :: r) := .there .h2
theorem USet.h4 {x1 x2 x3 x4 u v : Value} {r : List Value} : USet (x1 :: x2 :: x3 :: x4 :: u :: r) 4 v (x1 :: x2 :: x3 :: x4 :: v :: r) := .there .h3
theorem USet.h5 {x1 x2 x3 x4 x5 u v : Value} {r : List Value} : USet (x1 :: x2 :: x3 :: x4 :: x5 :: u :: r) 5 v (x1 :: x2 :: x3 :: x4 :: x5 :: v :: r) := .there .h4
theorem USet.h6 {x1 x2 x3 x4 x5 x6 u v : Value} {r : List Value} : USet (x1 :: x2 :: x3 :: x4 :: x5 :: x6 :: u :: r) 6 v (x1 :: x2 :: x3 :: x4 :: x5 :: x6 :: v :: r) := .there .h5
theorem USet.h7 {x1 x2 x3 x4 x5 x6 x7 u v : Value} {r : List Value} : USet (x1 :: x2 :: x3 :: x4 :: x5 :: x6 :: x7 :: u :: r) 7 v (x1 :: x2 :: x3 :: x4 :: x5 :: x6 :: x7 :: v :: r) := .there .h6
theorem USet.h8 {x1 x2 x3 x4 x5 x6 x7 x8 u v : Value} {r : List Value} : USet (x1 :: x2 :: x3 :: x4 :: x5 :: x6 :: x7 :: x8 :: u :: r) 8 v (x1 :: x2 :: x3 :: x4 :: x5 :: x6 :: x7 :: x8 :: v :: r) := .there .h7
theorem USet.h9 {x1 x2 x3 x4 x5 x6 x7 x8 x9 u v : Value} {r : List Value} : USet (x1 :: x2 :: x3 :: x4 :: x5 :: x6 :: x7 :: x8 :: x9 :: u :: r) 9 v (x1 :: x2 :: x3 :: x4 :: x5 :: x6 :: x7 :: x8 :: x9 :: v :: r) := .there .h8
theorem USet.h10 {x1 x2 x3 x4 x5 x6 x7 x8 x9 x10 u v : Value} {r : List Value} : USet (x1 :: x2 :: x3 :: x4 :: x5 :: x6 :: x7 :: x8 :: x9 :: x10 :: u :: r) 10 v (x1 :: x2 :: x3 :: x4 :: x5 :: x6 :: x7 :: x8 :: x9 :: x10 :: v :: r) := .there .h9
theorem USet.h11 {x1 x2 x3 x4 x5 x6 x7 x8 x9 x10 x11 u v : Value} {r : List Value} : USet (x1 :: x2 :: x3 :: x4 :: x5 :: x6 :: x7 :: x8 :: x9 :: x10 :: x11 :: u :: r) 11 v (x1 :: x2 :: x3 :: x4 :: x5 :: x6 :: x7 :: x8 :: x9 :: x10 :: x11 :: v :: r) := .there .h10
theorem USet.h12 {x1 x2 x3 x4 x5 x6 x7 x8 x9 x10 x11 x12 u v : Value} {r : List Value} : USet (x1 :: x2 :: x3 :: x4 :: x5 :: x6 :: x7 :: x8 :: x9 :: x10 :: x11 :: x12 :: u :: r) 12 v (x1 :: x2 :: x3 :: x4 :: x5 :: x6 :: x7 :: x8 :: x9 :: x10 :: x11 :: x12 :: v :: r) := .there .h11
theorem USet.h13 {x1 x2 x3 x4 x5 x6 x7 x8 x9 x10 x11 x12 x13 u v : Value} {r : List Value} : USet (x1 :: x2 :: x3 :: x4 :: x5 :: x6 :: x7 :: x8 :: x9 :: x10 :: x11 :: x12 :: x13 :: u :: r) 13 v (x1 :: x2 :: x3 :: x4 :: x5 :: x6 :: x7 :: x8 :: x9 :: x10 :: x11 :: x12 :: x13 :: v :: r) := .there .h12
theorem USet.h14 {x1 x2 x3 x4 x5 x6 x7 x8 x9 x10 x11 x12 x13 x14 u v : Value} {r : List Value} : USet (x1 :: x2 :: x3 :: x4 :: x5 :: x6 :: x7 :: x8 :: x9 :: x10 :: x11 :: x12 :: x13 :: x14 :: u :: r) 14 v (x1 :: x2 :: x3 :: x4 :: x5 :: x6 :: x7 :: x8 :: x9 :: x10 :: x11 :: x12 :: x13 :: x14 :: v :: r) := .there .h13
theorem USet.h15 {x1 x2 x3 x4 x5 x6 x7 x8 x9 x10 x11 x12 x13 x14 x15 u v : Value} {r : List Value} : USet (x1 :: x2 :: x3 :: x4 :: x5 :: x6 :: x7 :: x8 :: x9 :: x10 :: x11 :: x12 :: x13 :: x14 :: x15 :: u :: r) 15 v (x1 :: x2 :: x3 :: x4 :: x5 :: x6 :: x7 :: x8 :: x9 :: x10 :: x11 :: x12 :: x13 :: x14 :: x15 :: v :: r) := .there .h14
theorem USet.h16 {x1 x2 x3 x4 x5 x6 x7 x8 x9 x10 x11 x12 x13 x14 x15 x16 u v : Value} {r : List Value} : USet (x1 :: x2 :: x3 :: x4 :: x5 :: x6 :: x7 :: x8 :: x9 :: x10 :: x11 :: x12 :: x13 :: x14 :: x15 :: x16 :: u :: r) 16 v (x1 :: x2 :: x3 :: x4 :: x5 :: x6 :: x7 :: x8 :: x9 :: x10 :: x11 :: x12 :: x13 :: x14 :: x15 :: x16 :: v :: r) := .there .h15
theorem Tks.k0 { e : Ent} {r : List Ent} : Tks (e :: r) [e] (r) := .cons .here .nil
theorem Tks.k1 {x1 e : Ent} {r : List Ent} : Tks (x1 :: e :: r) [e] (x1 :: r) := .cons .h1 .nil
theorem Tks.k2 {x1 x2 e : Ent} {r : List Ent} : Tks (x1 :: x2 :: e :: r) [e] (x1 :: x2 :: r) := .cons .h2 .nil
theorem Tks.k3 {x1 x2 x3 e : Ent} {r : List Ent} : Tks (x1 :: x2 :: x3 :: e :: r) [e] (x1 :: x2 :: x3 :: r) := .cons .h3 .nil
theorem Tks.k4 {x1 x2 x3 x4 e : Ent} {r : List Ent} : Tks (x1 :: x2 :: x3 :: x4 :: e :: r) [e] (x1 :: x2 :: x3 :: x4 :: r) := .cons .h4 .nil
theorem Tks.k5 {x1 x2 x3 x4 x5 e : Ent} {r : List Ent} : Tks (x1 :: x2 :: x3 :: x4 :: x5 :: e :: r) [e] (x1 :: x2 :: x3 :: x4 :: x5 :: r) := .cons .h5 .nil
theorem Pick.p0 { e : Ent} {r : List Ent} : Pick (e :: r) [e] := .cons .here (.nil _)
theorem Pick.p1 {x1 e : Ent} {r : List Ent} : Pick (x1 :: e :: r) [e] := .cons .h1 (.nil _)
theorem Pick.p2 {x1 x2 e : Ent} {r : List Ent} : Pick (x1 :: x2 :: e :: r) [e] := .cons .h2 (.nil _)
theorem Pick.p9 {x1 x2 x3 x4 x5 x6 x7 x8 x9 e : Ent} {r : List Ent} : Pick (x1 :: x2 :: x3 :: x4 :: x5 :: x6 :: x7 :: x8 :: x9 :: e :: r) [e] := .cons .h9 (.nil _)
theorem Pick.pp {a b : Ent} {r : List Ent} : Pick (a :: b :: r) [a, b] := .cons .here .p0
class Pans (Q : Post) (Q0 : outParam Post) : Prop where
 h : ∀ ch env h, Q0 (.panic ch) env h → Q (.panic ch) env h
instance (priority := low) {Q : Post} : Pans Q Q := ⟨fun _ _ _ h => h⟩
instance {P : Program} {n : Nat} {c : Code} {Q Q0 : Post} [r : Pans Q Q0] : Pans (thenQ P n c Q) Q0 := ⟨fun ch env h k => r.h ch env h k⟩
instance {i : Nat} {Q Q0 : Post} [r : Pans Q Q0] : Pans (blockQ i Q) Q0 := ⟨fun ch env h k => r.h ch env h k⟩
theorem jP {P : Program} {n : Nat} {Q : Post} {ch : List PanicEntry} {env : Env} {h : Heap} : ∀ fs : List Fm, Q (.panic ch) env h → appQ P n fs Q (.panic ch) env h
 | [], hq => hq
 | .thn _ :: r, hq => jP r hq
 | .blk _ :: r, hq => jP r hq
instance {P : Program} {n : Nat} {fs : List Fm} {Q Q0 : Post} [r : Pans Q Q0] : Pans (appQ P n fs Q) Q0 := ⟨fun ch env h k => jP fs (r.h ch env h k)⟩
theorem zp {Q Q0 : Post} {ch : List PanicEntry} {env : Env} {m : Mp} {L : List Ent} [r : Pans Q Q0] (hq : QS Q0 (.panic ch) env m L) : QS Q (.panic ch) env m L := fun h hs => r.h _ _ _ (hq h hs)
theorem pn {P : Program} {rs : List ResultVar} {Q : Post} {env : Env} {m : Mp} {L : List Ent} {post ppost : Value → List Ent → Prop} {v : Value} [Pans Q (retP P rs (postS m post) (postS m ppost))] (hq : ppost v []) : QS Q (.panic (pan v)) env m L := zp (QS_pan [] (Pick.nil _) hq)
theorem pW {P : Program} {rs : List ResultVar} {Q : Post} {env : Env} {m m2 : Mp} {L : List Ent} {post ppost : Value → List Ent → Prop} {v : Value} [Pans Q (retP P rs (postS m post) (postS m ppost))] (hl : Le m m2) (hq : ppost v []) : QS Q (.panic (pan v)) env m2 L := zp fun h hs => ⟨v, rfl, [], hq, (Pick.nil _ m2 h hs).weaken hl⟩
def sq : List Nat → OB → OB
 | [], t => t
 | i :: r, t => match Nat.blt i 100 with
   | true => .step i true (sq r t)
   | false => .step (i - 100) false (sq r t)
def sT : List Nat → OT → OT
 | [], t => t
 | i :: r, t => match Nat.blt i 100 with
   | true => .step i .pure (sT r t)
   | false => match Nat.blt i 200 with
     | true => .step (i - 100) .read (sT r t)
     | false => match Nat.blt i 300 with
       | true => .step (i - 200) .kept (sT r t)
       | false => .step (i - 300) .wild (sT r t)
def runOB (T : Tab) (n : Nat) (l : List Oper) : Nat → OB → Env → OB × Env
 | 0, t, env => (t, env)
 | k + 1, t0, env => match t0 with
   | .step i true t => match nth l i with
     | some o => match o.dst with
       | some d => match Nat.blt d n with
         | true => match wanted l env o with
           | some true => match pvT T env o.op with
             | some v => runOB T n l k t ((d, v) :: env)
             | none => (t0, env)
           | some false => runOB T n l k t ((d, undef) :: env)
           | none => (t0, env)
         | false => (t0, env)
       | none => (t0, env)
     | none => (t0, env)
   | _ => (t0, env)
theorem vG {P : Program} {T : Tab} (hT : TabOk P T) {n : Nat} {l : List Oper} {m : Mp} {L : List Ent} {Q : Post} : ∀ (k : Nat) {t t' : OB} {env env' : Env}, runOB T n l k t env = (t', env') → VBS P n l t' env' m L Q → VBS P n l t env m L Q := by
 intro k
 induction k with
 | zero => intro t t' env env' h hk; unfold runOB at h; cases h; exact hk
 | succ k ih =>
   intro t t' env env' h hk;unfold runOB at h
   split at h
   ·split at h
    ·rename_i ho
     split at h
     ·rename_i hd
      split at h
      ·rename_i hn
       split at h
       ·rename_i hw
        split at h
        ·rename_i hv
         have h2 := ih h hk;exact Zo ho (uy hT hv) hd hn hw h2
        ·cases h; exact hk
       ·rename_i hw
        have h2 := ih h hk;exact WV ho hw hd hn h2
       ·cases h; exact hk
      ·cases h; exact hk
     ·cases h; exact hk
    ·cases h; exact hk
   ·cases h; exact hk
def runOT (T : Tab) (n : Nat) (l : List Oper) : Nat → OT → Env → OT × Env
 | 0, t, env => (t, env)
 | k + 1, t0, env => match t0 with
   | .step i kd t => match kd.quiet with
     | true => match nth l i with
       | some o => match o.dst with
         | some d => match Nat.blt d n with
           | true => match wanted l env o with
             | some true => match kd with
               | .pure => match pvT T env o.op with
                 | some v => runOT T n l k t ((d, v) :: env)
                 | none => (t0, env)
               | _ => (t0, env)
             | some false => runOT T n l k t ((d, undef) :: env)
             | none => (t0, env)
           | false => (t0, env)
         | none => (t0, env)
       | none => (t0, env)
     | false => (t0, env)
   | _ => (t0, env)
theorem vF {P : Program} {T : Tab} (hT : TabOk P T) {n : Nat} {l : List Oper} {wild : Nat → Bool} {m : Mp} {L : List Ent} {Q : Post} : ∀ (k : Nat) {t t' : OT} {env env' : Env}, runOT T n l k t env = (t', env') → VTS P n l wild t' env' m L Q → VTS P n l wild t env m L Q := by
 intro k
 induction k with
 | zero => intro t t' env env' h hk; unfold runOT at h; cases h; exact hk
 | succ k ih =>
   intro t t' env env' h hk;unfold runOT at h
   split at h
   ·rename_i kd _
    split at h
    ·rename_i hq
     split at h
     ·rename_i ho
      split at h
      ·rename_i hd
       split at h
       ·rename_i hn
        split at h
        ·rename_i hw
         split at h
         ·split at h
          ·rename_i hv
           have h2 := ih h hk;exact Zn ho (uy hT hv) hd hn hw h2
          ·cases h; exact hk
         ·cases h; exact hk
        ·rename_i hw
         have h2 := ih h hk;exact WT hq ho hw hd hn h2
        ·cases h; exact hk
       ·cases h; exact hk
      ·cases h; exact hk
     ·cases h; exact hk
    ·cases h; exact hk
   ·cases h; exact hk
theorem rt1 {P : Program} {rs : List ResultVar} {env : Env} {m : Mp} {L : List Ent} {post : Value → List Ent → Prop} {v : Value} (hv : RvsS P env L rs [v]) (hq : post (tup [v]) []) : QS (retC P rs (postS m post)) .ret env m L := zb [v] hv [] (Pick.nil _) hq
theorem rt2 {P : Program} {rs : List ResultVar} {env : Env} {m m2 : Mp} {L : List Ent} {post : Value → List Ent → Prop} {v : Value} (hl : Le m m2) (hv : RvsS P env L rs [v]) (hq : post (tup [v]) []) : QS (retC P rs (postS m post)) .ret env m2 L := kn hl [v] hv [] (Pick.nil _) hq
theorem QR {α : Type} {S : α → Env} {LL : α → List Ent} {F : α → Prop} {μ : α → Nat} {k : Nat} {Q : Post} {env : Env} {m : Mp} {L : List Ent} (y : α) (hp : Pick L (LL y)) (hF : F y) (hk : μ y < k) (hs : Sub (S y) env := by (repeat (first | exact trivial | refine ⟨rfl, ?_⟩))) : QS (roundS m S LL F μ k Q) .normal env m L := xZ y hs hp hF hk
theorem runQS {P : Program} {T : Tab} (hT : TabOk P T) (k : Nat) {n : Nat} {e : Exit} {env : Env} {m : Mp} {L : List Ent} {Q Q0 : Post} {fs : List Fm} {g' : Go1} {fs' : List Fm} {env' : Env} [r : Reif P n Q fs Q0] (h : runG T n k (.exit e) fs env = (g', fs', env')) (hk : Holds P n g' fs' env' m L Q0) : QS Q e env m L := by
 rw [r.eq]; exact wr hT k (g := .exit e) h hk
end Go.Eng
