/- A Hoare logic over heaps for the model's code, and its lemmas, one an operation: all are proved here. No condition. -/
import Derived.Test.YtigfdclopkagmaaDoorEng
namespace Go.Eng

/-- a part of the heap: its blocks, and what is there -/
structure Ent where
  dom : Nat → Bool
  inv : Mp → Prop
  loc : ∀ {m m' : Mp}, (∀ k, dom k = true → m' k = m k) → inv m → inv m'
  has : ∀ {m : Mp} {k : Nat}, inv m → dom k = true → m k ≠ none

/-- one block -/
def blk (b : Nat) (o : Obj) : Ent where
  dom := fun k => Nat.beq b k
  inv := fun m => m b = some o
  loc := fun {m m'} h hi => by rw [h b (by simp)]; exact hi
  has := fun {m k} hi hk => by
    have := Nat.eq_of_beq_eq_true hk
    subst this
    rw [hi]
    exact fun e => by cases e
/-- a block of cells -/
abbrev cel (b : Nat) (l : List Value) (t : TypeId) : Ent := blk b (.cells l.toArray t (0, 0))
/-- a slice of the call's own -/
def own (e sz : Nat) (A : Option Addr) (n c : Nat) (xs : List Value) : Ent where
  dom := inB A
  inv := fun m => Own m e sz A n c xs
  loc := fun h hi => hi.of_eq h
  has := fun hi hk => by
    obtain ⟨cur, hm⟩ := hi.at_ hk
    rw [hm]
    exact fun e => by cases e

/-- the heap: the base stays as it is; each entry holds; they lie apart -/
structure HS (m : Mp) (L : List Ent) (h : Heap) : Prop where
  base : Le m (mp h)
  inv : ∀ e ∈ L, e.inv (mp h)
  out : ∀ e ∈ L, ∀ k, e.dom k = true → m k = none
  apart : L.Pairwise fun a b => ∀ k, a.dom k = true → b.dom k = false

theorem HS.nil {m : Mp} {h : Heap} (hl : Le m (mp h)) : HS m [] h := ⟨hl, (fun e he => by cases he), (fun e he => by cases he), List.Pairwise.nil⟩

/-- entry by entry -/
theorem HS.cons_iff {m : Mp} {e : Ent} {L : List Ent} {h : Heap} : HS m (e :: L) h ↔ HS m L h ∧ e.inv (mp h) ∧ (∀ k, e.dom k = true → m k = none) ∧ ∀ x ∈ L, ∀ k, e.dom k = true → x.dom k = false := by
  constructor
  · intro ⟨h1, h2, h3, h4⟩
    rw [List.pairwise_cons] at h4
    exact ⟨⟨h1, fun x hx => h2 x (List.mem_cons_of_mem _ hx), fun x hx => h3 x (List.mem_cons_of_mem _ hx), h4.2⟩, h2 e (by simp), h3 e (by simp), h4.1⟩
  · intro ⟨⟨h1, h2, h3, h4⟩, g1, g2, g3⟩
    refine ⟨h1, fun x hx => ?_, fun x hx => ?_, List.pairwise_cons.2 ⟨g3, h4⟩⟩
    · rcases List.mem_cons.1 hx with rfl | hx
      · exact g1
      · exact h2 x hx
    · rcases List.mem_cons.1 hx with rfl | hx
      · exact g2
      · exact h3 x hx
theorem HS.tail {m : Mp} {e : Ent} {L : List Ent} {h : Heap} (hs : HS m (e :: L) h) : HS m L h := (HS.cons_iff.1 hs).1
theorem HS.head {m : Mp} {e : Ent} {L : List Ent} {h : Heap} (hs : HS m (e :: L) h) : e.inv (mp h) := (HS.cons_iff.1 hs).2.1

/-- one entry taken out -/
inductive Tk : List Ent → Ent → List Ent → Prop
  | here {e : Ent} {r : List Ent} : Tk (e :: r) e r
  | there {x e : Ent} {r r' : List Ent} (h : Tk r e r') : Tk (x :: r) e (x :: r')
/-- one entry put in another's place -/
inductive Sel : List Ent → Ent → Ent → List Ent → Prop
  | here {e e' : Ent} {r : List Ent} : Sel (e :: r) e e' (e' :: r)
  | there {x e e' : Ent} {r r' : List Ent} (h : Sel r e e' r') : Sel (x :: r) e e' (x :: r')
theorem Tk.mem {L : List Ent} {e : Ent} {r : List Ent} (h : Tk L e r) : ∀ x, x ∈ L ↔ x = e ∨ x ∈ r := by
  induction h with
  | here => intro x; simp
  | there _ ih => intro x; simp only [List.mem_cons, ih]; exact or_left_comm
theorem HS.take {m : Mp} {L : List Ent} {e : Ent} {r : List Ent} {h : Heap} (ht : Tk L e r) : HS m L h → HS m (e :: r) h := by
  induction ht with
  | here => exact id
  | @there x e r r' ht ih =>
    intro hs
    obtain ⟨h1, h2, h3, h4⟩ := HS.cons_iff.1 hs
    have h5 := ih h1
    obtain ⟨g1, g2, g3, g4⟩ := HS.cons_iff.1 h5
    refine HS.cons_iff.2 ⟨HS.cons_iff.2 ⟨g1, h2, h3, fun y hy => h4 y ((ht.mem y).2 (.inr hy))⟩, g2, g3, fun y hy k hk => ?_⟩
    rcases List.mem_cons.1 hy with rfl | hy
    · cases hd : y.dom k with
      | false => rfl
      | true => have := h4 e ((ht.mem e).2 (.inl rfl)) k hd; rw [hk] at this; cases this
    · exact g4 y hy k hk
theorem HS.untake {m : Mp} {L : List Ent} {e : Ent} {r : List Ent} {h : Heap} (ht : Tk L e r) : HS m (e :: r) h → HS m L h := by
  induction ht with
  | here => exact id
  | @there x e r r' ht ih =>
    intro hs
    obtain ⟨h1, h2, h3, h4⟩ := HS.cons_iff.1 hs
    obtain ⟨g1, g2, g3, g4⟩ := HS.cons_iff.1 h1
    refine HS.cons_iff.2 ⟨ih (HS.cons_iff.2 ⟨g1, h2, h3, fun y hy => h4 y (List.mem_cons_of_mem _ hy)⟩), g2, g3, fun y hy k hk => ?_⟩
    rcases (ht.mem y).1 hy with rfl | hy
    · cases hd : y.dom k with
      | false => rfl
      | true => have := h4 x (by simp) k hd; rw [hk] at this; cases this
    · exact g4 y hy k hk
theorem Sel.split {L : List Ent} {e e' : Ent} {L' : List Ent} (hs : Sel L e e' L') : ∃ r, Tk L e r ∧ Tk L' e' r := by
  induction hs with
  | here => exact ⟨_, .here, .here⟩
  | there _ ih => obtain ⟨r, h1, h2⟩ := ih; exact ⟨_, .there h1, .there h2⟩
theorem HS.sel {m : Mp} {L L' : List Ent} {e e' : Ent} {h h' : Heap} (hs : Sel L e e' L') (hh : HS m L h) (hk : ∀ r, HS m (e :: r) h → HS m (e' :: r) h') : HS m L' h' := by
  obtain ⟨r, h1, h2⟩ := hs.split
  exact (hk r (hh.take h1)).untake h2

theorem mp_none_iff {h : Heap} {b : Nat} : mp h b = none ↔ h.size ≤ b := by unfold mp; rw [Array.getElem?_eq_none_iff]

/-- the first entry changes: the rest stays -/
theorem HS.upd {m : Mp} {e e' : Ent} {r : List Ent} {h h' : Heap} (hs : HS m (e :: r) h) (ho : ∀ k, k < h.size → e.dom k = false → mp h' k = mp h k) (hi : e'.inv (mp h')) (hd : ∀ k, e'.dom k = true → e.dom k = true ∨ h.size ≤ k) : HS m (e' :: r) h' := by
  obtain ⟨⟨h1, h2, h3, h5⟩, g1, g2, g3⟩ := HS.cons_iff.1 hs
  have same : ∀ x ∈ r, ∀ k, x.dom k = true → mp h' k = mp h k := fun x hx k hk => by
    refine ho k ?_ ?_
    · rcases Nat.lt_or_ge k h.size with hlt | hge
      · exact hlt
      · exact absurd (mp_none_iff.2 hge) (x.has (h2 x hx) hk)
    · cases he : e.dom k with
      | false => rfl
      | true => have := g3 x hx k he; rw [hk] at this; cases this
  refine HS.cons_iff.2 ⟨⟨fun k o hk => ?_, fun x hx => x.loc (same x hx) (h2 x hx), h3, h5⟩, hi, fun k hk => ?_, fun x hx k hk => ?_⟩
  · have h6 := h1 k o hk
    rw [ho k (mp_some h6) ?_]
    · exact h6
    · cases he : e.dom k with
      | false => rfl
      | true => rw [g2 k he] at hk; cases hk
  · rcases hd k hk with he | he
    · exact g2 k he
    · cases hm : m k with
      | none => rfl
      | some o => have := mp_some (h1 k o hm); omega
  · cases hxk : x.dom k with
    | false => rfl
    | true =>
      rcases hd k hk with he | he
      · have := g3 x hx k he; rw [hxk] at this; cases this
      · exact absurd (mp_none_iff.2 he) (x.has (h2 x hx) hxk)
/-- a new entry: all else stays -/
theorem HS.new {m : Mp} {e' : Ent} {r : List Ent} {h h' : Heap} (hs : HS m r h) (hl : Le (mp h) (mp h')) (hi : e'.inv (mp h')) (hd : ∀ k, e'.dom k = true → mp h k = none) : HS m (e' :: r) h' := by
  have h0 : HS m (⟨fun _ => false, fun _ => True, fun _ _ => trivial, fun _ h => by cases h⟩ :: r) h := HS.cons_iff.2 ⟨hs, trivial, fun k hk => by (exact absurd hk (by simp)), fun x hx k hk => by (exact absurd hk (by simp))⟩
  refine h0.upd (fun k hk _ => ?_) hi fun k hk => .inr (mp_none_iff.1 (hd k hk))
  have : mp h k = some h[k] := by simp [mp, hk]
  rw [this]
  exact hl _ _ this
/-- what only adds to the heap keeps it -/
theorem HS.le {m : Mp} {r : List Ent} {h h' : Heap} (hs : HS m r h) (hl : Le (mp h) (mp h')) : HS m r h' :=
  (hs.new (e' := ⟨fun _ => false, fun _ => True, fun _ _ => trivial, fun _ h => by cases h⟩) hl trivial fun k hk => by (exact absurd hk (by simp))).tail

/-! ### fewer entries, in another order -/
def Pick (L L' : List Ent) : Prop := ∀ (m : Mp) (h : Heap), HS m L h → HS m L' h
theorem Pick.refl (L : List Ent) : Pick L L := fun _ _ h => h
theorem Pick.nil (L : List Ent) : Pick L [] := fun _ _ h => HS.nil h.base
theorem Pick.cons {L L' r : List Ent} {e : Ent} (ht : Tk L e r) (hp : Pick r L') : Pick L (e :: L') := fun m h hs => by
  have h0 := hs.take ht
  obtain ⟨h1, h2, h3, h4⟩ := HS.cons_iff.1 h0
  have h5 := hp m h h1
  refine HS.cons_iff.2 ⟨h5, h2, h3, fun x hx k hk => ?_⟩
  -- an entry of L' has no block of e
  have key : HS (fun j => if e.dom j then mp h j else m j) r h := by
    refine ⟨fun j o hj => ?_, h1.inv, fun x hx j hj => ?_, h1.apart⟩
    · split at hj
      · exact hj
      · exact h1.base j o hj
    · split
      · rename_i he
        have := h4 x hx j he
        rw [hj] at this
        cases this
      · exact h1.out x hx j hj
  cases hxk : x.dom k with
  | false => rfl
  | true =>
    have h6 := (hp _ h key).out x hx k hxk
    simp only [hk, if_true] at h6
    exact absurd h6 (e.has h2 hk)
theorem Pick.drop {L : List Ent} {e : Ent} : Pick (e :: L) L := fun _ _ hs => hs.tail

/-! ### the walk over such heaps -/
section
variable {P : Program} {n : Nat} {env : Env} {m : Mp} {L : List Ent} {Q : Post}

def TS (P : Program) (n : Nat) (c : Code) (env : Env) (m : Mp) (L : List Ent) (Q : Post) : Prop := ∀ h, HS m L h → T P n c env h Q
def QS (Q : Post) (e : Exit) (env : Env) (m : Mp) (L : List Ent) : Prop := ∀ h, HS m L h → Q e env h
def VS (P : Program) (n : Nat) (l0 l : List Oper) (env : Env) (m : Mp) (L : List Ent) (Q : Post) : Prop := ∀ h, HS m L h → V P n l0 l env h Q
def VTS (P : Program) (n : Nat) (l : List Oper) (wild : Nat → Bool) (t : OT) (env : Env) (m : Mp) (L : List Ent) (Q : Post) : Prop := ∀ h, HS m L h → VT P n l wild t env h Q

theorem TS_seq {a b : Code} (ht : TS P n a env m L (thenQ P n b Q)) : TS P n (.seq a b) env m L Q := fun h hs => T_seq (ht h hs)
theorem TS_block {c : Code} {id : Nat} (ht : TS P n c env m L (blockQ id Q)) : TS P n (.block id c) env m L Q := fun h hs => T_block (ht h hs)
theorem TS_scope {c : Code} (ht : TS P n c env m L (scopeQ Q)) : TS P n (.scope c) env m L Q := fun h hs => T_scope (ht h hs)
theorem TS_skip (hq : QS Q .normal env m L) : TS P n .skip env m L Q := fun h hs => T_skip (hq h hs)
theorem TS_label {l : Nat} (hq : QS Q .normal env m L) : TS P n (.label l) env m L Q := fun h hs => T_label (hq h hs)
theorem TS_exit {id : Nat} (hq : QS Q (.exit id) env m L) : TS P n (.exit id) env m L Q := fun h hs => T_exit (hq h hs)
theorem TS_ret (hq : QS Q .ret env m L) : TS P n .ret env m L Q := fun h hs => T_ret (hq h hs)
theorem TS_true {c : Operand} {a b : Code} (hc : ev env c = some (.bool true)) (ht : TS P n a env m L Q) : TS P n (.cond c a b) env m L Q := fun h hs => T_true hc (ht h hs)
theorem TS_false {c : Operand} {a b : Code} (hc : ev env c = some (.bool false)) (ht : TS P n b env m L Q) : TS P n (.cond c a b) env m L Q := fun h hs => T_false hc (ht h hs)
theorem TS_cond {c : Operand} {a b : Code} {t : Bool} (hc : ev env c = some (.bool t)) (h1 : t = true → TS P n a env m L Q) (h2 : t = false → TS P n b env m L Q) : TS P n (.cond c a b) env m L Q := fun h hs => T_cond hc (fun e => h1 e h hs) (fun e => h2 e h hs)
theorem TS_keep {c : Code} (r : Env) (hr : Sub r env) (ht : TS P n c r m L Q) : TS P n c env m L Q := fun h hs => T_keep r hr (ht h hs)
theorem TS_pick {c : Code} (L' : List Ent) (hp : Pick L L') (ht : TS P n c env m L' Q) : TS P n c env m L Q := fun h hs => ht h (hp m h hs)
theorem VS_pick {l0 l : List Oper} (L' : List Ent) (hp : Pick L L') (ht : VS P n l0 l env m L' Q) : VS P n l0 l env m L Q := fun h hs => ht h (hp m h hs)
theorem QS_pick {e : Exit} (L' : List Ent) (hp : Pick L L') (ht : QS Q e env m L') : QS Q e env m L := fun h hs => ht h (hp m h hs)

theorem QS_then {c : Code} (ht : TS P n c env m L Q) : QS (thenQ P n c Q) .normal env m L := fun h hs => thenQ_normal (ht h hs)
theorem QS_then_exit {c : Code} {i : Nat} (hq : QS Q (.exit i) env m L) : QS (thenQ P n c Q) (.exit i) env m L := fun h hs => thenQ_exit (hq h hs)
theorem QS_then_ret {c : Code} (hq : QS Q .ret env m L) : QS (thenQ P n c Q) .ret env m L := fun h hs => thenQ_ret (hq h hs)
theorem QS_block {id : Nat} (hq : QS Q .normal env m L) : QS (blockQ id Q) .normal env m L := fun h hs => blockQ_normal (hq h hs)
theorem QS_block_here {id : Nat} (hq : QS Q .normal env m L) : QS (blockQ id Q) (.exit id) env m L := fun h hs => blockQ_here (hq h hs)
theorem QS_block_out {id i : Nat} (hne : Nat.beq i id = false) (hq : QS Q (.exit i) env m L) : QS (blockQ id Q) (.exit i) env m L := fun h hs => blockQ_out hne (hq h hs)
theorem QS_block_ret {id : Nat} (hq : QS Q .ret env m L) : QS (blockQ id Q) .ret env m L := fun h hs => blockQ_ret (hq h hs)
theorem QS_scope (hq : QS Q .normal env m L) : QS (scopeQ Q) .normal env m L := fun h hs => scopeQ_normal (hq h hs)
theorem QS_scope_exit {i : Nat} (hq : QS Q (.exit i) env m L) : QS (scopeQ Q) (.exit i) env m L := fun h hs => scopeQ_exit (hq h hs)
theorem QS_scope_ret (hq : QS Q .ret env m L) : QS (scopeQ Q) .ret env m L := fun h hs => scopeQ_ret (hq h hs)

/-- a round's end -/
def roundS {α : Type} (m : Mp) (S : α → Env) (LL : α → List Ent) (F : α → Prop) (μ : α → Nat) (k : Nat) (Q : Post) : Post := roundQ S (fun y h => F y ∧ HS m (LL y) h) μ k Q
theorem QS_round_exit {α : Type} {S : α → Env} {LL : α → List Ent} {F : α → Prop} {μ : α → Nat} {k i : Nat} (hq : QS Q (.exit i) env m L) : QS (roundS m S LL F μ k Q) (.exit i) env m L := fun h hs => roundQ_exit (hq h hs)
theorem QS_round_ret {α : Type} {S : α → Env} {LL : α → List Ent} {F : α → Prop} {μ : α → Nat} {k : Nat} (hq : QS Q .ret env m L) : QS (roundS m S LL F μ k Q) .ret env m L := fun h hs => roundQ_ret (hq h hs)
theorem QS_round {α : Type} {S : α → Env} {LL : α → List Ent} {F : α → Prop} {μ : α → Nat} {k : Nat} (y : α) (hs : Sub (S y) env) (hp : Pick L (LL y)) (hF : F y) (hk : μ y < k) : QS (roundS m S LL F μ k Q) .normal env m L :=
  fun h hh => ⟨y, hs, ⟨hF, hp m h hh⟩, hk⟩
theorem TS_loop {α : Type} {c : Code} (S : α → Env) (LL : α → List Ent) (F : α → Prop) (μ : α → Nat) (y : α) (hs : Sub (S y) env) (hp : Pick L (LL y)) (hF : F y)
    (hr : ∀ (y : α), F y → TS P n c (S y) m (LL y) (roundS m S LL F μ (μ y) Q)) : TS P n (.loop c) env m L Q :=
  fun h hh => T_loop S (fun y h => F y ∧ HS m (LL y) h) μ y hs ⟨hF, hp m h hh⟩ fun y h ⟨h1, h2⟩ => hr y h1 h h2
/-- the walk cut: what is known behind a piece of code -/
theorem TS_cut {α : Type} {a b : Code} (S : α → Env) (LL : α → List Ent) (F : α → Prop) (h1 : TS P n a env m L (roundS m S LL F (fun _ => 0) 1 Q)) (h2 : ∀ y, F y → TS P n b (S y) m (LL y) Q) : TS P n a env m L (thenQ P n b Q) :=
  fun h hh => T_cut S (fun y h => F y ∧ HS m (LL y) h) (h1 h hh) fun y h ⟨a1, a2⟩ => h2 y a1 h a2

/-- the same behind two pieces of code -/
theorem TS_cut2 {α : Type} {a c b : Code} (S : α → Env) (LL : α → List Ent) (F : α → Prop) (h1 : TS P n a env m L (thenQ P n c (roundS m S LL F (fun _ => 0) 1 Q))) (h2 : ∀ y, F y → TS P n b (S y) m (LL y) Q) : TS P n a env m L (thenQ P n (.seq c b) Q) := by
  intro h hh
  refine T_mono (h1 h hh) ?_
  intro e env' h' hq
  have key : ∀ e env' h', roundS m S LL F (fun _ => 0) 1 Q e env' h' → thenQ P n b Q e env' h' := by
    intro e env' h' hq
    cases e with
    | normal =>
      obtain ⟨y, hs, ⟨hF, hH⟩, _⟩ := hq
      exact T_keep (S y) hs (h2 y hF h' hH)
    | exit i => exact hq
    | goto l => exact hq
    | ret => exact hq
    | panic c => exact hq
    | outgrown => exact hq
  cases e with
  | normal => exact T_seq (T_mono hq key)
  | exit i => exact hq
  | goto l => exact hq
  | ret => exact hq
  | panic c => exact hq
  | outgrown => exact hq

theorem TS_cut3 {α : Type} {a c b : Code} (S : α → Env) (LL : α → List Ent) (F : α → Prop) (h1 : TS P n a env m L (thenQ P n c (roundS m S LL F (fun _ => 0) 1 Q))) (h2 : ∀ y, F y → TS P n b (S y) m (LL y) Q) : TS P n a env m L (thenQ P n c (thenQ P n b Q)) := by
  intro h hh
  refine T_mono (h1 h hh) ?_
  intro e env' h' hq
  have key : ∀ e env' h', roundS m S LL F (fun _ => 0) 1 Q e env' h' → thenQ P n b Q e env' h' := by
    intro e env' h' hq
    cases e with
    | normal =>
      obtain ⟨y, hs, ⟨hF, hH⟩, _⟩ := hq
      exact T_keep (S y) hs (h2 y hF h' hH)
    | exit i => exact hq
    | goto l => exact hq
    | ret => exact hq
    | panic c => exact hq
    | outgrown => exact hq
  cases e with
  | normal => exact T_mono hq key
  | exit i => exact hq
  | goto l => exact hq
  | ret => exact hq
  | panic c => exact hq
  | outgrown => exact hq

/-! ### operations -/
variable {l0 l : List Oper} {o : Oper} {v : Value} {d : Nat}
theorem TS_region {id : Nat} (hv : VS P n l0 l0 env m L Q) : TS P n (.region id l0.toArray false) env m L Q := fun h hs => T_region (hv h hs)
theorem VS_nil (hq : QS Q .normal env m L) : VS P n l0 [] env m L Q := fun h hs => V_nil (hq h hs)
theorem VS_pure (hr : PureV P n o env v) (hd : o.dst = some d) (hn : Nat.blt d n = true) (hw : wanted l0 env o = some true) (hk : VS P n l0 l ((d, v) :: env) m L Q) : VS P n l0 (o :: l) env m L Q := fun h hs => V_pure hr hd hn hw (hk h hs)
theorem VS_read (hr : ∀ h, HS m L h → ReadV P n o env h v) (hd : o.dst = some d) (hn : Nat.blt d n = true) (hw : wanted l0 env o = some true) (hk : VS P n l0 l ((d, v) :: env) m L Q) : VS P n l0 (o :: l) env m L Q := fun h hs => V_read (hr h hs) hd hn hw (hk h hs)
theorem VS_skip (hw : wanted l0 env o = some false) (hd : o.dst = some d) (hn : Nat.blt d n = true) (hk : VS P n l0 l ((d, undef) :: env) m L Q) : VS P n l0 (o :: l) env m L Q := fun h hs => V_skip hw hd hn (hk h hs)
theorem VS_if {p : Prop} [Decidable p] (hr : PureV P n o env (.bool (decide p))) (hd : o.dst = some d) (hn : Nat.blt d n = true) (hw : wanted l0 env o = some true)
    (h1 : p → VS P n l0 l ((d, .bool true) :: env) m L Q) (h2 : ¬ p → VS P n l0 l ((d, .bool false) :: env) m L Q) : VS P n l0 (o :: l) env m L Q := fun h hs => V_if hr hd hn hw (fun hp => h1 hp h hs) (fun hp => h2 hp h hs)
theorem VS_keep (r : Env) (hr : Sub r env) (hk : VS P n l0 l r m L Q) : VS P n l0 l env m L Q := fun h hs => V_keep r hr (hk h hs)

/-- an effect: what it does to the heap's entries -/
def StepS (P : Program) (n : Nat) (Q : Post) (o : Oper) (env : Env) (m : Mp) (L : List Ent) (kept : Bool) (K : Env → List Ent → Prop) : Prop :=
  ∀ h, HS m L h → Step P n Q o env h fun env' h' => (kept = true → Le (mp h) (mp h')) ∧ ∃ L', HS m L' h' ∧ K env' L'
theorem VS_step {kept : Bool} (hs : StepS P n Q o env m L kept fun env' L' => VS P n l0 l env' m L' Q) (hw : wanted l0 env o = some true) : VS P n l0 (o :: l) env m L Q :=
  fun h hh => V_step ((hs h hh).mono fun _ _ ⟨_, _, h1, h2⟩ => h2 _ h1) hw

/-! drawn regions -/
variable {wild : Nat → Bool} {t : OT} {i : Nat}
theorem TS_draw {id : Nat} (t : OT) (hm : P.follows .mixedOrders = true) (hck : checkT l t = true) (hQ : ∀ c env env' h, Q (.panic c) env h → Q (.panic c) env' h)
    (hv : VTS P n l (wildT t) t env m L Q) : TS P n (.region id l.toArray true) env m L Q := fun h hs => T_drawT t hm hck hQ (hv h hs)
theorem VTS_nil (hq : QS Q .normal env m L) : VTS P n l wild .done env m L Q := fun h hs => VT_nil (hq h hs)
theorem VTS_fork {s : OT} (h1 : VTS P n l wild s env m L Q) (h2 : VTS P n l wild t env m L Q) : VTS P n l wild (.fork s t) env m L Q := fun h hs => VT_fork (h1 h hs) (h2 h hs)
theorem VTS_pure (ho : nth l i = some o) (hr : PureV P n o env v) (hd : o.dst = some d) (hn : Nat.blt d n = true) (hw : wanted l env o = some true) (hk : VTS P n l wild t ((d, v) :: env) m L Q) : VTS P n l wild (.step i .pure t) env m L Q := fun h hs => VT_pure ho hr hd hn hw (hk h hs)
theorem VTS_read (ho : nth l i = some o) (hr : ∀ h, HS m L h → ReadV P n o env h v) (hd : o.dst = some d) (hn : Nat.blt d n = true) (hw : wanted l env o = some true) (hk : VTS P n l wild t ((d, v) :: env) m L Q) : VTS P n l wild (.step i .read t) env m L Q := fun h hs => VT_read ho (hr h hs) hd hn hw (hk h hs)
theorem VTS_readp (ho : nth l i = some o) (hr : PureV P n o env v) (hd : o.dst = some d) (hn : Nat.blt d n = true) (hw : wanted l env o = some true) (hk : VTS P n l wild t ((d, v) :: env) m L Q) : VTS P n l wild (.step i .read t) env m L Q := fun h hs => VT_read ho hr.read hd hn hw (hk h hs)
theorem VTS_skip {k : Kd} (hq : k.quiet = true) (ho : nth l i = some o) (hw : wanted l env o = some false) (hd : o.dst = some d) (hn : Nat.blt d n = true) (hk : VTS P n l wild t ((d, undef) :: env) m L Q) : VTS P n l wild (.step i k t) env m L Q := fun h hs => VT_skip hq ho hw hd hn (hk h hs)
theorem VTS_skipE {k : Kd} (hq : k.quiet = false) (ho : nth l i = some o) (hw : wanted l env o = some false) (hd : o.dst = some d) (hn : Nat.blt d n = true) (hk : VTS P n l wild t ((d, undef) :: env) m L Q) : VTS P n l wild (.step i k t) env m L Q := fun h hs => VT_skipE hq ho hw hd hn (hk h hs)
theorem VTS_if {p : Prop} [Decidable p] (ho : nth l i = some o) (hr : PureV P n o env (.bool (decide p))) (hd : o.dst = some d) (hn : Nat.blt d n = true) (hw : wanted l env o = some true)
    (h1 : p → VTS P n l wild t ((d, .bool true) :: env) m L Q) (h2 : ¬ p → VTS P n l wild t ((d, .bool false) :: env) m L Q) : VTS P n l wild (.step i .pure t) env m L Q := fun h hs => VT_if ho hr hd hn hw (fun hp => h1 hp h hs) (fun hp => h2 hp h hs)
theorem VTS_kept (ho : nth l i = some o) (hs : StepS P n Q o env m L true fun env' L' => VTS P n l wild t env' m L' Q) (hw : wanted l env o = some true) : VTS P n l wild (.step i .kept t) env m L Q :=
  fun h hh => VT_kept ho ((hs h hh).mono fun _ _ ⟨h0, _, h1, h2⟩ => ⟨h0 rfl, h2 _ h1⟩) hw
theorem VTS_wild {kept : Bool} (ho : nth l i = some o) (hwl : wild i = true) (hs : StepS P n Q o env m L kept fun env' L' => VTS P n l wild t env' m L' Q) (hw : wanted l env o = some true) : VTS P n l wild (.step i .wild t) env m L Q :=
  fun h hh => VT_wild ho hwl ((hs h hh).mono fun _ _ ⟨_, _, h1, h2⟩ => h2 _ h1) hw
theorem VTS_keep (r : Env) (hr : Sub r env) (hk : VTS P n l wild t r m L Q) : VTS P n l wild t env m L Q := fun h hs x d a ha => hk h hs x d a (ha.sub hr)
theorem VTS_pick (L' : List Ent) (hp : Pick L L') (hk : VTS P n l wild t env m L' Q) : VTS P n l wild t env m L Q := fun h hs => hk h (hp m h hs)
end

/-! ### reads -/
section
variable {P : Program} {n : Nat} {env : Env} {m : Mp} {L r : List Ent} {Q : Post} {K : Env → List Ent → Prop} {dst : Option Tmp} {d : Nat} {ty : TypeId} {pos : String} {aft : Array Edge} {gd : Option (Nat × Bool)} {t : TypeId} {x y : Operand} {v : Value} {kept : Bool}

theorem HS.get {h : Heap} {e : Ent} (hs : HS m L h) (ht : Tk L e r) : e.inv (mp h) := hs.inv e ((ht.mem e).2 (.inl rfl))
/-- a cell of the base -/
theorem S_load {a : Addr} (ht : single P t = true) (hx : ev env x = some (.pointer (some a))) (hc : mc m a = some v) : ∀ h, HS m L h → ReadV P n ⟨dst, .load t x, ty, pos, aft, gd⟩ env h v :=
  fun _ hs => R_load ht hx (mc_mono hs.base hc)
theorem S_loadAt {a : Addr} {l : List Value} {q : Nat} (ht : aggSize P t = some q) (hx : ev env x = some (.pointer (some a))) (hl : l.length = q) (hc : At m a l) : ∀ h, HS m L h → ReadV P n ⟨dst, .load t x, ty, pos, aft, gd⟩ env h (.agg l.toArray) :=
  fun _ hs => R_loadAt ht hx hl (hc.mono hs.base)
/-- a cell of an entry -/
theorem S_loadB {b i : Nat} {l : List Value} {e : TypeId} (ht : single P t = true) (hx : ev env x = some (.pointer (some ⟨b, i, none⟩))) (hT : Tk L (cel b l e) r) (hv : vnth l i = some v) : ∀ h, HS m L h → ReadV P n ⟨dst, .load t x, ty, pos, aft, gd⟩ env h v :=
  fun _ hs => R_load ht hx (mc_blk (hs.get hT) hv)
theorem S_loadBA {b q : Nat} {l : List Value} {e : TypeId} (ht : aggSize P t = some q) (hx : ev env x = some (.pointer (some ⟨b, 0, none⟩))) (hT : Tk L (cel b l e) r) (hl : l.length = q) : ∀ h, HS m L h → ReadV P n ⟨dst, .load t x, ty, pos, aft, gd⟩ env h (.agg l.toArray) :=
  fun _ hs => R_loadAt ht hx hl (At.blk (hs.get hT))
theorem S_loadBO {b o q : Nat} {l : List Value} {e : TypeId} (ht : aggSize P t = some q) (hx : ev env x = some (.pointer (some ⟨b, o, none⟩))) (hT : Tk L (cel b l e) r) (hl : ((l.drop o).take q).length = q) : ∀ h, HS m L h → ReadV P n ⟨dst, .load t x, ty, pos, aft, gd⟩ env h (.agg ((l.drop o).take q).toArray) :=
  fun _ hs => R_loadAt ht hx hl (At.blkO (hs.get hT))
/-- a cell of a slice of the call's own -/
theorem S_loadO {A : Option Addr} {e sz k c i : Nat} {xs : List Value} (ht : single P t = true) (hx : ev env x = some (.pointer (some ((sa A).add i)))) (hT : Tk L (own e sz A k c xs) r) (hv : xs[i]? = some v) : ∀ h, HS m L h → ReadV P n ⟨dst, .load t x, ty, pos, aft, gd⟩ env h v :=
  fun _ hs => R_load ht hx ((Own.rd (hs.get hT)).at_ hv)
theorem S_loadOA {A : Option Addr} {e sz k c i q : Nat} {xs : List Value} (ht : aggSize P t = some q) (hx : ev env x = some (.pointer (some ((sa A).add i)))) (hT : Tk L (own e sz A k c xs) r) (hl : ((xs.drop i).take q).length = q) : ∀ h, HS m L h → ReadV P n ⟨dst, .load t x, ty, pos, aft, gd⟩ env h (.agg ((xs.drop i).take q).toArray) :=
  fun _ hs => R_loadAt ht hx hl ((Own.rd (hs.get hT)).elem i q)
theorem S_bstr {A : Option Addr} {k c src dk : Nat} {l : List UInt8} (hs : isBytes P src = true) (hd : isStr P dk = true) (hx : ev env x = some (.slice A k c)) (hm : l.length = k) (hr : Rd m A (l.map byteV)) :
    ∀ h, HS m L h → ReadV P n ⟨dst, .convert src dk x, ty, pos, aft, gd⟩ env h (.string (bs l)) := fun _ hh => R_bstr hs hd hx hm (hr.mono hh.base)

/-! ### new blocks -/
theorem S_box {elem : TypeId} (hx : ev env x = some v) (hn : Nat.blt d n = true) (hk : ∀ b, K ((d, .pointer (some ⟨b, 0, none⟩)) :: env) (cel b v.cells.toList elem :: L)) : StepS P n Q ⟨some d, .box elem x, ty, pos, aft, gd⟩ env m L true K := fun h hs =>
  E_box hx hn fun b h' hn' hb hl => ⟨fun _ => hl, _, hs.new (e' := cel b v.cells.toList elem) hl (by show mp h' b = _; simpa using hb) fun k hk => by have := Nat.eq_of_beq_eq_true hk; subst this; exact hn', hk b⟩
theorem S_alloc {elem : TypeId} {z : List Value} (hz : zeroL P elem = some z) (hn : Nat.blt d n = true) (hk : ∀ b, K ((d, .pointer (some ⟨b, 0, none⟩)) :: env) (cel b z elem :: L)) : StepS P n Q ⟨some d, .alloc elem, ty, pos, aft, gd⟩ env m L true K := fun h hs =>
  E_alloc hz hn fun b h' hn' hb hl => ⟨fun _ => hl, _, hs.new (e' := cel b z elem) hl hb fun k hk => by have := Nat.eq_of_beq_eq_true hk; subst this; exact hn', hk b⟩
theorem S_buildSlice {len e sz by_ : Nat} {z cs : List Value} {parts : List (Nat × Operand)} {ps : List (Nat × Value)} (hs : slInfo P t = some (e, sz, by_, z)) (hx : evp env parts = some ps)
    (hsmall : Nat.ble (len * sz) 16777216 = true) (hf : fillS sz (rowZ (if len * sz = 0 then [] else z) (len * sz)) ps = some cs) (hn : Nat.blt d n = true)
    (hk : ∀ b, K ((d, .slice (some ⟨b, 0, none⟩) len len) :: env) (cel b cs e :: L)) : StepS P n Q ⟨some d, .buildSlice t len parts.toArray, ty, pos, aft, gd⟩ env m L true K := fun h hh =>
  E_buildSlice hs hx hsmall hf hn fun b h' hn' hb hl => ⟨fun _ => hl, _, hh.new (e' := cel b cs e) hl hb fun k hk => by have := Nat.eq_of_beq_eq_true hk; subst this; exact hn', hk b⟩

/-! ### stores -/
/-- a cell of a row of cells, put in another's place -/
inductive USet : List Value → Nat → Value → List Value → Prop
  | here {u v : Value} {r : List Value} : USet (u :: r) 0 v (v :: r)
  | there {u v : Value} {r r' : List Value} {i : Nat} (h : USet r i v r') : USet (u :: r) (i + 1) v (u :: r')
theorem USet.eq {l l' : List Value} {i : Nat} (h : USet l i v l') : i < l.length ∧ l' = l.set i v := by
  induction h with
  | here => simp
  | there _ ih => obtain ⟨h1, h2⟩ := ih; exact ⟨by simp; omega, by simp [h2]⟩
theorem dom_cel {b k : Nat} {o : Obj} (hk : (blk b o).dom k = true) : k = b := (Nat.eq_of_beq_eq_true hk).symm
theorem S_store {b i : Nat} {l l' : List Value} {e : TypeId} {L' : List Ent} (ht : cells1 P t = true) (hx : ev env x = some (.pointer (some ⟨b, i, none⟩))) (hy : ev env y = some v) (hv : oneV v = true)
    (hT : Sel L (cel b l e) (cel b l' e) L') (hu : USet l i v l') (hk : K env L') : StepS P n Q ⟨none, .store t x y, ty, pos, aft, gd⟩ env m L false K := fun h hs => by
  obtain ⟨r, h1, h2⟩ := hT.split
  obtain ⟨hi, rfl⟩ := hu.eq
  have h3 := hs.take h1
  refine E_store ht hx hy hv (show mp h b = some (.cells l.toArray e (0, 0)) from h3.head) (by simpa [Nat.blt_eq] using hi) fun h' g1 g2 g3 => ⟨(fun hf => by cases hf), L', (h3.upd (e' := cel b (l.set i v) e) (fun k _ hk => g2 k ?_) g1 fun k hk => .inl hk).untake h2, hk⟩
  rintro rfl
  simp [blk] at hk
theorem S_storeAgg {b q : Nat} {l vs : List Value} {e : TypeId} {L' : List Ent} (ht : aggSize P t = some q) (hx : ev env x = some (.pointer (some ⟨b, 0, none⟩))) (hy : ev env y = some (.agg vs.toArray)) (hq : Nat.beq vs.length q = true)
    (hT : Sel L (cel b l e) (cel b vs e) L') (hl : Nat.beq l.length q = true) (h1 : vs.all oneV = true) (hk : K env L') : StepS P n Q ⟨none, .store t x y, ty, pos, aft, gd⟩ env m L false K := fun h hs => by
  obtain ⟨r, g1, g2⟩ := hT.split
  have h3 := hs.take g1
  refine E_storeAgg ht hx hy hq (show mp h b = some (.cells l.toArray e (0, 0)) from h3.head) hl h1 fun h' k1 k2 k3 => ⟨(fun hf => by cases hf), L', (h3.upd (e' := cel b vs e) (fun k _ hk => k2 k ?_) k1 fun k hk => .inl hk).untake g2, hk⟩
  rintro rfl
  simp [blk] at hk
theorem S_storeO {A : Option Addr} {e k c i : Nat} {xs : List Value} {L' : List Ent} (ht : cells1 P t = true) (hx : ev env x = some (.pointer (some ((sa A).add i)))) (hy : ev env y = some v) (hv : oneV v = true)
    (hT : Sel L (own e 1 A k c xs) (own e 1 A k c (xs.set i v)) L') (hi : i < k) (hk : K env L') : StepS P n Q ⟨none, .store t x y, ty, pos, aft, gd⟩ env m L false K := fun h hs => by
  obtain ⟨r, h1, h2⟩ := hT.split
  have h3 := hs.take h1
  exact E_storeOwn ht hx hy hv (show Own (mp h) e 1 A k c xs from h3.head) hi fun h' g1 g2 g3 => ⟨(fun hf => by cases hf), L', (h3.upd (e' := own e 1 A k c (xs.set i v)) (fun k _ hk => g2 k hk) g1 fun k hk => .inl hk).untake h2, hk⟩

/-! ### append -/
theorem Own.ofCel {m : Mp} {b e sz k : Nat} {l : List Value} (hb : m b = some (.cells l.toArray e (0, 0))) (hl : l.length = k * sz) (hm : k ≤ maxLen) : Own m e sz (some ⟨b, 0, none⟩) k k l := Own.new hb hl hm
theorem S_appendR {A A2 : Option Addr} {k c j c2 e sz by_ : Nat} {z xs news : List Value} {L' : Option Addr → Nat → List Ent} (hs : slInfo P t = some (e, sz, by_, z)) (hsz : Nat.blt 0 sz = true) (hzl : z.length = sz)
    (hx : ev env x = some (.slice A k c)) (hy : ev env y = some (.slice A2 j c2)) (hT : ∀ A' c', Sel L (own e sz A k c xs) (own e sz A' (k + j) c' (xs ++ news)) (L' A' c')) (hr : ∀ h, HS m L h → Rd (mp h) A2 news) (hl : news.length = j * sz) (h1 : ∀ u ∈ news, oneV u = true)
    (hm : k + j ≤ maxLen) (hb : (k + j) * by_ ≤ 140737488355328) (hn : Nat.blt d n = true) (hk : ∀ A' c', K ((d, .slice A' (k + j) c') :: env) (L' A' c')) :
    StepS P n Q ⟨some d, .call ⟨.builtin .append, #[x, y], #[t, t]⟩, ty, pos, aft, gd⟩ env m L false K := fun h hh => by
  obtain ⟨r, h2, _⟩ := (hT none 0).split
  have h3 := hh.take h2
  refine E_append hs hsz hzl hx hy (show Own (mp h) e sz A k c xs from h3.head) (hr h hh) hl h1 hm hb hn fun A' c' h' g1 g2 => ⟨(fun hf => by cases hf), L' A' c', ?_, hk A' c'⟩
  refine hh.sel (hT A' c') fun r h4 => h4.upd (e' := own e sz A' (k + j) c' (xs ++ news)) (fun i hi hd => g2.other i hi ?_) g1 fun i hi => ?_
  · intro e
    have hd' : inB A i = false := hd
    simp [inB, ← e] at hd'
  · have : inB A' i = true := hi
    simp only [inB, beq_iff_eq] at this
    rcases g2.at_ with e | e
    · left; show inB A i = true; rw [e] at this; simp [inB, this]
    · right; rw [e] at this; injection this with this; omega
/-- of a slice literal -/
theorem S_append {A : Option Addr} {b k c j c2 e e2 sz by_ : Nat} {z xs news : List Value} {L' : Option Addr → Nat → List Ent} {r : List Ent} (hs : slInfo P t = some (e, sz, by_, z)) (hsz : Nat.blt 0 sz = true) (hzl : z.length = sz)
    (hx : ev env x = some (.slice A k c)) (hy : ev env y = some (.slice (some ⟨b, 0, none⟩) j c2)) (hT2 : Tk L (cel b news e2) r) (hT : ∀ A' c', Sel L (own e sz A k c xs) (own e sz A' (k + j) c' (xs ++ news)) (L' A' c')) (hl : news.length = j * sz) (h1 : news.all oneV = true)
    (hm : k + j ≤ maxLen) (hb : (k + j) * by_ ≤ 140737488355328) (hn : Nat.blt d n = true) (hk : ∀ A' c', K ((d, .slice A' (k + j) c') :: env) (L' A' c')) :
    StepS P n Q ⟨some d, .call ⟨.builtin .append, #[x, y], #[t, t]⟩, ty, pos, aft, gd⟩ env m L false K :=
  S_appendR hs hsz hzl hx hy hT (fun _ hh => Rd.blk (hh.get hT2)) hl (by rw [List.all_eq_true] at h1; exact h1) hm hb hn hk
/-- a nil slice, as one of the call's own -/
theorem HS.nilOwn {h : Heap} (e sz : Nat) (hs : HS m L h) : HS m (own e sz none 0 0 [] :: L) h := HS.cons_iff.2 ⟨hs, Own.nil _ _ _, (fun k hk => by cases hk), (fun x hx k hk => by cases hk)⟩
theorem HS.celOwn {h : Heap} {b e sz k : Nat} {l : List Value} (hl : l.length = k * sz) (hm : k ≤ maxLen) (hs : HS m (cel b l e :: L) h) : HS m (own e sz (some ⟨b, 0, none⟩) k k l :: L) h :=
  hs.upd (fun _ _ _ => rfl) (Own.ofCel hs.head hl hm) fun j hj => .inl (by have : inB (some ⟨b, 0, none⟩) j = true := hj; simp [inB, ownB] at this; subst this; exact Nat.beq_refl _)
theorem TS_nilOwn {c : Code} (e sz : Nat) (ht : TS P n c env m (own e sz none 0 0 [] :: L) Q) : TS P n c env m L Q := fun h hs => ht h (hs.nilOwn e sz)
theorem VS_nilOwn {l0 l : List Oper} (e sz : Nat) (ht : VS P n l0 l env m (own e sz none 0 0 [] :: L) Q) : VS P n l0 l env m L Q := fun h hs => ht h (hs.nilOwn e sz)
theorem VS_celOwn {l0 l : List Oper} {b e sz k : Nat} {cs : List Value} {L' : List Ent} (hT : Sel L (cel b cs e) (own e sz (some ⟨b, 0, none⟩) k k cs) L') (hl : cs.length = k * sz) (hm : k ≤ maxLen) (ht : VS P n l0 l env m L' Q) : VS P n l0 l env m L Q :=
  fun h hs => ht h (hs.sel hT fun _ h2 => h2.celOwn hl hm)

/-! ### ranges over strings -/
def iter (b : Nat) (s : List UInt8) (p : Nat) : Ent := blk b (.stringIter (bs s) p)
theorem S_range {s : List UInt8} (ht : isStr P t = true) (hx : ev env x = some (.string (bs s))) (hn : Nat.blt d n = true) (hk : ∀ b, K ((d, .pointer (some ⟨b, 0, none⟩)) :: env) (iter b s 0 :: L)) : StepS P n Q ⟨some d, .range t x, ty, pos, aft, gd⟩ env m L true K := fun h hs =>
  step_of_run rfl hn fun fx dr a ha => by
    refine ⟨h.push (.stringIter (bs s) 0), dr, ?_, fun _ => mp_push h _, _, hs.new (e' := iter h.size s 0) (mp_push h _) (mp_push_new h _) (fun k hk => by have := dom_cel hk; subst this; exact mp_none h), hk _⟩
    have := run_range_string (P := P) (W fx h dr) t (bs s) (str_of ht)
    simp only [execOp, ha.eval hx, this, Sem.run_bind, Result.andThen_ok]
    rfl
theorem S_next {b p : Nat} {s : List UInt8} {L' : List Ent} (hx : ev env x = some (.pointer (some ⟨b, 0, none⟩))) (hp : p < s.length) (hT : Sel L (iter b s p) (iter b s (p + (Utf8.decode (bs s) p).2)) L') (hn : Nat.blt d n = true)
    (hk : K ((d, .tuple [.bool true, .int .i64 p, .int .i32 (Utf8.decode (bs s) p).1].toArray) :: env) L') : StepS P n Q ⟨some d, .next x true, ty, pos, aft, gd⟩ env m L false K := fun h hs => by
  obtain ⟨r, h1, h2⟩ := hT.split
  have h3 := hs.take h1
  have hb : h[b]? = some (.stringIter (bs s) p) := h3.head
  have hsz : p < (bs s).size := by rw [bs_size]; exact hp
  refine step_of_run (v := .tuple [.bool true, .int .i64 p, .int .i32 (Utf8.decode (bs s) p).1].toArray) rfl hn fun fx dr a ha => ?_
  have hblt : b < h.size := by have := (Array.getElem?_eq_some_iff.1 hb).1; exact this
  refine ⟨h.setIfInBounds b (.stringIter (bs s) (p + (Utf8.decode (bs s) p).2)), dr, ?_, (fun hf => by cases hf), L', (h3.upd (e' := iter b s (p + (Utf8.decode (bs s) p).2)) (fun k _ hk => ?_) (by show mp _ b = _; simp [mp, hblt]) fun k hk => .inl hk).untake h2, hk⟩
  · have hb' : (W fx h dr).heap[b]? = some (.stringIter (bs s) p) := hb
    simp only [execOp, ha.eval hx, Instr.next, getObj, setObj, Sem.run_bind, Sem.run, hb', Result.andThen, hsz, if_true]
    simp [goInt, Sem.run, hb', W]
  · have hne : b ≠ k := by rintro rfl; simp [iter, blk] at hk
    simp [mp, Array.getElem?_setIfInBounds, hne]
theorem S_nextEnd {b p : Nat} {s : List UInt8} {r : List Ent} (hx : ev env x = some (.pointer (some ⟨b, 0, none⟩))) (hp : ¬ p < s.length) (hT : Tk L (iter b s p) r) (hn : Nat.blt d n = true)
    (hk : K ((d, .tuple [.bool false].toArray) :: env) L) : StepS P n Q ⟨some d, .next x true, ty, pos, aft, gd⟩ env m L true K := fun h hs => by
  have hb : h[b]? = some (.stringIter (bs s) p) := hs.get hT
  have hsz : ¬ p < (bs s).size := by rw [bs_size]; exact hp
  refine step_of_run rfl hn fun fx dr a ha => ⟨h, dr, ?_, fun _ => Le.refl _, L, hs, hk⟩
  have hb' : (W fx h dr).heap[b]? = some (.stringIter (bs s) p) := hb
  simp [execOp, ha.eval hx, Instr.next, getObj, Sem.run, hb', hsz]
end

/-! ### calls -/
/-- A function's contract: which of the heap it needs, what it leaves there; all else stays. -/
def CS (P : Program) (f : FuncId) (args : List Value) (m : Mp) (pre : List Ent) (post : Value → List Ent → Prop) : Prop :=
  ∀ h, HS m pre h → C P f args.toArray h fun v h' => ∃ L', post v L' ∧ HS m L' h'
def postS (m : Mp) (post : Value → List Ent → Prop) : Value → Heap → Prop := fun v h' => ∃ L', post v L' ∧ HS m L' h'
theorem CS.mono {P : Program} {f : FuncId} {args : List Value} {m : Mp} {pre : List Ent} {post post' : Value → List Ent → Prop} (hc : CS P f args m pre post) (hp : ∀ v L', post v L' → post' v L') : CS P f args m pre post' :=
  fun h hs => (hc h hs).mono fun _ _ ⟨L', h1, h2⟩ => ⟨L', hp _ _ h1, h2⟩
/-- the value of results -/
def RvS (P : Program) (env : Env) (L : List Ent) : ResultVar → Value → Prop
  | .tmp t, v => lk env t = some v
  | .cell a t, v => ∃ b l tt r, lk env a = some (.pointer (some ⟨b, 0, none⟩)) ∧ Tk L (cel b l tt) r ∧ ((single P t = true ∧ l = [v]) ∨ (aggSize P t = some l.length ∧ v = .agg l.toArray))
def RvsS (P : Program) (env : Env) (L : List Ent) : List ResultVar → List Value → Prop
  | [], [] => True
  | r :: rs, v :: vs => RvS P env L r v ∧ RvsS P env L rs vs
  | _, _ => False
theorem RvsS.ok {P : Program} {env : Env} {m : Mp} {L : List Ent} {h : Heap} (hs : HS m L h) : ∀ {rs : List ResultVar} {vs : List Value}, RvsS P env L rs vs → RvsOk P env h rs vs
  | [], [], _ => trivial
  | .tmp _ :: _, _ :: _, hr => ⟨hr.1, RvsS.ok hs hr.2⟩
  | .cell a t :: _, v :: _, hr => by
    obtain ⟨⟨b, l, tt, r, h1, h2, h3⟩, hr2⟩ := hr
    have h4 : mp h b = some (.cells l.toArray tt (0, 0)) := hs.get h2
    refine ⟨⟨_, h1, ?_⟩, RvsS.ok hs hr2⟩
    rcases h3 with ⟨h5, rfl⟩ | ⟨h5, rfl⟩
    · exact .inl ⟨h5, mc_blk h4 rfl⟩
    · exact .inr ⟨l, h5, At.blk h4, rfl⟩
theorem CS_of {P : Program} {f : FuncId} {fn : Func} {c : Code} {l : List Value} {m : Mp} {pre : List Ent} {post : Value → List Ent → Prop} (rs : List ResultVar) (hf : P.funcs[f]? = some fn) (hb : fn.body = some c) (hrs : fn.results = rs.toArray)
    (hl : Nat.ble l.length fn.ntmps = true) (ht : TS P fn.ntmps c (env0 l 0) m pre (retC P rs (postS m post))) : CS P f l m pre post :=
  fun h hs => C_ofc rs hf hb hrs hl (ht h hs)
theorem QS_ret {P : Program} {rs : List ResultVar} {env : Env} {m : Mp} {L : List Ent} {post : Value → List Ent → Prop} (vs : List Value) (hv : RvsS P env L rs vs) (L' : List Ent) (hp : Pick L L') (hq : post (tup vs) L') : QS (retC P rs (postS m post)) .ret env m L :=
  fun h hs => ⟨vs, hv.ok hs, L', hq, hp m h hs⟩
theorem QS_retN {P : Program} {rs : List ResultVar} {env : Env} {m : Mp} {L : List Ent} {post : Value → List Ent → Prop} (vs : List Value) (hv : RvsS P env L rs vs) (L' : List Ent) (hp : Pick L L') (hq : post (tup vs) L') : QS (retC P rs (postS m post)) .normal env m L :=
  fun h hs => ⟨vs, hv.ok hs, L', hq, hp m h hs⟩

/-- the entries hold in this map -/
def HE (L : List Ent) (m : Mp) : Prop := ∀ e ∈ L, e.inv m
/-- what an entry leaves out of sight -/
def away (e : Ent) (m : Mp) : Mp := fun k => if e.dom k then none else m k
section
variable {P : Program} {n : Nat} {env : Env} {m : Mp} {L r : List Ent} {Q : Post} {K : Env → List Ent → Prop} {d : Nat} {ty : TypeId} {pos : String} {aft : Array Edge} {gd : Option (Nat × Bool)}

theorem HS.frame0 {h h' : Heap} {L' : List Ent} (hs : HS m L h) (hc : HS (mp h) L' h') : HS m (L' ++ L) h' := by
  have h0 := hs.le hc.base
  refine ⟨h0.base, fun e he => ?_, fun e he k hk => ?_, List.pairwise_append.2 ⟨hc.apart, h0.apart, fun a ha b hb k hk => ?_⟩⟩
  · rcases List.mem_append.1 he with he | he
    · exact hc.inv e he
    · exact h0.inv e he
  · rcases List.mem_append.1 he with he | he
    · exact Le.none hs.base (hc.out e he k hk)
    · exact h0.out e he k hk
  · cases hbk : b.dom k with
    | false => rfl
    | true => exact absurd (hc.out a ha k hk) (b.has (hs.inv b hb) hbk)
theorem HS.frame1 {h h' : Heap} {e : Ent} {L' : List Ent} (hs : HS m (e :: r) h) (hc : HS (away e (mp h)) L' h') : HS m (L' ++ r) h' := by
  obtain ⟨h1, h2, h3, h4⟩ := HS.cons_iff.1 hs
  have same : ∀ x ∈ r, ∀ k, x.dom k = true → away e (mp h) k = mp h k := fun x hx k hk => by
    unfold away
    rw [if_neg]
    intro he
    have := h4 x hx k he
    rw [hk] at this
    cases this
  have keep : ∀ k o, away e (mp h) k = some o → mp h' k = some o := hc.base
  have same2 : ∀ x ∈ r, ∀ k, x.dom k = true → mp h' k = mp h k := fun x hx k hk => by
    have h5 := same x hx k hk
    cases h6 : mp h k with
    | none => exact absurd h6 (x.has (h1.inv x hx) hk)
    | some o => exact keep k o (by rw [h5, h6])
  have base : Le m (away e (mp h)) := fun k o hk => by
    unfold away
    rw [if_neg]
    · exact h1.base k o hk
    · intro he; rw [h3 k he] at hk; cases hk
  refine ⟨base.trans hc.base, fun x hx => ?_, fun x hx k hk => ?_, List.pairwise_append.2 ⟨hc.apart, h1.apart, fun a ha b hb k hk => ?_⟩⟩
  · rcases List.mem_append.1 hx with hx | hx
    · exact hc.inv x hx
    · exact x.loc (same2 x hx) (h1.inv x hx)
  · rcases List.mem_append.1 hx with hx | hx
    · exact Le.none base (hc.out x hx k hk)
    · exact h1.out x hx k hk
  · cases hbk : b.dom k with
    | false => rfl
    | true =>
      have h5 := hc.out a ha k hk
      rw [same b hb k hbk] at h5
      exact absurd h5 (b.has (h1.inv b hb) hbk)
theorem HS.away {h : Heap} {e : Ent} (hs : HS m (e :: r) h) : HS (away e (mp h)) [e] h ∧ Le m (away e (mp h)) ∧ HE r (Eng.away e (mp h)) := by
  obtain ⟨h1, h2, h3, h4⟩ := HS.cons_iff.1 hs
  refine ⟨⟨fun k o hk => ?_, fun x hx => ?_, fun x hx k hk => ?_, List.pairwise_singleton _ _⟩, fun k o hk => ?_, fun x hx => ?_⟩
  · unfold Eng.away at hk
    split at hk
    · cases hk
    · exact hk
  · rw [List.mem_singleton.1 hx]; exact h2
  · rw [List.mem_singleton.1 hx] at hk
    simp [Eng.away, hk]
  · unfold Eng.away
    rw [if_neg]
    · exact h1.base k o hk
    · intro he; rw [h3 k he] at hk; cases hk
  · refine x.loc (fun k hk => ?_) (h1.inv x hx)
    unfold Eng.away
    rw [if_neg]
    intro he
    have := h4 x hx k he
    rw [hk] at this
    cases this

/-- a call that needs nothing of the call's own but to read it -/
theorem S_call {f : FuncId} {args : List Operand} {ats : Array TypeId} {vs : List Value} {post : Value → List Ent → Prop} (hcl : callable P f = true) (hx : evs env args = some vs) (hc : ∀ m', Le m m' → HE L m' → CS P f vs m' [] post) (hn : Nat.blt d n = true)
    (hk : ∀ v L', post v L' → K ((d, v) :: env) (L' ++ L)) : StepS P n Q ⟨some d, .call ⟨.value (.func f), args.toArray, ats⟩, ty, pos, aft, gd⟩ env m L true K := fun h hs =>
  E_call hcl hx (hc (mp h) hs.base hs.inv h (HS.nil (Le.refl _))) hn fun v h' ⟨L', h1, h2⟩ => ⟨fun _ => h2.base, _, hs.frame0 h2, hk v L' h1⟩
/-- a call that is handed one entry -/
theorem S_call1 {f : FuncId} {args : List Operand} {ats : Array TypeId} {vs : List Value} {e : Ent} {post : Value → List Ent → Prop} (hcl : callable P f = true) (hx : evs env args = some vs) (hT : Tk L e r) (hc : ∀ m', Le m m' → HE r m' → CS P f vs m' [e] post) (hn : Nat.blt d n = true)
    (hk : ∀ v L', post v L' → K ((d, v) :: env) (L' ++ r)) : StepS P n Q ⟨some d, .call ⟨.value (.func f), args.toArray, ats⟩, ty, pos, aft, gd⟩ env m L false K := fun h hs => by
  have h0 := hs.take hT
  obtain ⟨h1, h2, h3⟩ := h0.away
  exact E_call hcl hx (hc _ h2 h3 h h1) hn fun v h' ⟨L', g1, g2⟩ => ⟨fun hf => (by cases hf), _, h0.frame1 g2, hk v L' g1⟩
/-- the same where no result is kept -/
theorem S_call0 {f : FuncId} {args : List Operand} {ats : Array TypeId} {vs : List Value} {post : Value → List Ent → Prop} (hcl : callable P f = true) (hx : evs env args = some vs) (hc : ∀ m', Le m m' → HE L m' → CS P f vs m' [] post)
    (hk : ∀ v L', post v L' → K env (L' ++ L)) : StepS P n Q ⟨none, .call ⟨.value (.func f), args.toArray, ats⟩, ty, pos, aft, gd⟩ env m L true K := fun h hs =>
  E_call0 hcl hx (hc (mp h) hs.base hs.inv h (HS.nil (Le.refl _))) fun v h' ⟨L', h1, h2⟩ => ⟨fun _ => h2.base, _, hs.frame0 h2, hk v L' h1⟩
theorem S_call10 {f : FuncId} {args : List Operand} {ats : Array TypeId} {vs : List Value} {e : Ent} {post : Value → List Ent → Prop} (hcl : callable P f = true) (hx : evs env args = some vs) (hT : Tk L e r) (hc : ∀ m', Le m m' → HE r m' → CS P f vs m' [e] post)
    (hk : ∀ v L', post v L' → K env (L' ++ r)) : StepS P n Q ⟨none, .call ⟨.value (.func f), args.toArray, ats⟩, ty, pos, aft, gd⟩ env m L false K := fun h hs => by
  have h0 := hs.take hT
  obtain ⟨h1, h2, h3⟩ := h0.away
  exact E_call0 hcl hx (hc _ h2 h3 h h1) fun v h' ⟨L', g1, g2⟩ => ⟨fun hf => (by cases hf), _, h0.frame1 g2, hk v L' g1⟩
/-- a call that makes nothing that is told -/
theorem S_callR {f : FuncId} {args : List Operand} {ats : Array TypeId} {vs : List Value} {R : Value → Prop} (hcl : callable P f = true) (hx : evs env args = some vs) (hc : ∀ m', Le m m' → HE L m' → CS P f vs m' [] fun v L' => R v ∧ L' = []) (hn : Nat.blt d n = true)
    (hk : ∀ v, R v → K ((d, v) :: env) L) : StepS P n Q ⟨some d, .call ⟨.value (.func f), args.toArray, ats⟩, ty, pos, aft, gd⟩ env m L true K :=
  S_call hcl hx hc hn fun v L' ⟨h1, h2⟩ => by subst h2; exact hk v h1
/-- a call of a function value -/
theorem S_callV {f : FuncId} {fv : Operand} {args : List Operand} {ats : Array TypeId} {vs p q : List Value} {post : Value → List Ent → Prop} (hcl : callable P f = true) (hf : ev env fv = some (.func (.func f) p.toArray q.toArray)) (hx : evs env args = some vs)
    (hc : ∀ m', Le m m' → HE L m' → CS P f ((p ++ vs) ++ q) m' [] post) (hn : Nat.blt d n = true) (hk : ∀ v L', post v L' → K ((d, v) :: env) (L' ++ L)) : StepS P n Q ⟨some d, .call ⟨.value fv, args.toArray, ats⟩, ty, pos, aft, gd⟩ env m L true K := fun h hs =>
  E_callV (R := postS (mp h) post) hcl hf hx (hc (mp h) hs.base hs.inv h (HS.nil (Le.refl _))) hn fun v h' ⟨L', h1, h2⟩ => ⟨fun _ => h2.base, _, hs.frame0 h2, hk v L' h1⟩
/-- contracts of the older kind -/
theorem CS.ofLe {f : FuncId} {vs : List Value} {R : Value → Prop} (hc : ∀ h, Le m (mp h) → C P f vs.toArray h fun v h' => R v ∧ Le (mp h) (mp h')) : CS P f vs m [] fun v L' => R v ∧ L' = [] := fun h hs =>
  (hc h hs.base).mono fun _ _ ⟨h1, h2⟩ => ⟨[], ⟨h1, rfl⟩, HS.nil (hs.base.trans h2)⟩
theorem CS.toLe {f : FuncId} {vs : List Value} {post : Value → List Ent → Prop} {h : Heap} (hc : CS P f vs (mp h) [] post) : C P f vs.toArray h fun v h' => (∃ L', post v L') ∧ Le (mp h) (mp h') :=
  (hc h (HS.nil (Le.refl _))).mono fun _ _ ⟨L', h1, h2⟩ => ⟨⟨L', h1⟩, h2.base⟩
end
end Go.Eng

namespace Go.Eng
/-- the byte at a place, as a number -/
def by_ (s : List UInt8) (i : Nat) : Nat := (s.getD i 0).toNat
theorem by_lt (s : List UInt8) (i : Nat) : by_ s i < 256 := (s.getD i 0).toNat_lt
section
variable {P : Program} {n : Nat} {env : Env} {dst : Option Tmp} {ty : TypeId} {pos : String} {aft : Array Edge} {gd : Option (Nat × Bool)} {t yt : TypeId} {x y : Operand} {k : IntKind} {a b : Nat}
theorem P_addN (hx : ev env x = some (.int .i64 (a : Nat))) (hy : ev env y = some (.int .i64 (b : Nat))) (hr : a + b ≤ 9223372036854775807) : PureV P n ⟨dst, .binOp .add t x y yt, ty, pos, aft, gd⟩ env (.int .i64 ((a + b : Nat) : Int)) :=
  P_add hx hy (by rw [w64 (by omega) (by omega)]; simp)
theorem P_subN (hx : ev env x = some (.int .i64 (a : Nat))) (hy : ev env y = some (.int .i64 (b : Nat))) (hle : b ≤ a) (hr : a ≤ 9223372036854775807) : PureV P n ⟨dst, .binOp .sub t x y yt, ty, pos, aft, gd⟩ env (.int .i64 ((a - b : Nat) : Int)) :=
  P_sub hx hy (by rw [w64 (by omega) (by omega)]; omega)
theorem P_mulN (hx : ev env x = some (.int .i64 (a : Nat))) (hy : ev env y = some (.int .i64 (b : Nat))) (hr : a * b ≤ 9223372036854775807) : PureV P n ⟨dst, .binOp .mul t x y yt, ty, pos, aft, gd⟩ env (.int .i64 ((a * b : Nat) : Int)) :=
  P_mul hx hy (by rw [w64 (by have : (0 : Int) ≤ (a : Int) * (b : Int) := Int.mul_nonneg (by omega) (by omega); omega) (by have := Int.ofNat_le.2 hr; rw [Int.natCast_mul] at this; omega)]; exact (Int.natCast_mul a b).symm)
theorem P_min2N {ts : Array TypeId} (hx : ev env x = some (.int .i64 (a : Nat))) (hy : ev env y = some (.int .i64 (b : Nat))) : PureV P n ⟨dst, .call ⟨.builtin .min, #[x, y], ts⟩, ty, pos, aft, gd⟩ env (.int .i64 ((min a b : Nat) : Int)) := by
  have := P_min2 (P := P) (n := n) (dst := dst) (ty := ty) (pos := pos) (aft := aft) (gd := gd) (ts := ts) hx hy
  rwa [show min (a : Int) (b : Int) = ((min a b : Nat) : Int) by omega] at this
theorem P_sindexN {s : List UInt8} (hx : ev env x = some (.string (bs s))) (hy : ev env y = some (.int k (a : Nat))) (ht : isStr P t = true) (h1 : a < s.length) : PureV P n ⟨dst, .index t x y, ty, pos, aft, gd⟩ env (.int .u8 ((by_ s a : Nat) : Int)) :=
  P_sindex hx hy ht (by omega) (by omega)
theorem P_convN {src dk : TypeId} {k k' : IntKind} (hs : (P.underlying src).isSome = true) (hd : isIntT P dk k' = true) (hx : ev env x = some (.int k (a : Nat))) (hr : k'.wrap (a : Nat) = (a : Nat)) : PureV P n ⟨dst, .convert src dk x, ty, pos, aft, gd⟩ env (.int k' (a : Nat)) := P_conv_int hs hd hx hr
theorem P_indexAddrN {A : Option Addr} {m c sz : Nat} (ht : esz P t = some sz) (hx : ev env x = some (.slice A m c)) (hy : ev env y = some (.int k (a : Nat))) (hA : A.isSome = true) (h1 : a < m) :
    PureV P n ⟨dst, .indexAddr t x y, ty, pos, aft, gd⟩ env (.pointer (some ((sa A).add (a * sz)))) := P_indexAddr ht hx hy hA (by omega) (by omega)
theorem P_indexAddr1N {A : Option Addr} {m c : Nat} (ht : esz P t = some 1) (hx : ev env x = some (.slice A m c)) (hy : ev env y = some (.int k (a : Nat))) (hA : A.isSome = true) (h1 : a < m) :
    PureV P n ⟨dst, .indexAddr t x y, ty, pos, aft, gd⟩ env (.pointer (some ((sa A).add a))) := P_indexAddr1 ht hx hy hA (by omega) (by omega)
end
section
variable {P : Program} {n : Nat} {env : Env} {m : Mp} {L : List Ent} {Q : Post} {K : Env → List Ent → Prop} {d : Nat} {ty : TypeId} {pos : String} {aft : Array Edge} {gd : Option (Nat × Bool)} {x : Operand}
/-- an element of a literal's block -/
theorem S_loadE {b i : Nat} {l : List Value} {e : TypeId} {r : List Ent} {v : Value} {dst : Option Tmp} {t : TypeId} (ht : single P t = true) (hx : ev env x = some (.pointer (some ((sa (some ⟨b, 0, none⟩)).add i)))) (hT : Tk L (cel b l e) r) (hv : l[i]? = some v) : ∀ h, HS m L h → ReadV P n ⟨dst, .load t x, ty, pos, aft, gd⟩ env h v :=
  fun _ hs => R_load ht hx ((Rd.blk (hs.get hT)).at_ hv)
theorem S_loadEA {b i q : Nat} {l : List Value} {e : TypeId} {r : List Ent} {dst : Option Tmp} {t : TypeId} (ht : aggSize P t = some q) (hx : ev env x = some (.pointer (some ((sa (some ⟨b, 0, none⟩)).add i)))) (hT : Tk L (cel b l e) r) (hl : ((l.drop i).take q).length = q) : ∀ h, HS m L h → ReadV P n ⟨dst, .load t x, ty, pos, aft, gd⟩ env h (.agg ((l.drop i).take q).toArray) :=
  fun _ hs => R_loadAt ht hx hl ((Rd.blk (hs.get hT)).elem i q)
theorem S_nextD {b p : Nat} {s : List UInt8} {r : Nat × Nat} {L' : List Ent} (hx : ev env x = some (.pointer (some ⟨b, 0, none⟩))) (hp : p < s.length) (hr : Utf8.decode (bs s) p = r) (hT : Sel L (iter b s p) (iter b s (p + r.2)) L') (hn : Nat.blt d n = true)
    (hk : K ((d, .tuple [.bool true, .int .i64 p, .int .i32 r.1].toArray) :: env) L') : StepS P n Q ⟨some d, .next x true, ty, pos, aft, gd⟩ env m L false K := by
  subst hr
  exact S_next hx hp hT hn hk
end
theorem wraps_i64 (n : Int) (h₀ : 0 ≤ n) (h₁ : n < 2 ^ 62) : IntKind.i64.wrap n = n := by rw [IntKind.wrap_i64]; omega
theorem i64_maskN (i : Nat) (hi : i ≤ 62) (a : Nat) (h : a < 4611686018427387904) : bits .and .i64 (a : Nat) (2 ^ i - 1) = ((a % 2 ^ i : Nat) : Int) := by
  have := bits_mask .i64 62 (by decide) wraps_i64 i hi (a : Int) (by omega) (by omega)
  rw [this]
  exact_mod_cast rfl
theorem u8_maskN (i : Nat) (hi : i ≤ 8) (a : Nat) (h : a < 256) : bits .and .u8 (a : Nat) (2 ^ i - 1) = ((a % 2 ^ i : Nat) : Int) := by
  have := bits_mask .u8 8 (by decide) wraps_u8 i hi (a : Int) (by omega) (by exact_mod_cast h)
  rw [this]
  exact_mod_cast rfl
theorem i64_joinN (i a b : Nat) (ha : a % 2 ^ i = 0) (hb : b < 2 ^ i) (h1 : a < 4611686018427387904) (h2 : b < 4611686018427387904) : bits .or .i64 (a : Nat) (b : Nat) = ((a + b : Nat) : Int) := by
  have := bits_join .i64 62 (by decide) wraps_i64 i (a : Int) (b : Int) (by omega) (by exact_mod_cast ha) (by omega) (by omega) (by exact_mod_cast hb) (by omega)
  rw [this]
  simp
theorem u8_and192 (a : Nat) (h : a < 256) : bits .and .u8 (a : Nat) 192 = ((a / 64 * 64 : Nat) : Int) := by
  have := (bits_nat .u8 8 (by decide) wraps_u8 a 192 (by exact_mod_cast h) (by decide)).1
  have h2 : ∀ x : Fin 256, x.val &&& 192 = x.val / 64 * 64 := by decide +kernel
  rw [h2 ⟨a, h⟩] at this
  exact this
end Go.Eng

namespace Go.Eng

def entsM : Nat → List (List UInt8 × Value) → List MapEntry
  | _, [] => []
  | i, (k, v) :: r => ⟨.string (bs k), v, i⟩ :: entsM (i + 1) r
/-- where a key stands, and what there is -/
def findM (k : List UInt8) : Nat → List (List UInt8 × Value) → Option (Nat × Value)
  | _, [] => none
  | i, (k', v) :: r => if k = k' then some (i, v) else findM k (i + 1) r
def getM (es : List (List UInt8 × Value)) (k : List UInt8) : Option Value := (findM k 0 es).map (·.2)
def putM (es : List (List UInt8 × Value)) (k : List UInt8) (v : Value) : List (List UInt8 × Value) := match findM k 0 es with
  | some (i, _) => es.set i (k, v)
  | none => es ++ [(k, v)]
def smap (r : Nat) (es : List (List UInt8 × Value)) : Ent := blk r (.map (entsM 0 es).toArray es.length)
/-- a map's type whose keys are strings: its elements' type -/
def mapStr (P : Program) (t : TypeId) : Option TypeId := match P.underlying t with
  | some (.map kt et) => match P.underlying kt with
    | some .string => some et
    | _ => none
  | _ => none
theorem mapStr_spec {P : Program} {t et : TypeId} (h : mapStr P t = some et) : ∃ kt, P.underlying t = some (.map kt et) ∧ P.underlying kt = some .string := by
  unfold mapStr at h
  split at h
  · rename_i kt et' hu
    split at h
    · rename_i hk; simp only [Option.some.injEq] at h; subst h; exact ⟨kt, hu, hk⟩
    · cases h
  · cases h
theorem bs_inj {a b : List UInt8} : (bs a == bs b) = decide (a = b) := by
  show ((bs a).data == (bs b).data) = _
  rw [Bool.eq_iff_iff, beq_iff_eq, decide_eq_true_eq]
  simp [bs]
theorem findNow_str (k : List UInt8) : ∀ (es : List (List UInt8 × Value)) (i j : Nat), Instr.findNow .string (.string (bs k)) (entsM j es) i = some (findM k i es)
  | [], _, _ => rfl
  | (k', v) :: r, i, j => by
    unfold entsM Instr.findNow
    simp only [Instr.sameNow, bs_inj]
    by_cases h : k = k'
    · simp [h, findM]
    · simp only [h, decide_false]
      rw [findNow_str k r (i + 1) (j + 1)]
      simp [findM, h]
theorem findM_lt {k : List UInt8} : ∀ {es : List (List UInt8 × Value)} {i j : Nat} {v : Value}, findM k i es = some (j, v) → i ≤ j ∧ es[j - i]? = some (k, v)
  | [], _, _, _, h => by cases h
  | (k', v') :: r, i, j, v, h => by
    unfold findM at h
    split at h
    · rename_i hk
      injection h with h
      injection h with h1 h2
      subst h1 h2 hk
      simp
    · obtain ⟨h1, h2⟩ := findM_lt h
      refine ⟨by omega, ?_⟩
      rw [show j - i = (j - (i + 1)) + 1 by omega]
      simpa using h2
theorem entsM_get : ∀ (es : List (List UInt8 × Value)) (i j : Nat), (entsM i es)[j]? = (es[j]?).map fun p => ⟨.string (bs p.1), p.2, i + j⟩
  | [], _, _ => by simp [entsM]
  | (k, v) :: r, i, 0 => by simp [entsM]
  | (k, v) :: r, i, j + 1 => by simp [entsM, entsM_get r (i + 1) j]; congr 1; funext p; congr 1; omega
theorem entsM_len (es : List (List UInt8 × Value)) (i : Nat) : (entsM i es).length = es.length := by
  induction es generalizing i with
  | nil => rfl
  | cons p r ih => obtain ⟨k, v⟩ := p; simp [entsM, ih]
theorem entsM_snoc (es : List (List UInt8 × Value)) (i : Nat) (k : List UInt8) (v : Value) : entsM i (es ++ [(k, v)]) = entsM i es ++ [⟨.string (bs k), v, i + es.length⟩] := by
  induction es generalizing i with
  | nil => simp [entsM]
  | cons p r ih => obtain ⟨k', v'⟩ := p; simp only [List.cons_append, entsM, ih, List.length_cons]; rw [show i + 1 + r.length = i + (r.length + 1) by omega]
theorem entsM_set (es : List (List UInt8 × Value)) (i j : Nat) (k : List UInt8) (v v0 : Value) (h : es[j]? = some (k, v0)) : entsM i (es.set j (k, v)) = (entsM i es).modify j fun e => { e with key := .string (bs k), val := v } := by
  induction es generalizing i j with
  | nil => simp at h
  | cons p r ih =>
    obtain ⟨k', v'⟩ := p
    cases j with
    | zero => simp at h; obtain ⟨rfl, rfl⟩ := h; simp [entsM]
    | succ j => simp only [List.set_cons_succ, entsM, List.modify_succ_cons, ih _ _ (by simpa using h)]

section
variable {P : Program} {n : Nat} {env : Env} {m : Mp} {L r : List Ent} {Q : Post} {K : Env → List Ent → Prop} {dst : Option Tmp} {d : Nat} {ty : TypeId} {pos : String} {aft : Array Edge} {gd : Option (Nat × Bool)} {t et : TypeId} {x y z : Operand} {v : Value}

theorem S_makeMap (hn : Nat.blt d n = true) (hk : ∀ b, K ((d, .map (some b)) :: env) (smap b [] :: L)) : StepS P n Q ⟨some d, .makeMap t none, ty, pos, aft, gd⟩ env m L true K := fun h hs =>
  step_of_run rfl hn fun fx dr a ha => by
    refine ⟨h.push (.map #[] 0), dr, ?_, fun _ => mp_push h _, _, hs.new (e' := smap h.size []) (mp_push h _) (mp_push_new h _) (fun k hk => by have := dom_cel hk; subst this; exact mp_none h), hk _⟩
    simp [execOp, Instr.makeMap, newObj, Sem.run, W]

theorem run_getObj {w : World} {b c : Nat} {es : Array MapEntry} (hb : w.heap[b]? = some (.map es c)) : (getObj b).run P w = .ok (.map es c) w := by simp [getObj, Sem.run, hb]
theorem run_setObj {w : World} {b c : Nat} {es : Array MapEntry} {o' : Obj} (hb : w.heap[b]? = some (.map es c)) : (setObj b o').run P w = .ok () { w with heap := w.heap.setIfInBounds b o' } := by simp [setObj, Sem.run, hb]
theorem run_findKey_str {w : World} {kt : TypeId} (hk : P.underlying kt = some .string) (k : List UInt8) (es : List (List UInt8 × Value)) : (Instr.findKey kt (.string (bs k)) (entsM 0 es)).run P w = .ok (findM k 0 es) w := by
  simp only [Instr.findKey, Sem.run_bind, run_underlying hk, Result.andThen_ok, findNow_str]
  rfl
theorem run_checkKey_str {w : World} {kt : TypeId} (b : Bool) (hk : P.underlying kt = some .string) (k : List UInt8) : (Instr.checkKey b 10000 kt (.string (bs k))).run P w = .ok () w := by
  show (Instr.checkKey b (9999 + 1) kt (.string (bs k))).run P w = .ok () w
  rw [Instr.checkKey]
  simp only [Sem.run_bind, run_underlying hk, Result.andThen_ok]
  rfl

/-- a look into a map of the call's own -/
theorem run_lookup_own {fx : Fx} {h : Heap} {dr b : Nat} {es : List (List UInt8 × Value)} {k : List UInt8} {zv : Value} {cm : Bool} (ht : mapStr P t = some et) (hb : mp h b = some (.map (entsM 0 es).toArray es.length)) (hz : ∀ w, (zeroValue et).run P w = .ok zv w) :
    (Instr.lookup t (.map (some b)) (.string (bs k)) cm).run P (W fx h dr) = .ok (if cm then .tuple #[(getM es k).getD zv, .bool (getM es k).isSome] else (getM es k).getD zv) (W fx h dr) := by
  obtain ⟨kt, h1, h2⟩ := mapStr_spec ht
  have hb' : (W fx h dr).heap[b]? = some (.map (entsM 0 es).toArray es.length) := hb
  simp only [Instr.lookup, Sem.run_bind, run_underlying h1, Result.andThen_ok, run_getObj hb', run_checkKey_str _ h2, Sem.run_pure]
  have hfk := run_findKey_str (P := P) (w := W fx h dr) h2 k es
  simp only [hfk, Result.andThen_ok]
  unfold getM
  cases hf : findM k 0 es with
  | none => simp [hz]
  | some p => simp
theorem S_lookup {b : Nat} {es : List (List UInt8 × Value)} {k : List UInt8} {zv : Value} (ht : mapStr P t = some et) (hx : ev env x = some (.map (some b))) (hy : ev env y = some (.string (bs k))) (hT : Tk L (smap b es) r) (hzz : ∀ w, (zeroValue et).run P w = .ok zv w) :
    ∀ h, HS m L h → ReadV P n ⟨dst, .lookup t x y false, ty, pos, aft, gd⟩ env h ((getM es k).getD zv) := fun h hs a w ha hl => by
  have h1 : mp w.heap b = some (.map (entsM 0 es).toArray es.length) := hl _ _ (hs.get hT)
  have := run_lookup_own (P := P) (fx := ⟨w.tape, w.os, w.output, []⟩) (h := w.heap) (dr := w.drawn) (cm := false) (k := k) ht h1 hzz
  simp only [execOp, ha.eval hx, ha.eval hy, Sem.run_bind]
  rw [← W_of] at this
  rw [this]
  rfl
theorem S_lookup2 {b : Nat} {es : List (List UInt8 × Value)} {k : List UInt8} {zv : Value} (ht : mapStr P t = some et) (hx : ev env x = some (.map (some b))) (hy : ev env y = some (.string (bs k))) (hT : Tk L (smap b es) r) (hzz : ∀ w, (zeroValue et).run P w = .ok zv w) :
    ∀ h, HS m L h → ReadV P n ⟨dst, .lookup t x y true, ty, pos, aft, gd⟩ env h (.tuple [(getM es k).getD zv, .bool (getM es k).isSome].toArray) := fun h hs a w ha hl => by
  have h1 : mp w.heap b = some (.map (entsM 0 es).toArray es.length) := hl _ _ (hs.get hT)
  have := run_lookup_own (P := P) (fx := ⟨w.tape, w.os, w.output, []⟩) (h := w.heap) (dr := w.drawn) (cm := true) (k := k) ht h1 hzz
  simp only [execOp, ha.eval hx, ha.eval hy, Sem.run_bind]
  rw [← W_of] at this
  rw [this]
  rfl
/-- the zero of a type of one cell -/
def zero1 (P : Program) (t : TypeId) (v : Value) : Prop := ∀ w, (zeroValue t).run P w = .ok v w
theorem zero1_of {i : TypeInfo} (h : P.info? t = some i) (hz : i.zero = some v) : zero1 P t v := fun w => by simp [zeroValue, typeInfo, h, hz]

theorem S_mapUpdate {b : Nat} {es : List (List UInt8 × Value)} {k : List UInt8} {L' : List Ent} (ht : mapStr P t = some et) (hx : ev env x = some (.map (some b))) (hy : ev env y = some (.string (bs k))) (hz : ev env z = some v)
    (hT : Sel L (smap b es) (smap b (putM es k v)) L') (hk : K env L') : StepS P n Q ⟨none, .mapUpdate t x y z, ty, pos, aft, gd⟩ env m L false K := fun h hs => by
  obtain ⟨r, g1, g2⟩ := hT.split
  have h3 := hs.take g1
  have hb : mp h b = some (.map (entsM 0 es).toArray es.length) := h3.head
  have hblt := mp_some hb
  obtain ⟨kt, u1, u2⟩ := mapStr_spec ht
  have put : ∀ o : Obj, (smap b (putM es k v)).inv (mp (h.setIfInBounds b o)) → HS m L' (h.setIfInBounds b o) := fun o ho =>
    (h3.upd (e' := smap b (putM es k v)) (fun j _ hj => by
      have hne : b ≠ j := by rintro rfl; simp [smap, blk] at hj
      simp [mp, Array.getElem?_setIfInBounds, hne]) ho fun j hj => .inl hj).untake g2
  refine step_of_skip rfl fun fx dr a ha => ?_
  have hb' : (W fx h dr).heap[b]? = some (.map (entsM 0 es).toArray es.length) := hb
  have hfk := run_findKey_str (P := P) (w := W fx h dr) u2 k es
  cases hf : findM k 0 es with
  | none =>
    rw [hf] at hfk
    refine ⟨h.setIfInBounds b (.map ((entsM 0 es).toArray.push ⟨.string (bs k), v, es.length⟩) (es.length + 1)), dr, ?_, fun hh => (by cases hh), L', put _ ?_, hk⟩
    · simp only [execOp, ha.eval hx, ha.eval hy, ha.eval hz, Instr.mapUpdate, Sem.run_bind, run_underlying u1, Result.andThen_ok, run_getObj hb', run_checkKey_str _ u2, hfk, run_setObj hb', Sem.run_pure]
      rfl
    · show mp _ b = _
      simp only [putM, hf, entsM_snoc, Nat.zero_add]
      simp [mp, hblt]
  | some p =>
    obtain ⟨i, v0⟩ := p
    rw [hf] at hfk
    obtain ⟨_, hg⟩ := findM_lt hf
    simp only [Nat.sub_zero] at hg
    have hgi : ((entsM 0 es).toArray)[i]? = some ⟨.string (bs k), v0, i⟩ := by rw [List.getElem?_toArray, entsM_get, hg]; simp
    have hkey : (((entsM 0 es).toArray[i]?).map (·.key)).getD (.string (bs k)) = .string (bs k) := by rw [hgi]; rfl
    have hst : (Instr.keyThatStays (.string (bs k)) (.string (bs k))).run P (W fx h dr) = .ok (.string (bs k)) (W fx h dr) := by
      unfold Instr.keyThatStays
      rw [if_pos]
      · rfl
      · show Instr.sameBits (9999 + 1) _ _ = true
        show (bs k == bs k) = true
        rw [bs_inj]
        simp
    refine ⟨h.setIfInBounds b (.map ((entsM 0 es).toArray.modify i fun e => { e with key := .string (bs k), val := v }) es.length), dr, ?_, fun hh => (by cases hh), L', put _ ?_, hk⟩
    · simp only [execOp, ha.eval hx, ha.eval hy, ha.eval hz, Instr.mapUpdate, Sem.run_bind, run_underlying u1, Result.andThen_ok, run_getObj hb', run_checkKey_str _ u2, hfk, hkey, hst, run_setObj hb', Sem.run_pure]
      rfl
    · show mp _ b = _
      simp only [putM, hf, entsM_set es 0 i k v v0 hg, List.length_set]
      simp [mp, hblt]
end
end Go.Eng

namespace Go.Eng
inductive Dt where
  | i (k : IntKind) (n : Int)
  | s (t : List UInt8)
  | b (x : Bool)
deriving DecidableEq
inductive Dk where
  | i (k : IntKind)
  | s
  | b
deriving DecidableEq
def Dt.v : Dt → Value
  | .i k n => .int k n
  | .s t => .string (bs t)
  | .b x => .bool x
def Dt.k : Dt → Dk
  | .i k _ => .i k
  | .s _ => .s
  | .b _ => .b
def fkOf : TypeDesc → Option Dk
  | .int k => some (.i k)
  | .string => some .s
  | .bool => some .b
  | _ => none
def flatGs (P : Program) : Nat → List Field → Option (List Dk)
  | _, [] => some []
  | o, f :: fs => match (P.underlying f.type).bind fkOf with
    | some k => if f.name ≠ "_" ∧ f.offset = o then (flatGs P (o + 1) fs).map (k :: ·) else none
    | none => none
def flatG (P : Program) (t : TypeId) : Option (List Dk) := if P.stoodInHeld t || P.eqGuardType P.depth t then none else match P.underlying t with
  | some (.struct fs) => flatGs P 0 fs.toList
  | _ => none
theorem run_equal_fd {P : Program} {w : World} {d t : Nat} {k : Dk} {x y : Dt} (hu : (P.underlying t).bind fkOf = some k) (hx : x.k = k) (hy : y.k = k) : (Op.equalIn (d + 1) t x.v y.v).run P w = .ok (decide (x = y)) w := by
  cases hd : P.underlying t with
  | none => rw [hd] at hu; cases hu
  | some td =>
    rw [hd] at hu
    simp only [Option.bind_some] at hu
    cases td <;> simp only [fkOf, Option.some.injEq, reduceCtorEq] at hu
    all_goals (subst hu; cases x <;> simp only [Dt.k, Dk.i.injEq, reduceCtorEq] at hx <;> cases y <;> simp only [Dt.k, Dk.i.injEq, reduceCtorEq] at hy)
    · simp [Op.equalIn, run_underlying hd, Dt.v]; rfl
    · subst hx hy; simp [Op.equalIn, run_underlying hd, Dt.v]; rfl
    · simp [Op.equalIn, run_underlying hd, Dt.v, bs_inj]
theorem single_fk {P : Program} {t : Nat} {k : Dk} (hu : (P.underlying t).bind fkOf = some k) : single P t = true := by
  unfold single
  cases hd : P.underlying t with
  | none => rw [hd] at hu; cases hu
  | some td => rw [hd] at hu; cases td <;> simp [fkOf] at hu ⊢
theorem eqFields_fd {P : Program} {d : Nat} {w : World} {xs ys : Array Value} : ∀ {fs : List Field} {ks : List Dk} {o : Nat} {as bs : List Dt}, flatGs P o fs = some ks → as.map Dt.k = ks → bs.map Dt.k = ks →
    (∀ i u, (as.map Dt.v)[i]? = some u → xs[o + i]? = some u) → (∀ i u, (bs.map Dt.v)[i]? = some u → ys[o + i]? = some u) → (Op.eqFields (d + 1) xs ys fs).run P w = .ok (decide (as = bs)) w
  | [], ks, o, as, bs, hf, ha, hb, _, _ => by
    simp only [flatGs, Option.some.injEq] at hf
    subst hf
    have e1 : as = [] := by simpa using ha
    have e2 : bs = [] := by simpa using hb
    subst e1 e2
    simp [Op.eqFields]
  | f :: fs, ks, o, as, bs, hf, ha, hb, hx, hy => by
    unfold flatGs at hf
    split at hf
    · rename_i k hu
      split at hf
      · rename_i hc
        obtain ⟨hn, ho⟩ := hc
        cases hr : flatGs P (o + 1) fs with
        | none => rw [hr] at hf; cases hf
        | some ks' =>
          rw [hr] at hf
          simp only [Option.map_some, Option.some.injEq] at hf
          subst hf
          match as, bs, ha, hb with
          | a :: as, b :: bs, ha, hb =>
            simp only [List.map_cons, List.cons.injEq] at ha hb
            have h1 := hx 0 a.v (by simp)
            have h2 := hy 0 b.v (by simp)
            have ih := eqFields_fd (P := P) (d := d) (w := w) (xs := xs) (ys := ys) hr ha.2 hb.2
              (fun i u hi => by have := hx (i + 1) u (by simpa using hi); rwa [show o + (i + 1) = o + 1 + i by omega] at this)
              (fun i u hi => by have := hy (i + 1) u (by simpa using hi); rwa [show o + (i + 1) = o + 1 + i by omega] at this)
            have hs := single_fk hu
            have he := run_equal_fd (P := P) (w := w) (d := d) hu ha.1 hb.1
            subst ho
            simp only [Nat.add_zero] at h1 h2
            simp [Op.eqFields, hn, part, single_spec hs, h1, h2, he]
            by_cases hab : a = b
            · subst hab; simp [ih]
            · simp [hab]
      · cases hf
    · cases hf
section
variable {P : Program} {n : Nat} {env : Env} {dst : Option Tmp} {ty : TypeId} {pos : String} {aft : Array Edge} {gd : Option (Nat × Bool)} {t yt : Nat} {x y : Operand} {ks : List Dk} {as bs : List Dt}
theorem run_structEq (hk : flatG P t = some ks) (ha : as.map Dt.k = ks) (hb : bs.map Dt.k = ks) (w : World) :
    (∀ op, (eqGuard op t x y (.agg (as.map Dt.v).toArray) (.agg (bs.map Dt.v).toArray)).run P w = .ok () w) ∧ (Op.equal t (.agg (as.map Dt.v).toArray) (.agg (bs.map Dt.v).toArray)).run P w = .ok (decide (as = bs)) w := by
  unfold flatG at hk
  split at hk
  · cases hk
  · rename_i hno
    simp only [Bool.or_eq_true, not_or, Bool.not_eq_true] at hno
    split at hk
    · rename_i fs hu
      refine ⟨fun op => ?_, ?_⟩
      · unfold eqGuard
        simp [hno.2]
      · have hf : P.fieldsOf t = fs := by unfold Program.fieldsOf; rw [hu]
        have hu' : P.underlying t = some (.struct (P.fieldsOf t)) := by rw [hf]; exact hu
        show (Op.equalIn (9998 + 1 + 1) t _ _).run P w = _
        rw [run_equalIn_struct w (9998 + 1) t _ _ hu' hno.1, hf]
        exact eqFields_fd hk ha hb (fun i u hi => by simpa using hi) (fun i u hi => by simpa using hi)
    · cases hk
theorem P_structEql (as bs : List Dt) (hk : flatG P t = some ks) (ha : as.map Dt.k = ks) (hb : bs.map Dt.k = ks) (hx : ev env x = some (.agg (as.map Dt.v).toArray)) (hy : ev env y = some (.agg (bs.map Dt.v).toArray)) :
    PureV P n ⟨dst, .binOp .eql t x y yt, ty, pos, aft, gd⟩ env (.bool (decide (as = bs))) := by
  intro a w hag
  obtain ⟨h1, h2⟩ := run_structEq (x := x) (y := y) hk ha hb w
  simp [execOp, hag.eval hx, hag.eval hy, h1, binOp, h2]
theorem P_structNeq (as bs : List Dt) (hk : flatG P t = some ks) (ha : as.map Dt.k = ks) (hb : bs.map Dt.k = ks) (hx : ev env x = some (.agg (as.map Dt.v).toArray)) (hy : ev env y = some (.agg (bs.map Dt.v).toArray)) :
    PureV P n ⟨dst, .binOp .neq t x y yt, ty, pos, aft, gd⟩ env (.bool (decide (¬ as = bs))) := by
  intro a w hag
  obtain ⟨h1, h2⟩ := run_structEq (x := x) (y := y) hk ha hb w
  simp [execOp, hag.eval hx, hag.eval hy, h1, binOp, h2]
end
section
variable {P : Program} {n : Nat} {env : Env} {m : Mp} {L r : List Ent} {dst : Option Tmp} {ty : TypeId} {pos : String} {aft : Array Edge} {gd : Option (Nat × Bool)} {t : TypeId} {x y : Operand} {v : Value}
/-- an element that is a struct, of a slice of the call's own -/
theorem S_loadOS {A : Option Addr} {e sz k c i q : Nat} {xs ys : List Value} (ht : aggSize P t = some q) (hx : ev env x = some (.pointer (some ((sa A).add i)))) (hT : Tk L (own e sz A k c xs) r) (he : (xs.drop i).take q = ys) (hl : ys.length = q) : ∀ h, HS m L h → ReadV P n ⟨dst, .load t x, ty, pos, aft, gd⟩ env h (.agg ys.toArray) := by
  subst he
  exact S_loadOA ht hx hT hl
/-- a field of such an element -/
theorem S_loadOF {A : Option Addr} {e sz k c i j : Nat} {xs : List Value} (ht : single P t = true) (hx : ev env x = some (.pointer (some (((sa A).add i).add j)))) (hT : Tk L (own e sz A k c xs) r) (hv : xs[i + j]? = some v) : ∀ h, HS m L h → ReadV P n ⟨dst, .load t x, ty, pos, aft, gd⟩ env h v :=
  S_loadO ht (by rw [hx, add_add]) hT hv
/-- the same of a literal's block -/
theorem S_loadES {b i q : Nat} {l ys : List Value} {e : TypeId} (ht : aggSize P t = some q) (hx : ev env x = some (.pointer (some ((sa (some ⟨b, 0, none⟩)).add i)))) (hT : Tk L (cel b l e) r) (he : (l.drop i).take q = ys) (hl : ys.length = q) : ∀ h, HS m L h → ReadV P n ⟨dst, .load t x, ty, pos, aft, gd⟩ env h (.agg ys.toArray) := by
  subst he
  exact S_loadEA ht hx hT hl
theorem S_loadEF {b i j : Nat} {l : List Value} {e : TypeId} (ht : single P t = true) (hx : ev env x = some (.pointer (some (((sa (some ⟨b, 0, none⟩)).add i).add j)))) (hT : Tk L (cel b l e) r) (hv : l[i + j]? = some v) : ∀ h, HS m L h → ReadV P n ⟨dst, .load t x, ty, pos, aft, gd⟩ env h v :=
  S_loadE ht (by rw [hx, add_add]) hT hv
end
section
variable {P : Program} {n : Nat} {env : Env} {m : Mp} {L r : List Ent} {Q : Post} {p : Prop} {l0 l : List Oper}
/-- what the heap shows -/
theorem VS_fact (hf : ∀ h, HS m L h → p) (hk : p → VS P n l0 l env m L Q) : VS P n l0 l env m L Q := fun h hs => hk (hf h hs) h hs
theorem TS_fact {c : Code} (hf : ∀ h, HS m L h → p) (hk : p → TS P n c env m L Q) : TS P n c env m L Q := fun h hs => hk (hf h hs) h hs
theorem QS_fact {e : Exit} (hf : ∀ h, HS m L h → p) (hk : p → QS Q e env m L) : QS Q e env m L := fun h hs => hk (hf h hs) h hs
theorem VTS_fact {wild : Nat → Bool} {t : OT} (hf : ∀ h, HS m L h → p) (hk : p → VTS P n l wild t env m L Q) : VTS P n l wild t env m L Q := fun h hs => hk (hf h hs) h hs
theorem own_isSome {e sz n c : Nat} {A : Option Addr} {xs : List Value} (hT : Tk L (own e sz A n c xs) r) (h0 : 0 < xs.length) : ∀ h, HS m L h → A.isSome = true := fun _ hs => (Own.rd (hs.get hT)).isSome h0
end
end Go.Eng

namespace Go.Eng
/-- no deferred call is laid by these operations -/
def noDefer (l : List Oper) : Bool := l.all fun o => match o.op with
  | .defer _ => false
  | _ => true
theorem noDefer_at {l : List Oper} (h : noDefer l = true) {o : Oper} (ho : o ∈ l) : ∀ c, o.op ≠ .defer c := fun c e => by
  have := List.all_eq_true.1 h o ho
  rw [e] at this
  cases this
theorem rows_wide {n : Nat} {P : Program} {row : String} {args : Array Value} {w : World} {R : Value → World → Prop} (h : Rows P row args w R) : RowsIn Fence.wide n P row args w R := fun c cs _ => by
  obtain ⟨v, w', r, s⟩ := h c cs
  exact ⟨v, w', r, stepsIn_wide.2 s⟩
section
variable {P : Program} {Q : Exit → Act → World → Prop} {next : Act → World → Prop}
theorem opIn_of {o : Oper} {a : Act} {w : World} {k l : Nat} (hd : ∀ c, o.op ≠ .defer c) (h : o.wp P a w next Q) : o.wpIn (Fence.wide.inRound l) k P a w next Q := by
  refine ⟨fun _ _ => trivial, ?_⟩
  rw [Oper.semAt_eq _ _ _ hd]
  unfold Oper.wp at h
  generalize (execOp a.eval o).run P w = r at *
  cases r with
  | ok x w' =>
    cases x <;> simp only [Oper.upon] at h <;> try exact h
    case enter f args => exact ⟨(fun e => by cases e), callsIn_wide.2 h⟩
    case row row args => exact ⟨(fun e => by cases e), rows_wide h⟩
    all_goals exact h.elim
  | halt e w' => cases e <;> simp only [Oper.upon] at h <;> first | exact h | exact h.elim
theorem opsIn_of {ops : Array Oper} {k l : Nat} (hd : noDefer ops.toList = true) (hL : ¬ LetsOut Q) : ∀ (is : List Nat) (a : Act) (w : World), wpOps P ops Q is a w → wpOpsIn (Fence.wide.inRound l) k P ops Q is a w
  | [], _, _, h => h
  | i :: r, a, w, h => by
    unfold wpOps at h
    unfold wpOpsIn
    cases ho : ops[i]? with
    | none => rw [ho] at h; exact opsIn_of hd hL r a w h
    | some o =>
      rw [ho] at h
      simp only at h ⊢
      have hm : o ∈ ops.toList := by
        have := Array.mem_of_getElem? ho
        simpa using this
      split
      · rename_i hw
        rw [if_pos hw] at h
        rcases h with h | ⟨_, h⟩
        · refine opIn_of (noDefer_at hd hm) (Oper.wp_mono (fun a' w' h' => ?_) h)
          exact opsIn_of hd hL r a' w' h'
        · exact absurd h hL
      · rename_i hw
        rw [if_neg hw] at h
        exact ⟨fun _ _ => trivial, opsIn_of hd hL r _ w h⟩
end
/-- in a round -/
def TR (P : Program) (n : Nat) (c : Code) (env : Env) (m : Mp) (L : List Ent) (Q : Post) : Prop :=
  ∀ h, HS m L h → ∀ (x : Fx) (d : Nat) (a : Act) (l k : Nat), AgD n x env a → c.wpIn (Fence.wide.inRound l) k P (lift n x Q) a (W x h d)
section
variable {P : Program} {n : Nat} {env : Env} {m : Mp} {L : List Ent} {Q : Post}
/-- no way out of the room -/
def Roomy (Q : Post) : Prop := ∀ env h, ¬ Q .outgrown env h
theorem Roomy.lets {x : Fx} (h : Roomy Q) : ¬ LetsOut (lift n x Q) := fun ⟨_, _, _, _, _, _, _, hq⟩ => h _ _ hq
theorem TR_region {id : Nat} {l : List Oper} (hd : noDefer l = true) (hQ : Roomy Q) (hv : VS P n l l env m L Q) : TR P n (.region id l.toArray false) env m L Q := fun h hs x d a r k hag => by
  refine wpIn_region ?_
  refine opsIn_of (by simpa using hd) hQ.lets _ _ _ ?_
  have := hv h hs x d a hag
  rw [List.range_eq_range', List.size_toArray, wpOps_eq_wpList (ops := l.toArray) l 0 (by simp)]
  exact this
theorem TR_skip (hq : QS Q .normal env m L) : TR P n .skip env m L Q := fun h hs _ d _ _ _ hag => wpIn_skip ⟨env, h, d, hag, rfl, hq h hs⟩
theorem TR_ret (hq : QS Q .ret env m L) : TR P n .ret env m L Q := fun h hs _ d _ _ _ hag => wpIn_ret ⟨env, h, d, hag, rfl, hq h hs⟩
theorem TR_true {c : Operand} {a b : Code} (hc : ev env c = some (.bool true)) (h1 : TR P n a env m L Q) : TR P n (.cond c a b) env m L Q := fun h hs x d act l k hag => wpIn_cond_true (hag.toAg.eval hc) (h1 h hs x d act l k hag)
theorem TR_false {c : Operand} {a b : Code} (hc : ev env c = some (.bool false)) (h1 : TR P n b env m L Q) : TR P n (.cond c a b) env m L Q := fun h hs x d act l k hag => wpIn_cond_false (hag.toAg.eval hc) (h1 h hs x d act l k hag)
/-- what a step of code leaves, where it goes on -/
def midQ (m : Mp) (K : Env → List Ent → Prop) (Q : Post) : Post
  | .normal, env, h => ∃ L', HS m L' h ∧ K env L'
  | .ret, env, h => Q .ret env h
  | _, _, _ => False
theorem midQ_roomy {K : Env → List Ent → Prop} : Roomy (midQ m K Q) := fun _ _ h => h
theorem QS_mid {K : Env → List Ent → Prop} (L' : List Ent) (hp : Pick L L') (hk : K env L') : QS (midQ m K Q) .normal env m L := fun h hs => ⟨L', hp m h hs, hk⟩
theorem QS_mid_ret {K : Env → List Ent → Prop} (hq : QS Q .ret env m L) : QS (midQ m K Q) .ret env m L := fun h hs => hq h hs
theorem TR_seq {a b : Code} (ht : TR P n a env m L (midQ m (fun env' L' => TR P n b env' m L' Q) Q)) : TR P n (.seq a b) env m L Q := fun h hs x d act l k hag => by
  refine wpIn_seq (wpIn_mono (ht h hs x d act l k hag) ?_)
  rintro e a' w' ⟨env', h', d', hag', rfl, hq⟩
  cases e with
  | normal => obtain ⟨L', hs', hb⟩ := hq; exact hb h' hs' x d' a' l k hag'
  | ret => exact ⟨env', h', d', hag', rfl, hq⟩
  | exit i => exact hq.elim
  | goto i => exact hq.elim
  | panic c => exact hq.elim
  | outgrown => exact hq.elim
theorem TR_draw {id : Nat} {l : List Oper} (t : OT) (hd : noDefer l = true) (hR : Roomy Q) (hm : P.follows .mixedOrders = true) (hck : checkT l t = true) (hQ : ∀ c env env' h, Q (.panic c) env h → Q (.panic c) env' h)
    (hv : VTS P n l (wildT t) t env m L Q) : TR P n (.region id l.toArray true) env m L Q := fun h hs' x d a r k hag => by
  unfold checkT at hck
  simp only [Bool.and_eq_true] at hck
  obtain ⟨h1, h3⟩ := hck
  have hs := hv h hs' x (d + 1) a hag
  have := (anyE_of_seqT h1 (Q := lift n x Q) (by
    rintro c a a' w hsz hdf ⟨env, h, d, hag, rfl, hq⟩
    refine ⟨[], h, d, ⟨⟨by rw [← hsz]; exact hag.size, fun t v ht => by simp [lk] at ht⟩, by rw [← hdf]; exact hag.defers⟩, rfl, hQ _ _ _ _ hq⟩) t l.length _ a _ hs).1 h3
  refine wpIn_region_draw fun tp => opsIn_of (by simpa using hd) hR.lets _ _ _ ?_
  simp only [Region.schedule, hm, Bool.true_or, if_true]
  refine wpAny_sound _ tp _ a _ (wpAny_of_anyE (wild := wildT t) _ _ _ _ ?_)
  rw [List.size_toArray]
  exact this
theorem TR_block {c : Code} {id : Nat} (ht : TR P n c env m L (blockQ id Q)) : TR P n (.block id c) env m L Q := fun h hs x d act l k hag => by
  refine wpIn_block (wpIn_mono (ht h hs x d act l k hag) ?_)
  rintro e a' w' ⟨env', h', d', hag', rfl, hq⟩
  cases e with
  | exit i =>
    by_cases hi : i = id
    · simp only [blockQ, if_pos hi] at hq
      simp only [Exit.inBlock, if_pos hi]
      exact ⟨env', h', d', hag', rfl, hq⟩
    · simp only [blockQ, if_neg hi] at hq
      simp only [Exit.inBlock, if_neg hi]
      exact ⟨env', h', d', hag', rfl, hq⟩
  | normal => exact ⟨env', h', d', hag', rfl, hq⟩
  | ret => exact ⟨env', h', d', hag', rfl, hq⟩
  | goto i => exact ⟨env', h', d', hag', rfl, hq⟩
  | panic c => exact ⟨env', h', d', hag', rfl, hq⟩
  | outgrown => exact ⟨env', h', d', hag', rfl, hq⟩
end
/-! ### code at one world -/
section
variable {P : Program} {n : Nat} {env : Env} {m : Mp} {L : List Ent} {Q : Exit → Act → World → Prop} {x : Fx} {h : Heap} {d : Nat} {a : Act} {K : Env → List Ent → Prop}
def noQ : Post := fun _ _ _ => False
theorem wp_seq_T {A B : Code} (ht : TS P n A env m L (midQ m K noQ)) (hs : HS m L h) (hag : AgD n x env a) (hk : ∀ env' L' h' d' a', K env' L' → HS m L' h' → AgD n x env' a' → B.wp P Q a' (W x h' d')) : (Code.seq A B).wp P Q a (W x h d) := by
  refine wp_seq (wp_mono (ht h hs x d a hag) ?_)
  rintro e a' w' ⟨env', h', d', hag', rfl, hq⟩
  cases e with
  | normal => obtain ⟨L', hs', hb⟩ := hq; exact hk _ _ _ _ _ hb hs' hag'
  | ret => exact hq.elim
  | exit i => exact hq.elim
  | goto i => exact hq.elim
  | panic c => exact hq.elim
  | outgrown => exact hq.elim
theorem wp_T {A : Code} (ht : TS P n A env m L (midQ m K noQ)) (hs : HS m L h) (hag : AgD n x env a) (hk : ∀ env' L' h' d' a', K env' L' → HS m L' h' → AgD n x env' a' → Q .normal a' (W x h' d')) : A.wp P Q a (W x h d) := by
  refine wp_mono (ht h hs x d a hag) ?_
  rintro e a' w' ⟨env', h', d', hag', rfl, hq⟩
  cases e with
  | normal => obtain ⟨L', hs', hb⟩ := hq; exact hk _ _ _ _ _ hb hs' hag'
  | ret => exact hq.elim
  | exit i => exact hq.elim
  | goto i => exact hq.elim
  | panic c => exact hq.elim
  | outgrown => exact hq.elim
theorem agD0 {l : List Value} {t : Nat → Question → Nat} {o : Os} {u : Array (Nat × ByteArray)} (hl : l.length ≤ n) : AgD n ⟨t, o, u, []⟩ (env0 l 0) { tmps := l.toArray ++ Array.replicate (n - l.toArray.size) undef, defers := [] } := by
  refine ⟨⟨?_, ?_⟩, rfl⟩
  · simp; omega
  · intro t v hv
    rw [env0_lk] at hv
    simp only [Nat.zero_le, if_true, Nat.sub_zero] at hv
    have hlt : t < l.length := (List.getElem?_eq_some_iff.1 hv).1
    rw [Array.getElem?_append_left (by simpa using hlt)]
    simpa using hv
theorem AgD.re {x' : Fx} (h : AgD n x env a) (e : x.ds = x'.ds) : AgD n x' env a := ⟨h.toAg, h.defers.trans e⟩
theorem at_W {c : Code} {w : World} (e : w = W x h d) (hk : ∀ a, AgD n x env a → c.wp P Q a (W x h d)) (hag : AgD n x env a) : c.wp P Q a w := by
  rw [e]; exact hk a hag
/-- new blocks alone -/
theorem grown_of {x : Fx} {h h' : Heap} {d d' : Nat} (hl : Le (mp h) (mp h')) (row : Option Nat) : (W x h d).grownBy (W x h' d') row :=
  ⟨rfl, rfl, rfl, mp_size hl, fun k hk _ => by
    have hk' : k < h.size := hk
    have h1 : mp h k = some h[k] := by unfold mp; exact Array.getElem?_eq_getElem hk'
    have h2 := hl k _ h1
    exact h2.trans h1.symm⟩
variable {l l0 : List Oper} {o : Oper} {v : Value} {t : Nat} {k : Nat} {w : World}
theorem LI_pure (hr : PureV P n o env v) (hd : o.dst = some t) (hw : wanted l0 env o = some true) (hag : AgD n x env a) (hk : wpListIn Fence.wide k P l0.toArray Q l (a.put (some t) v) w) : wpListIn Fence.wide k P l0.toArray Q (o :: l) a w := by
  unfold wpListIn
  rw [if_pos (wanted_ok hag.toAg hw)]
  refine ⟨fun _ _ => trivial, ?_⟩
  rw [show Fence.wide.round = none from rfl, Oper.semAt_none, hr a w hag, Oper.uponIn_value, hd]
  exact hk
theorem LI_read (hr : ReadV P n o env h v) (hd : o.dst = some t) (hw : wanted l0 env o = some true) (hag : AgD n x env a) (hle : Le (mp h) (mp w.heap)) (hk : wpListIn Fence.wide k P l0.toArray Q l (a.put (some t) v) w) : wpListIn Fence.wide k P l0.toArray Q (o :: l) a w := by
  unfold wpListIn
  rw [if_pos (wanted_ok hag.toAg hw)]
  refine ⟨fun _ _ => trivial, ?_⟩
  rw [show Fence.wide.round = none from rfl, Oper.semAt_none, hr a w hag hle, Oper.uponIn_value, hd]
  exact hk
theorem LI_yield {fv : Operand} {args : List Operand} {vs : List Value} {ats : Array TypeId} {ty : TypeId} {pos : String} {aft : Array Edge} {gd : Option (Nat × Bool)} {r : Nat} {R : Ending → World → Prop} (hf : ev env fv = some (.func (.yield r) #[] #[])) (hx : evs env args = some vs)
    (hw : wanted l0 env ⟨some t, .call ⟨.value fv, args.toArray, ats⟩, ty, pos, aft, gd⟩ = some true) (hag : AgD n x env a) (hy : YieldAt Fence.wide k P r vs.toArray w R)
    (hk : ∀ e w', R e w' → ∃ v, e = .returned v ∧ wpListIn Fence.wide (k + 1) P l0.toArray Q l (a.put (some t) v) w') : wpListIn Fence.wide (k + 1) P l0.toArray Q (⟨some t, .call ⟨.value fv, args.toArray, ats⟩, ty, pos, aft, gd⟩ :: l) a w := by
  obtain ⟨fn, tmps, assign, body, h1, h2⟩ := hy
  unfold wpListIn
  rw [if_pos (wanted_ok hag.toAg hw)]
  refine ⟨fun _ _ => trivial, ?_⟩
  have h3 : (execOp a.eval ⟨some t, .call ⟨.value fv, args.toArray, ats⟩, ty, pos, aft, gd⟩).run P w = .ok (.round r fn tmps assign body) w := by
    have h4 := evs_ok hag.toAg hx
    simp only [execOp, resolve, h4, hag.toAg.eval hf, Deferred.ofValue, Sem.run_bind, Sem.run_pure, Result.andThen_ok, invoke]
    simpa using h1
  rw [show Fence.wide.round = none from rfl, Oper.semAt_none, h3, Oper.uponIn_round]
  refine ⟨fun e => (by cases e), h2.mono ?_⟩
  intro e w' hr
  obtain ⟨v, rfl, h5⟩ := hk e w' hr
  exact h5
end
theorem wp_at {P : Program} {n : Nat} {c : Code} {env : Env} {m : Mp} {L : List Ent} {Q0 : Post} {h : Heap} {x : Fx} {d : Nat} {a : Act} {Q : Exit → Act → World → Prop} (ht : TS P n c env m L Q0) (hs : HS m L h) (hag : AgD n x env a)
    (hq : ∀ e a' w', lift n x Q0 e a' w' → Q e a' w') : c.wp P Q a (W x h d) := wp_mono (ht h hs x d a hag) hq
theorem TR_at {P : Program} {n : Nat} {c : Code} {env : Env} {m : Mp} {L : List Ent} {Q0 : Post} {h : Heap} {x : Fx} {d : Nat} {a : Act} {l k : Nat} {Q : Exit → Act → World → Prop} {w : World} (hw : w = W x h d) (ht : TR P n c env m L Q0) (hs : HS m L h) (hag : AgD n x env a)
    (hq : ∀ e a' w', lift n x Q0 e a' w' → Q e a' w') : c.wpIn (Fence.wide.inRound l) k P Q a w := by
  rw [hw]; exact wpIn_mono (ht h hs x d a l k hag) hq
/-! ### a function value asked whether it is nil -/
def isFuncT (P : Program) (t : TypeId) : Bool := if P.eqGuardType P.depth t then false else match P.underlying t with
  | some (.func ..) => true
  | _ => false
theorem P_feqlNil {P : Program} {n : Nat} {env : Env} {dst : Option Tmp} {ty : TypeId} {pos : String} {aft : Array Edge} {gd : Option (Nat × Bool)} {t yt : Nat} {x y : Operand} {f : Fn} {p q : Array Value} (ht : isFuncT P t = true) (hx : ev env x = some (.func f p q)) (hy : ev env y = some .nilFunc) :
    PureV P n ⟨dst, .binOp .eql t x y yt, ty, pos, aft, gd⟩ env (.bool false) := by
  intro a w hag
  unfold isFuncT at ht
  split at ht
  · cases ht
  · rename_i hno
    split at ht
    · rename_i ps rs vr hu
      have h1 : ∀ op, (eqGuard op t x y (.func f p q) .nilFunc).run P w = .ok () w := fun op => by
        unfold eqGuard
        simp [hno]
      have h2 : (Op.equal t (.func f p q) .nilFunc).run P w = .ok false w := by
        show (Op.equalIn (9999 + 1) t _ _).run P w = _
        rw [Op.equalIn]
        simp [run_underlying hu]
      simp [execOp, hag.eval hx, hag.eval hy, h1, binOp, h2]
    · cases ht
/-! ### entries that are cells alone -/
def CellsOnly (e : Ent) : Prop := ∀ (m : Mp) (k : Nat), e.inv m → e.dom k = true → ∃ o : Obj, m k = some o ∧ o.isCells = true
theorem cel_only (b : Nat) (l : List Value) (t : TypeId) : CellsOnly (cel b l t) := fun m k hi hk => by
  have := Nat.eq_of_beq_eq_true hk
  subst this
  exact ⟨_, hi, rfl⟩
theorem own_only (e sz : Nat) (A : Option Addr) (n c : Nat) (xs : List Value) : CellsOnly (own e sz A n c xs) := fun m k hi hk => by
  obtain ⟨cur, hm⟩ := Own.at_ hi hk
  exact ⟨_, hm, rfl⟩
section
variable {m : Mp} {L : List Ent} {h h' : Heap}
theorem HS.grow {row : Option Nat} (hs : HS m L h) (hc : ∀ e ∈ L, CellsOnly e) (hg : ∀ k, k < h.size → some k ≠ row → h'[k]? = h[k]?) (hrow : ∀ r, row = some r → m r = none ∧ ∃ o : Obj, h[r]? = some o ∧ o.isCells = false) : HS m L h' := by
  refine ⟨fun k o hk => ?_, fun e he => ?_, hs.out, hs.apart⟩
  · have h1 := hs.base k o hk
    have hlt : k < h.size := (Array.getElem?_eq_some_iff.1 h1).1
    refine (hg k hlt ?_).trans h1
    intro e
    rw [(hrow k e.symm).1] at hk
    cases hk
  · refine e.loc (fun k hk => ?_) (hs.inv e he)
    obtain ⟨o, h1, h2⟩ := hc e he _ k (hs.inv e he) hk
    have hlt : k < h.size := (Array.getElem?_eq_some_iff.1 h1).1
    refine hg k hlt ?_
    intro e'
    obtain ⟨_, o', g1, g2⟩ := hrow k e'.symm
    rw [show h[k]? = some o from h1] at g1
    cases g1
    rw [h2] at g2
    cases g2
/-- the heap but for the entries' blocks -/
def awayL (L : List Ent) (m : Mp) : Mp := fun k => if L.any (·.dom k) then none else m k
theorem HS.awayL (hs : HS m L h) : HS (awayL L (mp h)) L h := by
  refine ⟨fun k o hk => ?_, hs.inv, fun e he k hk => ?_, hs.apart⟩
  · unfold Eng.awayL at hk
    split at hk
    · cases hk
    · exact hk
  · unfold Eng.awayL
    rw [if_pos (List.any_eq_true.2 ⟨e, he, hk⟩)]
theorem HS.le_away (hs : HS m L h) : Le m (Eng.awayL L (mp h)) := fun k o hk => by
  unfold Eng.awayL
  rw [if_neg]
  · exact hs.base k o hk
  · intro ha
    obtain ⟨e, he, hd⟩ := List.any_eq_true.1 ha
    rw [hs.out e he k hd] at hk
    cases hk
theorem HS.weak {m' : Mp} (hs : HS m' L h) (hl : Le m m') : HS m L h := ⟨hl.trans hs.base, hs.inv, fun e he k hk => by
  cases hm : m k with
  | none => rfl
  | some o => exact absurd (hl k o hm) (by rw [hs.out e he k hk]; intro c; cases c), hs.apart⟩
theorem body_keeps {L' : List Ent} {x x' : Fx} {d d' B : Nat} (hs : HS m L h) (hs' : HS (Eng.awayL L (mp h)) L' h') (hc : ∀ e ∈ L, CellsOnly e) (hd : ∀ k, (L.any (·.dom k)) = true → (L'.any (·.dom k)) = true) :
    KeepsFrom B (W x h d) (W x' h' d') ∧ HS m L' h' := by
  have some_at : ∀ k o, h[k]? = some o → h'[k]? ≠ none := fun k o hk => by
    cases ha : L.any (·.dom k) with
    | false =>
      have h1 : Eng.awayL L (mp h) k = some o := by unfold Eng.awayL; rw [ha]; exact hk
      have := hs'.base k o h1
      rw [show h'[k]? = some o from this]
      intro c; cases c
    | true =>
      obtain ⟨e, he, hdk⟩ := List.any_eq_true.1 (hd k ha)
      exact e.has (hs'.inv e he) hdk
  refine ⟨⟨?_, fun k o _ hk ho => ?_⟩, hs'.weak hs.le_away⟩
  · show h.size ≤ h'.size
    by_cases h0 : h.size = 0
    · omega
    · have hlt : h.size - 1 < h.size := by omega
      have := some_at (h.size - 1) _ (Array.getElem?_eq_getElem hlt)
      by_cases hl2 : h.size - 1 < h'.size
      · omega
      · exact absurd (Array.getElem?_eq_none (by omega)) this
  · refine hs'.base k o ?_
    unfold Eng.awayL
    rw [if_neg]
    · exact hk
    · intro ha
      obtain ⟨e, he, hdk⟩ := List.any_eq_true.1 ha
      obtain ⟨o', h1, h2⟩ := hc e he _ k (hs.inv e he) hdk
      have hk' : h[k]? = some o := hk
      rw [show h[k]? = some o' from h1] at hk'
      cases hk'
      rw [h2] at ho
      cases ho
end
end Go.Eng
