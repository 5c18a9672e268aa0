/- A Hoare logic over heaps for the model's code, and its lemmas, one an operation: all are proved here. No condition. -/
import Derived.Test.YtbghonkgflolaaaDoorEng
namespace Go.Eng

/-- a part of the heap: its blocks, and what is there -/
structure Ent where
  dom : Nat → Bool
  inv : Mp → Prop
  loc : ∀ {m m' : Mp}, (∀ k, dom k = true → m' k = m k) → inv m → inv m'
  has : ∀ {m : Mp} {k : Nat}, inv m → dom k = true → m k ≠ none

/-- one block -/
def blk (b : Nat) (o : Obj) : Ent where
  dom := fun k => Nat.beq b k
  inv := fun m => m b = some o
  loc := fun {m m'} h hi => by rw [h b (by simp)]; exact hi
  has := fun {m k} hi hk => by
    have := Nat.eq_of_beq_eq_true hk
    subst this
    rw [hi]
    exact fun e => by cases e
/-- a block of cells -/
abbrev cel (b : Nat) (l : List Value) (t : TypeId) : Ent := blk b (.cells l.toArray t (0, 0))
/-- a slice of the call's own -/
def own (e sz : Nat) (A : Option Addr) (n c : Nat) (xs : List Value) : Ent where
  dom := inB A
  inv := fun m => Own m e sz A n c xs
  loc := fun h hi => hi.of_eq h
  has := fun hi hk => by
    obtain ⟨cur, hm⟩ := hi.at_ hk
    rw [hm]
    exact fun e => by cases e

/-- the heap: the base stays as it is; each entry holds; they lie apart -/
structure HS (m : Mp) (L : List Ent) (h : Heap) : Prop where
  base : Le m (mp h)
  inv : ∀ e ∈ L, e.inv (mp h)
  out : ∀ e ∈ L, ∀ k, e.dom k = true → m k = none
  apart : L.Pairwise fun a b => ∀ k, a.dom k = true → b.dom k = false

theorem HS.nil {m : Mp} {h : Heap} (hl : Le m (mp h)) : HS m [] h := ⟨hl, (fun e he => by cases he), (fun e he => by cases he), List.Pairwise.nil⟩

/-- entry by entry -/
theorem HS.cons_iff {m : Mp} {e : Ent} {L : List Ent} {h : Heap} : HS m (e :: L) h ↔ HS m L h ∧ e.inv (mp h) ∧ (∀ k, e.dom k = true → m k = none) ∧ ∀ x ∈ L, ∀ k, e.dom k = true → x.dom k = false := by
  constructor
  · intro ⟨h1, h2, h3, h4⟩
    rw [List.pairwise_cons] at h4
    exact ⟨⟨h1, fun x hx => h2 x (List.mem_cons_of_mem _ hx), fun x hx => h3 x (List.mem_cons_of_mem _ hx), h4.2⟩, h2 e (by simp), h3 e (by simp), h4.1⟩
  · intro ⟨⟨h1, h2, h3, h4⟩, g1, g2, g3⟩
    refine ⟨h1, fun x hx => ?_, fun x hx => ?_, List.pairwise_cons.2 ⟨g3, h4⟩⟩
    · rcases List.mem_cons.1 hx with rfl | hx
      · exact g1
      · exact h2 x hx
    · rcases List.mem_cons.1 hx with rfl | hx
      · exact g2
      · exact h3 x hx
theorem HS.tail {m : Mp} {e : Ent} {L : List Ent} {h : Heap} (hs : HS m (e :: L) h) : HS m L h := (HS.cons_iff.1 hs).1
theorem HS.head {m : Mp} {e : Ent} {L : List Ent} {h : Heap} (hs : HS m (e :: L) h) : e.inv (mp h) := (HS.cons_iff.1 hs).2.1

/-- one entry taken out -/
inductive Tk : List Ent → Ent → List Ent → Prop
  | here {e : Ent} {r : List Ent} : Tk (e :: r) e r
  | there {x e : Ent} {r r' : List Ent} (h : Tk r e r') : Tk (x :: r) e (x :: r')
/-- one entry put in another's place -/
inductive Sel : List Ent → Ent → Ent → List Ent → Prop
  | here {e e' : Ent} {r : List Ent} : Sel (e :: r) e e' (e' :: r)
  | there {x e e' : Ent} {r r' : List Ent} (h : Sel r e e' r') : Sel (x :: r) e e' (x :: r')
theorem Tk.mem {L : List Ent} {e : Ent} {r : List Ent} (h : Tk L e r) : ∀ x, x ∈ L ↔ x = e ∨ x ∈ r := by
  induction h with
  | here => intro x; simp
  | there _ ih => intro x; simp only [List.mem_cons, ih]; exact or_left_comm
theorem HS.take {m : Mp} {L : List Ent} {e : Ent} {r : List Ent} {h : Heap} (ht : Tk L e r) : HS m L h → HS m (e :: r) h := by
  induction ht with
  | here => exact id
  | @there x e r r' ht ih =>
    intro hs
    obtain ⟨h1, h2, h3, h4⟩ := HS.cons_iff.1 hs
    have h5 := ih h1
    obtain ⟨g1, g2, g3, g4⟩ := HS.cons_iff.1 h5
    refine HS.cons_iff.2 ⟨HS.cons_iff.2 ⟨g1, h2, h3, fun y hy => h4 y ((ht.mem y).2 (.inr hy))⟩, g2, g3, fun y hy k hk => ?_⟩
    rcases List.mem_cons.1 hy with rfl | hy
    · cases hd : y.dom k with
      | false => rfl
      | true => have := h4 e ((ht.mem e).2 (.inl rfl)) k hd; rw [hk] at this; cases this
    · exact g4 y hy k hk
theorem HS.untake {m : Mp} {L : List Ent} {e : Ent} {r : List Ent} {h : Heap} (ht : Tk L e r) : HS m (e :: r) h → HS m L h := by
  induction ht with
  | here => exact id
  | @there x e r r' ht ih =>
    intro hs
    obtain ⟨h1, h2, h3, h4⟩ := HS.cons_iff.1 hs
    obtain ⟨g1, g2, g3, g4⟩ := HS.cons_iff.1 h1
    refine HS.cons_iff.2 ⟨ih (HS.cons_iff.2 ⟨g1, h2, h3, fun y hy => h4 y (List.mem_cons_of_mem _ hy)⟩), g2, g3, fun y hy k hk => ?_⟩
    rcases (ht.mem y).1 hy with rfl | hy
    · cases hd : y.dom k with
      | false => rfl
      | true => have := h4 x (by simp) k hd; rw [hk] at this; cases this
    · exact g4 y hy k hk
theorem Sel.split {L : List Ent} {e e' : Ent} {L' : List Ent} (hs : Sel L e e' L') : ∃ r, Tk L e r ∧ Tk L' e' r := by
  induction hs with
  | here => exact ⟨_, .here, .here⟩
  | there _ ih => obtain ⟨r, h1, h2⟩ := ih; exact ⟨_, .there h1, .there h2⟩
theorem HS.sel {m : Mp} {L L' : List Ent} {e e' : Ent} {h h' : Heap} (hs : Sel L e e' L') (hh : HS m L h) (hk : ∀ r, HS m (e :: r) h → HS m (e' :: r) h') : HS m L' h' := by
  obtain ⟨r, h1, h2⟩ := hs.split
  exact (hk r (hh.take h1)).untake h2

theorem mp_none_iff {h : Heap} {b : Nat} : mp h b = none ↔ h.size ≤ b := by unfold mp; rw [Array.getElem?_eq_none_iff]

/-- the first entry changes: the rest stays -/
theorem HS.upd {m : Mp} {e e' : Ent} {r : List Ent} {h h' : Heap} (hs : HS m (e :: r) h) (ho : ∀ k, k < h.size → e.dom k = false → mp h' k = mp h k) (hi : e'.inv (mp h')) (hd : ∀ k, e'.dom k = true → e.dom k = true ∨ h.size ≤ k) : HS m (e' :: r) h' := by
  obtain ⟨⟨h1, h2, h3, h5⟩, g1, g2, g3⟩ := HS.cons_iff.1 hs
  have same : ∀ x ∈ r, ∀ k, x.dom k = true → mp h' k = mp h k := fun x hx k hk => by
    refine ho k ?_ ?_
    · rcases Nat.lt_or_ge k h.size with hlt | hge
      · exact hlt
      · exact absurd (mp_none_iff.2 hge) (x.has (h2 x hx) hk)
    · cases he : e.dom k with
      | false => rfl
      | true => have := g3 x hx k he; rw [hk] at this; cases this
  refine HS.cons_iff.2 ⟨⟨fun k o hk => ?_, fun x hx => x.loc (same x hx) (h2 x hx), h3, h5⟩, hi, fun k hk => ?_, fun x hx k hk => ?_⟩
  · have h6 := h1 k o hk
    rw [ho k (mp_some h6) ?_]
    · exact h6
    · cases he : e.dom k with
      | false => rfl
      | true => rw [g2 k he] at hk; cases hk
  · rcases hd k hk with he | he
    · exact g2 k he
    · cases hm : m k with
      | none => rfl
      | some o => have := mp_some (h1 k o hm); omega
  · cases hxk : x.dom k with
    | false => rfl
    | true =>
      rcases hd k hk with he | he
      · have := g3 x hx k he; rw [hxk] at this; cases this
      · exact absurd (mp_none_iff.2 he) (x.has (h2 x hx) hxk)
/-- a new entry: all else stays -/
theorem HS.new {m : Mp} {e' : Ent} {r : List Ent} {h h' : Heap} (hs : HS m r h) (hl : Le (mp h) (mp h')) (hi : e'.inv (mp h')) (hd : ∀ k, e'.dom k = true → mp h k = none) : HS m (e' :: r) h' := by
  have h0 : HS m (⟨fun _ => false, fun _ => True, fun _ _ => trivial, fun _ h => by cases h⟩ :: r) h := HS.cons_iff.2 ⟨hs, trivial, fun k hk => by (exact absurd hk (by simp)), fun x hx k hk => by (exact absurd hk (by simp))⟩
  refine h0.upd (fun k hk _ => ?_) hi fun k hk => .inr (mp_none_iff.1 (hd k hk))
  have : mp h k = some h[k] := by simp [mp, hk]
  rw [this]
  exact hl _ _ this
/-- what only adds to the heap keeps it -/
theorem HS.le {m : Mp} {r : List Ent} {h h' : Heap} (hs : HS m r h) (hl : Le (mp h) (mp h')) : HS m r h' :=
  (hs.new (e' := ⟨fun _ => false, fun _ => True, fun _ _ => trivial, fun _ h => by cases h⟩) hl trivial fun k hk => by (exact absurd hk (by simp))).tail

/-! ### fewer entries, in another order -/
def Pick (L L' : List Ent) : Prop := ∀ (m : Mp) (h : Heap), HS m L h → HS m L' h
theorem Pick.refl (L : List Ent) : Pick L L := fun _ _ h => h
theorem Pick.nil (L : List Ent) : Pick L [] := fun _ _ h => HS.nil h.base
theorem Pick.cons {L L' r : List Ent} {e : Ent} (ht : Tk L e r) (hp : Pick r L') : Pick L (e :: L') := fun m h hs => by
  have h0 := hs.take ht
  obtain ⟨h1, h2, h3, h4⟩ := HS.cons_iff.1 h0
  have h5 := hp m h h1
  refine HS.cons_iff.2 ⟨h5, h2, h3, fun x hx k hk => ?_⟩
  -- an entry of L' has no block of e
  have key : HS (fun j => if e.dom j then mp h j else m j) r h := by
    refine ⟨fun j o hj => ?_, h1.inv, fun x hx j hj => ?_, h1.apart⟩
    · split at hj
      · exact hj
      · exact h1.base j o hj
    · split
      · rename_i he
        have := h4 x hx j he
        rw [hj] at this
        cases this
      · exact h1.out x hx j hj
  cases hxk : x.dom k with
  | false => rfl
  | true =>
    have h6 := (hp _ h key).out x hx k hxk
    simp only [hk, if_true] at h6
    exact absurd h6 (e.has h2 hk)
theorem Pick.drop {L : List Ent} {e : Ent} : Pick (e :: L) L := fun _ _ hs => hs.tail

/-! ### the walk over such heaps -/
section
variable {P : Program} {n : Nat} {env : Env} {m : Mp} {L : List Ent} {Q : Post}

def TS (P : Program) (n : Nat) (c : Code) (env : Env) (m : Mp) (L : List Ent) (Q : Post) : Prop := ∀ h, HS m L h → T P n c env h Q
def QS (Q : Post) (e : Exit) (env : Env) (m : Mp) (L : List Ent) : Prop := ∀ h, HS m L h → Q e env h
def VS (P : Program) (n : Nat) (l0 l : List Oper) (env : Env) (m : Mp) (L : List Ent) (Q : Post) : Prop := ∀ h, HS m L h → V P n l0 l env h Q
def VTS (P : Program) (n : Nat) (l : List Oper) (wild : Nat → Bool) (t : OT) (env : Env) (m : Mp) (L : List Ent) (Q : Post) : Prop := ∀ h, HS m L h → VT P n l wild t env h Q

theorem TS_seq {a b : Code} (ht : TS P n a env m L (thenQ P n b Q)) : TS P n (.seq a b) env m L Q := fun h hs => T_seq (ht h hs)
theorem TS_block {c : Code} {id : Nat} (ht : TS P n c env m L (blockQ id Q)) : TS P n (.block id c) env m L Q := fun h hs => T_block (ht h hs)
theorem TS_scope {c : Code} (ht : TS P n c env m L (scopeQ Q)) : TS P n (.scope c) env m L Q := fun h hs => T_scope (ht h hs)
theorem TS_skip (hq : QS Q .normal env m L) : TS P n .skip env m L Q := fun h hs => T_skip (hq h hs)
theorem TS_label {l : Nat} (hq : QS Q .normal env m L) : TS P n (.label l) env m L Q := fun h hs => T_label (hq h hs)
theorem TS_exit {id : Nat} (hq : QS Q (.exit id) env m L) : TS P n (.exit id) env m L Q := fun h hs => T_exit (hq h hs)
theorem TS_ret (hq : QS Q .ret env m L) : TS P n .ret env m L Q := fun h hs => T_ret (hq h hs)
theorem TS_true {c : Operand} {a b : Code} (hc : ev env c = some (.bool true)) (ht : TS P n a env m L Q) : TS P n (.cond c a b) env m L Q := fun h hs => T_true hc (ht h hs)
theorem TS_false {c : Operand} {a b : Code} (hc : ev env c = some (.bool false)) (ht : TS P n b env m L Q) : TS P n (.cond c a b) env m L Q := fun h hs => T_false hc (ht h hs)
theorem TS_cond {c : Operand} {a b : Code} {t : Bool} (hc : ev env c = some (.bool t)) (h1 : t = true → TS P n a env m L Q) (h2 : t = false → TS P n b env m L Q) : TS P n (.cond c a b) env m L Q := fun h hs => T_cond hc (fun e => h1 e h hs) (fun e => h2 e h hs)
theorem TS_keep {c : Code} (r : Env) (hr : Sub r env) (ht : TS P n c r m L Q) : TS P n c env m L Q := fun h hs => T_keep r hr (ht h hs)
theorem TS_pick {c : Code} (L' : List Ent) (hp : Pick L L') (ht : TS P n c env m L' Q) : TS P n c env m L Q := fun h hs => ht h (hp m h hs)
theorem VS_pick {l0 l : List Oper} (L' : List Ent) (hp : Pick L L') (ht : VS P n l0 l env m L' Q) : VS P n l0 l env m L Q := fun h hs => ht h (hp m h hs)
theorem QS_pick {e : Exit} (L' : List Ent) (hp : Pick L L') (ht : QS Q e env m L') : QS Q e env m L := fun h hs => ht h (hp m h hs)

theorem QS_then {c : Code} (ht : TS P n c env m L Q) : QS (thenQ P n c Q) .normal env m L := fun h hs => thenQ_normal (ht h hs)
theorem QS_then_exit {c : Code} {i : Nat} (hq : QS Q (.exit i) env m L) : QS (thenQ P n c Q) (.exit i) env m L := fun h hs => thenQ_exit (hq h hs)
theorem QS_then_ret {c : Code} (hq : QS Q .ret env m L) : QS (thenQ P n c Q) .ret env m L := fun h hs => thenQ_ret (hq h hs)
theorem QS_block {id : Nat} (hq : QS Q .normal env m L) : QS (blockQ id Q) .normal env m L := fun h hs => blockQ_normal (hq h hs)
theorem QS_block_here {id : Nat} (hq : QS Q .normal env m L) : QS (blockQ id Q) (.exit id) env m L := fun h hs => blockQ_here (hq h hs)
theorem QS_block_out {id i : Nat} (hne : Nat.beq i id = false) (hq : QS Q (.exit i) env m L) : QS (blockQ id Q) (.exit i) env m L := fun h hs => blockQ_out hne (hq h hs)
theorem QS_block_ret {id : Nat} (hq : QS Q .ret env m L) : QS (blockQ id Q) .ret env m L := fun h hs => blockQ_ret (hq h hs)
theorem QS_scope (hq : QS Q .normal env m L) : QS (scopeQ Q) .normal env m L := fun h hs => scopeQ_normal (hq h hs)
theorem QS_scope_exit {i : Nat} (hq : QS Q (.exit i) env m L) : QS (scopeQ Q) (.exit i) env m L := fun h hs => scopeQ_exit (hq h hs)
theorem QS_scope_ret (hq : QS Q .ret env m L) : QS (scopeQ Q) .ret env m L := fun h hs => scopeQ_ret (hq h hs)

/-- a round's end -/
def roundS {α : Type} (m : Mp) (S : α → Env) (LL : α → List Ent) (F : α → Prop) (μ : α → Nat) (k : Nat) (Q : Post) : Post := roundQ S (fun y h => F y ∧ HS m (LL y) h) μ k Q
theorem QS_round_exit {α : Type} {S : α → Env} {LL : α → List Ent} {F : α → Prop} {μ : α → Nat} {k i : Nat} (hq : QS Q (.exit i) env m L) : QS (roundS m S LL F μ k Q) (.exit i) env m L := fun h hs => roundQ_exit (hq h hs)
theorem QS_round_ret {α : Type} {S : α → Env} {LL : α → List Ent} {F : α → Prop} {μ : α → Nat} {k : Nat} (hq : QS Q .ret env m L) : QS (roundS m S LL F μ k Q) .ret env m L := fun h hs => roundQ_ret (hq h hs)
theorem QS_round {α : Type} {S : α → Env} {LL : α → List Ent} {F : α → Prop} {μ : α → Nat} {k : Nat} (y : α) (hs : Sub (S y) env) (hp : Pick L (LL y)) (hF : F y) (hk : μ y < k) : QS (roundS m S LL F μ k Q) .normal env m L :=
  fun h hh => ⟨y, hs, ⟨hF, hp m h hh⟩, hk⟩
theorem TS_loop {α : Type} {c : Code} (S : α → Env) (LL : α → List Ent) (F : α → Prop) (μ : α → Nat) (y : α) (hs : Sub (S y) env) (hp : Pick L (LL y)) (hF : F y)
    (hr : ∀ (y : α), F y → TS P n c (S y) m (LL y) (roundS m S LL F μ (μ y) Q)) : TS P n (.loop c) env m L Q :=
  fun h hh => T_loop S (fun y h => F y ∧ HS m (LL y) h) μ y hs ⟨hF, hp m h hh⟩ fun y h ⟨h1, h2⟩ => hr y h1 h h2
/-- the walk cut: what is known behind a piece of code -/
theorem TS_cut {α : Type} {a b : Code} (S : α → Env) (LL : α → List Ent) (F : α → Prop) (h1 : TS P n a env m L (roundS m S LL F (fun _ => 0) 1 Q)) (h2 : ∀ y, F y → TS P n b (S y) m (LL y) Q) : TS P n a env m L (thenQ P n b Q) :=
  fun h hh => T_cut S (fun y h => F y ∧ HS m (LL y) h) (h1 h hh) fun y h ⟨a1, a2⟩ => h2 y a1 h a2

/-- the same behind two pieces of code -/
theorem TS_cut2 {α : Type} {a c b : Code} (S : α → Env) (LL : α → List Ent) (F : α → Prop) (h1 : TS P n a env m L (thenQ P n c (roundS m S LL F (fun _ => 0) 1 Q))) (h2 : ∀ y, F y → TS P n b (S y) m (LL y) Q) : TS P n a env m L (thenQ P n (.seq c b) Q) := by
  intro h hh
  refine T_mono (h1 h hh) ?_
  intro e env' h' hq
  have key : ∀ e env' h', roundS m S LL F (fun _ => 0) 1 Q e env' h' → thenQ P n b Q e env' h' := by
    intro e env' h' hq
    cases e with
    | normal =>
      obtain ⟨y, hs, ⟨hF, hH⟩, _⟩ := hq
      exact T_keep (S y) hs (h2 y hF h' hH)
    | exit i => exact hq
    | goto l => exact hq
    | ret => exact hq
    | panic c => exact hq
    | outgrown => exact hq
  cases e with
  | normal => exact T_seq (T_mono hq key)
  | exit i => exact hq
  | goto l => exact hq
  | ret => exact hq
  | panic c => exact hq
  | outgrown => exact hq

theorem TS_cut3 {α : Type} {a c b : Code} (S : α → Env) (LL : α → List Ent) (F : α → Prop) (h1 : TS P n a env m L (thenQ P n c (roundS m S LL F (fun _ => 0) 1 Q))) (h2 : ∀ y, F y → TS P n b (S y) m (LL y) Q) : TS P n a env m L (thenQ P n c (thenQ P n b Q)) := by
  intro h hh
  refine T_mono (h1 h hh) ?_
  intro e env' h' hq
  have key : ∀ e env' h', roundS m S LL F (fun _ => 0) 1 Q e env' h' → thenQ P n b Q e env' h' := by
    intro e env' h' hq
    cases e with
    | normal =>
      obtain ⟨y, hs, ⟨hF, hH⟩, _⟩ := hq
      exact T_keep (S y) hs (h2 y hF h' hH)
    | exit i => exact hq
    | goto l => exact hq
    | ret => exact hq
    | panic c => exact hq
    | outgrown => exact hq
  cases e with
  | normal => exact T_mono hq key
  | exit i => exact hq
  | goto l => exact hq
  | ret => exact hq
  | panic c => exact hq
  | outgrown => exact hq

/-! ### operations -/
variable {l0 l : List Oper} {o : Oper} {v : Value} {d : Nat}
theorem TS_region {id : Nat} (hv : VS P n l0 l0 env m L Q) : TS P n (.region id l0.toArray false) env m L Q := fun h hs => T_region (hv h hs)
theorem VS_nil (hq : QS Q .normal env m L) : VS P n l0 [] env m L Q := fun h hs => V_nil (hq h hs)
theorem VS_pure (hr : PureV P n o env v) (hd : o.dst = some d) (hn : Nat.blt d n = true) (hw : wanted l0 env o = some true) (hk : VS P n l0 l ((d, v) :: env) m L Q) : VS P n l0 (o :: l) env m L Q := fun h hs => V_pure hr hd hn hw (hk h hs)
theorem VS_read (hr : ∀ h, HS m L h → ReadV P n o env h v) (hd : o.dst = some d) (hn : Nat.blt d n = true) (hw : wanted l0 env o = some true) (hk : VS P n l0 l ((d, v) :: env) m L Q) : VS P n l0 (o :: l) env m L Q := fun h hs => V_read (hr h hs) hd hn hw (hk h hs)
theorem VS_skip (hw : wanted l0 env o = some false) (hd : o.dst = some d) (hn : Nat.blt d n = true) (hk : VS P n l0 l ((d, undef) :: env) m L Q) : VS P n l0 (o :: l) env m L Q := fun h hs => V_skip hw hd hn (hk h hs)
theorem VS_if {p : Prop} [Decidable p] (hr : PureV P n o env (.bool (decide p))) (hd : o.dst = some d) (hn : Nat.blt d n = true) (hw : wanted l0 env o = some true)
    (h1 : p → VS P n l0 l ((d, .bool true) :: env) m L Q) (h2 : ¬ p → VS P n l0 l ((d, .bool false) :: env) m L Q) : VS P n l0 (o :: l) env m L Q := fun h hs => V_if hr hd hn hw (fun hp => h1 hp h hs) (fun hp => h2 hp h hs)
theorem VS_keep (r : Env) (hr : Sub r env) (hk : VS P n l0 l r m L Q) : VS P n l0 l env m L Q := fun h hs => V_keep r hr (hk h hs)

/-- an effect: what it does to the heap's entries -/
def StepS (P : Program) (n : Nat) (Q : Post) (o : Oper) (env : Env) (m : Mp) (L : List Ent) (kept : Bool) (K : Env → List Ent → Prop) : Prop :=
  ∀ h, HS m L h → Step P n Q o env h fun env' h' => (kept = true → Le (mp h) (mp h')) ∧ ∃ L', HS m L' h' ∧ K env' L'
theorem VS_step {kept : Bool} (hs : StepS P n Q o env m L kept fun env' L' => VS P n l0 l env' m L' Q) (hw : wanted l0 env o = some true) : VS P n l0 (o :: l) env m L Q :=
  fun h hh => V_step ((hs h hh).mono fun _ _ ⟨_, _, h1, h2⟩ => h2 _ h1) hw

/-! drawn regions -/
variable {wild : Nat → Bool} {t : OT} {i : Nat}
theorem TS_draw {id : Nat} (t : OT) (hm : P.follows .mixedOrders = true) (hck : checkT l t = true) (hQ : ∀ c env env' h, Q (.panic c) env h → Q (.panic c) env' h)
    (hv : VTS P n l (wildT t) t env m L Q) : TS P n (.region id l.toArray true) env m L Q := fun h hs => T_drawT t hm hck hQ (hv h hs)
theorem VTS_nil (hq : QS Q .normal env m L) : VTS P n l wild .done env m L Q := fun h hs => VT_nil (hq h hs)
theorem VTS_fork {s : OT} (h1 : VTS P n l wild s env m L Q) (h2 : VTS P n l wild t env m L Q) : VTS P n l wild (.fork s t) env m L Q := fun h hs => VT_fork (h1 h hs) (h2 h hs)
theorem VTS_pure (ho : nth l i = some o) (hr : PureV P n o env v) (hd : o.dst = some d) (hn : Nat.blt d n = true) (hw : wanted l env o = some true) (hk : VTS P n l wild t ((d, v) :: env) m L Q) : VTS P n l wild (.step i .pure t) env m L Q := fun h hs => VT_pure ho hr hd hn hw (hk h hs)
theorem VTS_read (ho : nth l i = some o) (hr : ∀ h, HS m L h → ReadV P n o env h v) (hd : o.dst = some d) (hn : Nat.blt d n = true) (hw : wanted l env o = some true) (hk : VTS P n l wild t ((d, v) :: env) m L Q) : VTS P n l wild (.step i .read t) env m L Q := fun h hs => VT_read ho (hr h hs) hd hn hw (hk h hs)
theorem VTS_readp (ho : nth l i = some o) (hr : PureV P n o env v) (hd : o.dst = some d) (hn : Nat.blt d n = true) (hw : wanted l env o = some true) (hk : VTS P n l wild t ((d, v) :: env) m L Q) : VTS P n l wild (.step i .read t) env m L Q := fun h hs => VT_read ho hr.read hd hn hw (hk h hs)
theorem VTS_skip {k : Kd} (hq : k.quiet = true) (ho : nth l i = some o) (hw : wanted l env o = some false) (hd : o.dst = some d) (hn : Nat.blt d n = true) (hk : VTS P n l wild t ((d, undef) :: env) m L Q) : VTS P n l wild (.step i k t) env m L Q := fun h hs => VT_skip hq ho hw hd hn (hk h hs)
theorem VTS_skipE {k : Kd} (hq : k.quiet = false) (ho : nth l i = some o) (hw : wanted l env o = some false) (hd : o.dst = some d) (hn : Nat.blt d n = true) (hk : VTS P n l wild t ((d, undef) :: env) m L Q) : VTS P n l wild (.step i k t) env m L Q := fun h hs => VT_skipE hq ho hw hd hn (hk h hs)
theorem VTS_if {p : Prop} [Decidable p] (ho : nth l i = some o) (hr : PureV P n o env (.bool (decide p))) (hd : o.dst = some d) (hn : Nat.blt d n = true) (hw : wanted l env o = some true)
    (h1 : p → VTS P n l wild t ((d, .bool true) :: env) m L Q) (h2 : ¬ p → VTS P n l wild t ((d, .bool false) :: env) m L Q) : VTS P n l wild (.step i .pure t) env m L Q := fun h hs => VT_if ho hr hd hn hw (fun hp => h1 hp h hs) (fun hp => h2 hp h hs)
theorem VTS_kept (ho : nth l i = some o) (hs : StepS P n Q o env m L true fun env' L' => VTS P n l wild t env' m L' Q) (hw : wanted l env o = some true) : VTS P n l wild (.step i .kept t) env m L Q :=
  fun h hh => VT_kept ho ((hs h hh).mono fun _ _ ⟨h0, _, h1, h2⟩ => ⟨h0 rfl, h2 _ h1⟩) hw
theorem VTS_wild {kept : Bool} (ho : nth l i = some o) (hwl : wild i = true) (hs : StepS P n Q o env m L kept fun env' L' => VTS P n l wild t env' m L' Q) (hw : wanted l env o = some true) : VTS P n l wild (.step i .wild t) env m L Q :=
  fun h hh => VT_wild ho hwl ((hs h hh).mono fun _ _ ⟨_, _, h1, h2⟩ => h2 _ h1) hw
theorem VTS_keep (r : Env) (hr : Sub r env) (hk : VTS P n l wild t r m L Q) : VTS P n l wild t env m L Q := fun h hs x d a ha => hk h hs x d a (ha.sub hr)
theorem VTS_pick (L' : List Ent) (hp : Pick L L') (hk : VTS P n l wild t env m L' Q) : VTS P n l wild t env m L Q := fun h hs => hk h (hp m h hs)
end

/-! ### reads -/
section
variable {P : Program} {n : Nat} {env : Env} {m : Mp} {L r : List Ent} {Q : Post} {K : Env → List Ent → Prop} {dst : Option Tmp} {d : Nat} {ty : TypeId} {pos : String} {aft : Array Edge} {gd : Option (Nat × Bool)} {t : TypeId} {x y : Operand} {v : Value} {kept : Bool}

theorem HS.get {h : Heap} {e : Ent} (hs : HS m L h) (ht : Tk L e r) : e.inv (mp h) := hs.inv e ((ht.mem e).2 (.inl rfl))
/-- a cell of the base -/
theorem S_load {a : Addr} (ht : single P t = true) (hx : ev env x = some (.pointer (some a))) (hc : mc m a = some v) : ∀ h, HS m L h → ReadV P n ⟨dst, .load t x, ty, pos, aft, gd⟩ env h v :=
  fun _ hs => R_load ht hx (mc_mono hs.base hc)
theorem S_loadAt {a : Addr} {l : List Value} {q : Nat} (ht : aggSize P t = some q) (hx : ev env x = some (.pointer (some a))) (hl : l.length = q) (hc : At m a l) : ∀ h, HS m L h → ReadV P n ⟨dst, .load t x, ty, pos, aft, gd⟩ env h (.agg l.toArray) :=
  fun _ hs => R_loadAt ht hx hl (hc.mono hs.base)
/-- a cell of an entry -/
theorem S_loadB {b i : Nat} {l : List Value} {e : TypeId} (ht : single P t = true) (hx : ev env x = some (.pointer (some ⟨b, i, none⟩))) (hT : Tk L (cel b l e) r) (hv : vnth l i = some v) : ∀ h, HS m L h → ReadV P n ⟨dst, .load t x, ty, pos, aft, gd⟩ env h v :=
  fun _ hs => R_load ht hx (mc_blk (hs.get hT) hv)
theorem S_loadBA {b q : Nat} {l : List Value} {e : TypeId} (ht : aggSize P t = some q) (hx : ev env x = some (.pointer (some ⟨b, 0, none⟩))) (hT : Tk L (cel b l e) r) (hl : l.length = q) : ∀ h, HS m L h → ReadV P n ⟨dst, .load t x, ty, pos, aft, gd⟩ env h (.agg l.toArray) :=
  fun _ hs => R_loadAt ht hx hl (At.blk (hs.get hT))
theorem S_loadBO {b o q : Nat} {l : List Value} {e : TypeId} (ht : aggSize P t = some q) (hx : ev env x = some (.pointer (some ⟨b, o, none⟩))) (hT : Tk L (cel b l e) r) (hl : ((l.drop o).take q).length = q) : ∀ h, HS m L h → ReadV P n ⟨dst, .load t x, ty, pos, aft, gd⟩ env h (.agg ((l.drop o).take q).toArray) :=
  fun _ hs => R_loadAt ht hx hl (At.blkO (hs.get hT))
/-- a cell of a slice of the call's own -/
theorem S_loadO {A : Option Addr} {e sz k c i : Nat} {xs : List Value} (ht : single P t = true) (hx : ev env x = some (.pointer (some ((sa A).add i)))) (hT : Tk L (own e sz A k c xs) r) (hv : xs[i]? = some v) : ∀ h, HS m L h → ReadV P n ⟨dst, .load t x, ty, pos, aft, gd⟩ env h v :=
  fun _ hs => R_load ht hx ((Own.rd (hs.get hT)).at_ hv)
theorem S_loadOA {A : Option Addr} {e sz k c i q : Nat} {xs : List Value} (ht : aggSize P t = some q) (hx : ev env x = some (.pointer (some ((sa A).add i)))) (hT : Tk L (own e sz A k c xs) r) (hl : ((xs.drop i).take q).length = q) : ∀ h, HS m L h → ReadV P n ⟨dst, .load t x, ty, pos, aft, gd⟩ env h (.agg ((xs.drop i).take q).toArray) :=
  fun _ hs => R_loadAt ht hx hl ((Own.rd (hs.get hT)).elem i q)
theorem S_bstr {A : Option Addr} {k c src dk : Nat} {l : List UInt8} (hs : isBytes P src = true) (hd : isStr P dk = true) (hx : ev env x = some (.slice A k c)) (hm : l.length = k) (hr : Rd m A (l.map byteV)) :
    ∀ h, HS m L h → ReadV P n ⟨dst, .convert src dk x, ty, pos, aft, gd⟩ env h (.string (bs l)) := fun _ hh => R_bstr hs hd hx hm (hr.mono hh.base)

/-! ### new blocks -/
theorem S_box {elem : TypeId} (hx : ev env x = some v) (hn : Nat.blt d n = true) (hk : ∀ b, K ((d, .pointer (some ⟨b, 0, none⟩)) :: env) (cel b v.cells.toList elem :: L)) : StepS P n Q ⟨some d, .box elem x, ty, pos, aft, gd⟩ env m L true K := fun h hs =>
  E_box hx hn fun b h' hn' hb hl => ⟨fun _ => hl, _, hs.new (e' := cel b v.cells.toList elem) hl (by show mp h' b = _; simpa using hb) fun k hk => by have := Nat.eq_of_beq_eq_true hk; subst this; exact hn', hk b⟩
theorem S_alloc {elem : TypeId} {z : List Value} (hz : zeroL P elem = some z) (hn : Nat.blt d n = true) (hk : ∀ b, K ((d, .pointer (some ⟨b, 0, none⟩)) :: env) (cel b z elem :: L)) : StepS P n Q ⟨some d, .alloc elem, ty, pos, aft, gd⟩ env m L true K := fun h hs =>
  E_alloc hz hn fun b h' hn' hb hl => ⟨fun _ => hl, _, hs.new (e' := cel b z elem) hl hb fun k hk => by have := Nat.eq_of_beq_eq_true hk; subst this; exact hn', hk b⟩
theorem S_buildSlice {len e sz by_ : Nat} {z cs : List Value} {parts : List (Nat × Operand)} {ps : List (Nat × Value)} (hs : slInfo P t = some (e, sz, by_, z)) (hx : evp env parts = some ps)
    (hsmall : Nat.ble (len * sz) 16777216 = true) (hf : fillS sz (rowZ (if len * sz = 0 then [] else z) (len * sz)) ps = some cs) (hn : Nat.blt d n = true)
    (hk : ∀ b, K ((d, .slice (some ⟨b, 0, none⟩) len len) :: env) (cel b cs e :: L)) : StepS P n Q ⟨some d, .buildSlice t len parts.toArray, ty, pos, aft, gd⟩ env m L true K := fun h hh =>
  E_buildSlice hs hx hsmall hf hn fun b h' hn' hb hl => ⟨fun _ => hl, _, hh.new (e' := cel b cs e) hl hb fun k hk => by have := Nat.eq_of_beq_eq_true hk; subst this; exact hn', hk b⟩

/-! ### stores -/
/-- a cell of a row of cells, put in another's place -/
inductive USet : List Value → Nat → Value → List Value → Prop
  | here {u v : Value} {r : List Value} : USet (u :: r) 0 v (v :: r)
  | there {u v : Value} {r r' : List Value} {i : Nat} (h : USet r i v r') : USet (u :: r) (i + 1) v (u :: r')
theorem USet.eq {l l' : List Value} {i : Nat} (h : USet l i v l') : i < l.length ∧ l' = l.set i v := by
  induction h with
  | here => simp
  | there _ ih => obtain ⟨h1, h2⟩ := ih; exact ⟨by simp; omega, by simp [h2]⟩
theorem dom_cel {b k : Nat} {o : Obj} (hk : (blk b o).dom k = true) : k = b := (Nat.eq_of_beq_eq_true hk).symm
theorem S_store {b i : Nat} {l l' : List Value} {e : TypeId} {L' : List Ent} (ht : cells1 P t = true) (hx : ev env x = some (.pointer (some ⟨b, i, none⟩))) (hy : ev env y = some v) (hv : oneV v = true)
    (hT : Sel L (cel b l e) (cel b l' e) L') (hu : USet l i v l') (hk : K env L') : StepS P n Q ⟨none, .store t x y, ty, pos, aft, gd⟩ env m L false K := fun h hs => by
  obtain ⟨r, h1, h2⟩ := hT.split
  obtain ⟨hi, rfl⟩ := hu.eq
  have h3 := hs.take h1
  refine E_store ht hx hy hv (show mp h b = some (.cells l.toArray e (0, 0)) from h3.head) (by simpa [Nat.blt_eq] using hi) fun h' g1 g2 g3 => ⟨(fun hf => by cases hf), L', (h3.upd (e' := cel b (l.set i v) e) (fun k _ hk => g2 k ?_) g1 fun k hk => .inl hk).untake h2, hk⟩
  rintro rfl
  simp [blk] at hk
theorem S_storeAgg {b q : Nat} {l vs : List Value} {e : TypeId} {L' : List Ent} (ht : aggSize P t = some q) (hx : ev env x = some (.pointer (some ⟨b, 0, none⟩))) (hy : ev env y = some (.agg vs.toArray)) (hq : Nat.beq vs.length q = true)
    (hT : Sel L (cel b l e) (cel b vs e) L') (hl : Nat.beq l.length q = true) (h1 : vs.all oneV = true) (hk : K env L') : StepS P n Q ⟨none, .store t x y, ty, pos, aft, gd⟩ env m L false K := fun h hs => by
  obtain ⟨r, g1, g2⟩ := hT.split
  have h3 := hs.take g1
  refine E_storeAgg ht hx hy hq (show mp h b = some (.cells l.toArray e (0, 0)) from h3.head) hl h1 fun h' k1 k2 k3 => ⟨(fun hf => by cases hf), L', (h3.upd (e' := cel b vs e) (fun k _ hk => k2 k ?_) k1 fun k hk => .inl hk).untake g2, hk⟩
  rintro rfl
  simp [blk] at hk
theorem S_storeO {A : Option Addr} {e k c i : Nat} {xs : List Value} {L' : List Ent} (ht : cells1 P t = true) (hx : ev env x = some (.pointer (some ((sa A).add i)))) (hy : ev env y = some v) (hv : oneV v = true)
    (hT : Sel L (own e 1 A k c xs) (own e 1 A k c (xs.set i v)) L') (hi : i < k) (hk : K env L') : StepS P n Q ⟨none, .store t x y, ty, pos, aft, gd⟩ env m L false K := fun h hs => by
  obtain ⟨r, h1, h2⟩ := hT.split
  have h3 := hs.take h1
  exact E_storeOwn ht hx hy hv (show Own (mp h) e 1 A k c xs from h3.head) hi fun h' g1 g2 g3 => ⟨(fun hf => by cases hf), L', (h3.upd (e' := own e 1 A k c (xs.set i v)) (fun k _ hk => g2 k hk) g1 fun k hk => .inl hk).untake h2, hk⟩

/-! ### append -/
theorem Own.ofCel {m : Mp} {b e sz k : Nat} {l : List Value} (hb : m b = some (.cells l.toArray e (0, 0))) (hl : l.length = k * sz) (hm : k ≤ maxLen) : Own m e sz (some ⟨b, 0, none⟩) k k l := Own.new hb hl hm
theorem S_appendR {A A2 : Option Addr} {k c j c2 e sz by_ : Nat} {z xs news : List Value} {L' : Option Addr → Nat → List Ent} (hs : slInfo P t = some (e, sz, by_, z)) (hsz : Nat.blt 0 sz = true) (hzl : z.length = sz)
    (hx : ev env x = some (.slice A k c)) (hy : ev env y = some (.slice A2 j c2)) (hT : ∀ A' c', Sel L (own e sz A k c xs) (own e sz A' (k + j) c' (xs ++ news)) (L' A' c')) (hr : ∀ h, HS m L h → Rd (mp h) A2 news) (hl : news.length = j * sz) (h1 : ∀ u ∈ news, oneV u = true)
    (hm : k + j ≤ maxLen) (hb : (k + j) * by_ ≤ 140737488355328) (hn : Nat.blt d n = true) (hk : ∀ A' c', K ((d, .slice A' (k + j) c') :: env) (L' A' c')) :
    StepS P n Q ⟨some d, .call ⟨.builtin .append, #[x, y], #[t, t]⟩, ty, pos, aft, gd⟩ env m L false K := fun h hh => by
  obtain ⟨r, h2, _⟩ := (hT none 0).split
  have h3 := hh.take h2
  refine E_append hs hsz hzl hx hy (show Own (mp h) e sz A k c xs from h3.head) (hr h hh) hl h1 hm hb hn fun A' c' h' g1 g2 => ⟨(fun hf => by cases hf), L' A' c', ?_, hk A' c'⟩
  refine hh.sel (hT A' c') fun r h4 => h4.upd (e' := own e sz A' (k + j) c' (xs ++ news)) (fun i hi hd => g2.other i hi ?_) g1 fun i hi => ?_
  · intro e
    have hd' : inB A i = false := hd
    simp [inB, ← e] at hd'
  · have : inB A' i = true := hi
    simp only [inB, beq_iff_eq] at this
    rcases g2.at_ with e | e
    · left; show inB A i = true; rw [e] at this; simp [inB, this]
    · right; rw [e] at this; injection this with this; omega
/-- of a slice literal -/
theorem S_append {A : Option Addr} {b k c j c2 e e2 sz by_ : Nat} {z xs news : List Value} {L' : Option Addr → Nat → List Ent} {r : List Ent} (hs : slInfo P t = some (e, sz, by_, z)) (hsz : Nat.blt 0 sz = true) (hzl : z.length = sz)
    (hx : ev env x = some (.slice A k c)) (hy : ev env y = some (.slice (some ⟨b, 0, none⟩) j c2)) (hT2 : Tk L (cel b news e2) r) (hT : ∀ A' c', Sel L (own e sz A k c xs) (own e sz A' (k + j) c' (xs ++ news)) (L' A' c')) (hl : news.length = j * sz) (h1 : news.all oneV = true)
    (hm : k + j ≤ maxLen) (hb : (k + j) * by_ ≤ 140737488355328) (hn : Nat.blt d n = true) (hk : ∀ A' c', K ((d, .slice A' (k + j) c') :: env) (L' A' c')) :
    StepS P n Q ⟨some d, .call ⟨.builtin .append, #[x, y], #[t, t]⟩, ty, pos, aft, gd⟩ env m L false K :=
  S_appendR hs hsz hzl hx hy hT (fun _ hh => Rd.blk (hh.get hT2)) hl (by rw [List.all_eq_true] at h1; exact h1) hm hb hn hk
/-- a nil slice, as one of the call's own -/
theorem HS.nilOwn {h : Heap} (e sz : Nat) (hs : HS m L h) : HS m (own e sz none 0 0 [] :: L) h := HS.cons_iff.2 ⟨hs, Own.nil _ _ _, (fun k hk => by cases hk), (fun x hx k hk => by cases hk)⟩
theorem HS.celOwn {h : Heap} {b e sz k : Nat} {l : List Value} (hl : l.length = k * sz) (hm : k ≤ maxLen) (hs : HS m (cel b l e :: L) h) : HS m (own e sz (some ⟨b, 0, none⟩) k k l :: L) h :=
  hs.upd (fun _ _ _ => rfl) (Own.ofCel hs.head hl hm) fun j hj => .inl (by have : inB (some ⟨b, 0, none⟩) j = true := hj; simp [inB, ownB] at this; subst this; exact Nat.beq_refl _)
theorem TS_nilOwn {c : Code} (e sz : Nat) (ht : TS P n c env m (own e sz none 0 0 [] :: L) Q) : TS P n c env m L Q := fun h hs => ht h (hs.nilOwn e sz)
theorem VS_nilOwn {l0 l : List Oper} (e sz : Nat) (ht : VS P n l0 l env m (own e sz none 0 0 [] :: L) Q) : VS P n l0 l env m L Q := fun h hs => ht h (hs.nilOwn e sz)
theorem VS_celOwn {l0 l : List Oper} {b e sz k : Nat} {cs : List Value} {L' : List Ent} (hT : Sel L (cel b cs e) (own e sz (some ⟨b, 0, none⟩) k k cs) L') (hl : cs.length = k * sz) (hm : k ≤ maxLen) (ht : VS P n l0 l env m L' Q) : VS P n l0 l env m L Q :=
  fun h hs => ht h (hs.sel hT fun _ h2 => h2.celOwn hl hm)

/-! ### ranges over strings -/
def iter (b : Nat) (s : List UInt8) (p : Nat) : Ent := blk b (.stringIter (bs s) p)
theorem S_range {s : List UInt8} (ht : isStr P t = true) (hx : ev env x = some (.string (bs s))) (hn : Nat.blt d n = true) (hk : ∀ b, K ((d, .pointer (some ⟨b, 0, none⟩)) :: env) (iter b s 0 :: L)) : StepS P n Q ⟨some d, .range t x, ty, pos, aft, gd⟩ env m L true K := fun h hs =>
  step_of_run rfl hn fun fx dr a ha => by
    refine ⟨h.push (.stringIter (bs s) 0), dr, ?_, fun _ => mp_push h _, _, hs.new (e' := iter h.size s 0) (mp_push h _) (mp_push_new h _) (fun k hk => by have := dom_cel hk; subst this; exact mp_none h), hk _⟩
    have := run_range_string (P := P) (W fx h dr) t (bs s) (str_of ht)
    simp only [execOp, ha.eval hx, this, Sem.run_bind, Result.andThen_ok]
    rfl
theorem S_next {b p : Nat} {s : List UInt8} {L' : List Ent} (hx : ev env x = some (.pointer (some ⟨b, 0, none⟩))) (hp : p < s.length) (hT : Sel L (iter b s p) (iter b s (p + (Utf8.decode (bs s) p).2)) L') (hn : Nat.blt d n = true)
    (hk : K ((d, .tuple [.bool true, .int .i64 p, .int .i32 (Utf8.decode (bs s) p).1].toArray) :: env) L') : StepS P n Q ⟨some d, .next x true, ty, pos, aft, gd⟩ env m L false K := fun h hs => by
  obtain ⟨r, h1, h2⟩ := hT.split
  have h3 := hs.take h1
  have hb : h[b]? = some (.stringIter (bs s) p) := h3.head
  have hsz : p < (bs s).size := by rw [bs_size]; exact hp
  refine step_of_run (v := .tuple [.bool true, .int .i64 p, .int .i32 (Utf8.decode (bs s) p).1].toArray) rfl hn fun fx dr a ha => ?_
  have hblt : b < h.size := by have := (Array.getElem?_eq_some_iff.1 hb).1; exact this
  refine ⟨h.setIfInBounds b (.stringIter (bs s) (p + (Utf8.decode (bs s) p).2)), dr, ?_, (fun hf => by cases hf), L', (h3.upd (e' := iter b s (p + (Utf8.decode (bs s) p).2)) (fun k _ hk => ?_) (by show mp _ b = _; simp [mp, hblt]) fun k hk => .inl hk).untake h2, hk⟩
  · have hb' : (W fx h dr).heap[b]? = some (.stringIter (bs s) p) := hb
    simp only [execOp, ha.eval hx, Instr.next, getObj, setObj, Sem.run_bind, Sem.run, hb', Result.andThen, hsz, if_true]
    simp [goInt, Sem.run, hb', W]
  · have hne : b ≠ k := by rintro rfl; simp [iter, blk] at hk
    simp [mp, Array.getElem?_setIfInBounds, hne]
theorem S_nextEnd {b p : Nat} {s : List UInt8} {r : List Ent} (hx : ev env x = some (.pointer (some ⟨b, 0, none⟩))) (hp : ¬ p < s.length) (hT : Tk L (iter b s p) r) (hn : Nat.blt d n = true)
    (hk : K ((d, .tuple [.bool false].toArray) :: env) L) : StepS P n Q ⟨some d, .next x true, ty, pos, aft, gd⟩ env m L true K := fun h hs => by
  have hb : h[b]? = some (.stringIter (bs s) p) := hs.get hT
  have hsz : ¬ p < (bs s).size := by rw [bs_size]; exact hp
  refine step_of_run rfl hn fun fx dr a ha => ⟨h, dr, ?_, fun _ => Le.refl _, L, hs, hk⟩
  have hb' : (W fx h dr).heap[b]? = some (.stringIter (bs s) p) := hb
  simp [execOp, ha.eval hx, Instr.next, getObj, Sem.run, hb', hsz]
end

/-! ### calls -/
/-- A function's contract: which of the heap it needs, what it leaves there; all else stays. -/
def CS (P : Program) (f : FuncId) (args : List Value) (m : Mp) (pre : List Ent) (post : Value → List Ent → Prop) : Prop :=
  ∀ h, HS m pre h → C P f args.toArray h fun v h' => ∃ L', post v L' ∧ HS m L' h'
def postS (m : Mp) (post : Value → List Ent → Prop) : Value → Heap → Prop := fun v h' => ∃ L', post v L' ∧ HS m L' h'
theorem CS.mono {P : Program} {f : FuncId} {args : List Value} {m : Mp} {pre : List Ent} {post post' : Value → List Ent → Prop} (hc : CS P f args m pre post) (hp : ∀ v L', post v L' → post' v L') : CS P f args m pre post' :=
  fun h hs => (hc h hs).mono fun _ _ ⟨L', h1, h2⟩ => ⟨L', hp _ _ h1, h2⟩
/-- the value of results -/
def RvS (P : Program) (env : Env) (L : List Ent) : ResultVar → Value → Prop
  | .tmp t, v => lk env t = some v
  | .cell a t, v => ∃ b l tt r, lk env a = some (.pointer (some ⟨b, 0, none⟩)) ∧ Tk L (cel b l tt) r ∧ ((single P t = true ∧ l = [v]) ∨ (aggSize P t = some l.length ∧ v = .agg l.toArray))
def RvsS (P : Program) (env : Env) (L : List Ent) : List ResultVar → List Value → Prop
  | [], [] => True
  | r :: rs, v :: vs => RvS P env L r v ∧ RvsS P env L rs vs
  | _, _ => False
theorem RvsS.ok {P : Program} {env : Env} {m : Mp} {L : List Ent} {h : Heap} (hs : HS m L h) : ∀ {rs : List ResultVar} {vs : List Value}, RvsS P env L rs vs → RvsOk P env h rs vs
  | [], [], _ => trivial
  | .tmp _ :: _, _ :: _, hr => ⟨hr.1, RvsS.ok hs hr.2⟩
  | .cell a t :: _, v :: _, hr => by
    obtain ⟨⟨b, l, tt, r, h1, h2, h3⟩, hr2⟩ := hr
    have h4 : mp h b = some (.cells l.toArray tt (0, 0)) := hs.get h2
    refine ⟨⟨_, h1, ?_⟩, RvsS.ok hs hr2⟩
    rcases h3 with ⟨h5, rfl⟩ | ⟨h5, rfl⟩
    · exact .inl ⟨h5, mc_blk h4 rfl⟩
    · exact .inr ⟨l, h5, At.blk h4, rfl⟩
theorem CS_of {P : Program} {f : FuncId} {fn : Func} {c : Code} {l : List Value} {m : Mp} {pre : List Ent} {post : Value → List Ent → Prop} (rs : List ResultVar) (hf : P.funcs[f]? = some fn) (hb : fn.body = some c) (hrs : fn.results = rs.toArray)
    (hl : Nat.ble l.length fn.ntmps = true) (ht : TS P fn.ntmps c (env0 l 0) m pre (retC P rs (postS m post))) : CS P f l m pre post :=
  fun h hs => C_ofc rs hf hb hrs hl (ht h hs)
theorem QS_ret {P : Program} {rs : List ResultVar} {env : Env} {m : Mp} {L : List Ent} {post : Value → List Ent → Prop} (vs : List Value) (hv : RvsS P env L rs vs) (L' : List Ent) (hp : Pick L L') (hq : post (tup vs) L') : QS (retC P rs (postS m post)) .ret env m L :=
  fun h hs => ⟨vs, hv.ok hs, L', hq, hp m h hs⟩
theorem QS_retN {P : Program} {rs : List ResultVar} {env : Env} {m : Mp} {L : List Ent} {post : Value → List Ent → Prop} (vs : List Value) (hv : RvsS P env L rs vs) (L' : List Ent) (hp : Pick L L') (hq : post (tup vs) L') : QS (retC P rs (postS m post)) .normal env m L :=
  fun h hs => ⟨vs, hv.ok hs, L', hq, hp m h hs⟩

/-- the entries hold in this map -/
def HE (L : List Ent) (m : Mp) : Prop := ∀ e ∈ L, e.inv m
/-- what an entry leaves out of sight -/
def away (e : Ent) (m : Mp) : Mp := fun k => if e.dom k then none else m k
section
variable {P : Program} {n : Nat} {env : Env} {m : Mp} {L r : List Ent} {Q : Post} {K : Env → List Ent → Prop} {d : Nat} {ty : TypeId} {pos : String} {aft : Array Edge} {gd : Option (Nat × Bool)}

theorem HS.frame0 {h h' : Heap} {L' : List Ent} (hs : HS m L h) (hc : HS (mp h) L' h') : HS m (L' ++ L) h' := by
  have h0 := hs.le hc.base
  refine ⟨h0.base, fun e he => ?_, fun e he k hk => ?_, List.pairwise_append.2 ⟨hc.apart, h0.apart, fun a ha b hb k hk => ?_⟩⟩
  · rcases List.mem_append.1 he with he | he
    · exact hc.inv e he
    · exact h0.inv e he
  · rcases List.mem_append.1 he with he | he
    · exact Le.none hs.base (hc.out e he k hk)
    · exact h0.out e he k hk
  · cases hbk : b.dom k with
    | false => rfl
    | true => exact absurd (hc.out a ha k hk) (b.has (hs.inv b hb) hbk)
theorem HS.frame1 {h h' : Heap} {e : Ent} {L' : List Ent} (hs : HS m (e :: r) h) (hc : HS (away e (mp h)) L' h') : HS m (L' ++ r) h' := by
  obtain ⟨h1, h2, h3, h4⟩ := HS.cons_iff.1 hs
  have same : ∀ x ∈ r, ∀ k, x.dom k = true → away e (mp h) k = mp h k := fun x hx k hk => by
    unfold away
    rw [if_neg]
    intro he
    have := h4 x hx k he
    rw [hk] at this
    cases this
  have keep : ∀ k o, away e (mp h) k = some o → mp h' k = some o := hc.base
  have same2 : ∀ x ∈ r, ∀ k, x.dom k = true → mp h' k = mp h k := fun x hx k hk => by
    have h5 := same x hx k hk
    cases h6 : mp h k with
    | none => exact absurd h6 (x.has (h1.inv x hx) hk)
    | some o => exact keep k o (by rw [h5, h6])
  have base : Le m (away e (mp h)) := fun k o hk => by
    unfold away
    rw [if_neg]
    · exact h1.base k o hk
    · intro he; rw [h3 k he] at hk; cases hk
  refine ⟨base.trans hc.base, fun x hx => ?_, fun x hx k hk => ?_, List.pairwise_append.2 ⟨hc.apart, h1.apart, fun a ha b hb k hk => ?_⟩⟩
  · rcases List.mem_append.1 hx with hx | hx
    · exact hc.inv x hx
    · exact x.loc (same2 x hx) (h1.inv x hx)
  · rcases List.mem_append.1 hx with hx | hx
    · exact Le.none base (hc.out x hx k hk)
    · exact h1.out x hx k hk
  · cases hbk : b.dom k with
    | false => rfl
    | true =>
      have h5 := hc.out a ha k hk
      rw [same b hb k hbk] at h5
      exact absurd h5 (b.has (h1.inv b hb) hbk)
theorem HS.away {h : Heap} {e : Ent} (hs : HS m (e :: r) h) : HS (away e (mp h)) [e] h ∧ Le m (away e (mp h)) ∧ HE r (Eng.away e (mp h)) := by
  obtain ⟨h1, h2, h3, h4⟩ := HS.cons_iff.1 hs
  refine ⟨⟨fun k o hk => ?_, fun x hx => ?_, fun x hx k hk => ?_, List.pairwise_singleton _ _⟩, fun k o hk => ?_, fun x hx => ?_⟩
  · unfold Eng.away at hk
    split at hk
    · cases hk
    · exact hk
  · rw [List.mem_singleton.1 hx]; exact h2
  · rw [List.mem_singleton.1 hx] at hk
    simp [Eng.away, hk]
  · unfold Eng.away
    rw [if_neg]
    · exact h1.base k o hk
    · intro he; rw [h3 k he] at hk; cases hk
  · refine x.loc (fun k hk => ?_) (h1.inv x hx)
    unfold Eng.away
    rw [if_neg]
    intro he
    have := h4 x hx k he
    rw [hk] at this
    cases this

/-- a call that needs nothing of the call's own but to read it -/
theorem S_call {f : FuncId} {args : List Operand} {ats : Array TypeId} {vs : List Value} {post : Value → List Ent → Prop} (hcl : callable P f = true) (hx : evs env args = some vs) (hc : ∀ m', Le m m' → HE L m' → CS P f vs m' [] post) (hn : Nat.blt d n = true)
    (hk : ∀ v L', post v L' → K ((d, v) :: env) (L' ++ L)) : StepS P n Q ⟨some d, .call ⟨.value (.func f), args.toArray, ats⟩, ty, pos, aft, gd⟩ env m L true K := fun h hs =>
  E_call hcl hx (hc (mp h) hs.base hs.inv h (HS.nil (Le.refl _))) hn fun v h' ⟨L', h1, h2⟩ => ⟨fun _ => h2.base, _, hs.frame0 h2, hk v L' h1⟩
/-- a call that is handed one entry -/
theorem S_call1 {f : FuncId} {args : List Operand} {ats : Array TypeId} {vs : List Value} {e : Ent} {post : Value → List Ent → Prop} (hcl : callable P f = true) (hx : evs env args = some vs) (hT : Tk L e r) (hc : ∀ m', Le m m' → HE r m' → CS P f vs m' [e] post) (hn : Nat.blt d n = true)
    (hk : ∀ v L', post v L' → K ((d, v) :: env) (L' ++ r)) : StepS P n Q ⟨some d, .call ⟨.value (.func f), args.toArray, ats⟩, ty, pos, aft, gd⟩ env m L false K := fun h hs => by
  have h0 := hs.take hT
  obtain ⟨h1, h2, h3⟩ := h0.away
  exact E_call hcl hx (hc _ h2 h3 h h1) hn fun v h' ⟨L', g1, g2⟩ => ⟨fun hf => (by cases hf), _, h0.frame1 g2, hk v L' g1⟩
/-- the same where no result is kept -/
theorem S_call0 {f : FuncId} {args : List Operand} {ats : Array TypeId} {vs : List Value} {post : Value → List Ent → Prop} (hcl : callable P f = true) (hx : evs env args = some vs) (hc : ∀ m', Le m m' → HE L m' → CS P f vs m' [] post)
    (hk : ∀ v L', post v L' → K env (L' ++ L)) : StepS P n Q ⟨none, .call ⟨.value (.func f), args.toArray, ats⟩, ty, pos, aft, gd⟩ env m L true K := fun h hs =>
  E_call0 hcl hx (hc (mp h) hs.base hs.inv h (HS.nil (Le.refl _))) fun v h' ⟨L', h1, h2⟩ => ⟨fun _ => h2.base, _, hs.frame0 h2, hk v L' h1⟩
theorem S_call10 {f : FuncId} {args : List Operand} {ats : Array TypeId} {vs : List Value} {e : Ent} {post : Value → List Ent → Prop} (hcl : callable P f = true) (hx : evs env args = some vs) (hT : Tk L e r) (hc : ∀ m', Le m m' → HE r m' → CS P f vs m' [e] post)
    (hk : ∀ v L', post v L' → K env (L' ++ r)) : StepS P n Q ⟨none, .call ⟨.value (.func f), args.toArray, ats⟩, ty, pos, aft, gd⟩ env m L false K := fun h hs => by
  have h0 := hs.take hT
  obtain ⟨h1, h2, h3⟩ := h0.away
  exact E_call0 hcl hx (hc _ h2 h3 h h1) fun v h' ⟨L', g1, g2⟩ => ⟨fun hf => (by cases hf), _, h0.frame1 g2, hk v L' g1⟩
/-- a call that makes nothing that is told -/
theorem S_callR {f : FuncId} {args : List Operand} {ats : Array TypeId} {vs : List Value} {R : Value → Prop} (hcl : callable P f = true) (hx : evs env args = some vs) (hc : ∀ m', Le m m' → HE L m' → CS P f vs m' [] fun v L' => R v ∧ L' = []) (hn : Nat.blt d n = true)
    (hk : ∀ v, R v → K ((d, v) :: env) L) : StepS P n Q ⟨some d, .call ⟨.value (.func f), args.toArray, ats⟩, ty, pos, aft, gd⟩ env m L true K :=
  S_call hcl hx hc hn fun v L' ⟨h1, h2⟩ => by subst h2; exact hk v h1
/-- a call of a function value -/
theorem S_callV {f : FuncId} {fv : Operand} {args : List Operand} {ats : Array TypeId} {vs p q : List Value} {post : Value → List Ent → Prop} (hcl : callable P f = true) (hf : ev env fv = some (.func (.func f) p.toArray q.toArray)) (hx : evs env args = some vs)
    (hc : ∀ m', Le m m' → HE L m' → CS P f ((p ++ vs) ++ q) m' [] post) (hn : Nat.blt d n = true) (hk : ∀ v L', post v L' → K ((d, v) :: env) (L' ++ L)) : StepS P n Q ⟨some d, .call ⟨.value fv, args.toArray, ats⟩, ty, pos, aft, gd⟩ env m L true K := fun h hs =>
  E_callV (R := postS (mp h) post) hcl hf hx (hc (mp h) hs.base hs.inv h (HS.nil (Le.refl _))) hn fun v h' ⟨L', h1, h2⟩ => ⟨fun _ => h2.base, _, hs.frame0 h2, hk v L' h1⟩
/-- contracts of the older kind -/
theorem CS.ofLe {f : FuncId} {vs : List Value} {R : Value → Prop} (hc : ∀ h, Le m (mp h) → C P f vs.toArray h fun v h' => R v ∧ Le (mp h) (mp h')) : CS P f vs m [] fun v L' => R v ∧ L' = [] := fun h hs =>
  (hc h hs.base).mono fun _ _ ⟨h1, h2⟩ => ⟨[], ⟨h1, rfl⟩, HS.nil (hs.base.trans h2)⟩
theorem CS.toLe {f : FuncId} {vs : List Value} {post : Value → List Ent → Prop} {h : Heap} (hc : CS P f vs (mp h) [] post) : C P f vs.toArray h fun v h' => (∃ L', post v L') ∧ Le (mp h) (mp h') :=
  (hc h (HS.nil (Le.refl _))).mono fun _ _ ⟨L', h1, h2⟩ => ⟨⟨L', h1⟩, h2.base⟩
end
end Go.Eng

namespace Go.Eng
/-- the byte at a place, as a number -/
def by_ (s : List UInt8) (i : Nat) : Nat := (s.getD i 0).toNat
theorem by_lt (s : List UInt8) (i : Nat) : by_ s i < 256 := (s.getD i 0).toNat_lt
section
variable {P : Program} {n : Nat} {env : Env} {dst : Option Tmp} {ty : TypeId} {pos : String} {aft : Array Edge} {gd : Option (Nat × Bool)} {t yt : TypeId} {x y : Operand} {k : IntKind} {a b : Nat}
theorem P_addN (hx : ev env x = some (.int .i64 (a : Nat))) (hy : ev env y = some (.int .i64 (b : Nat))) (hr : a + b ≤ 9223372036854775807) : PureV P n ⟨dst, .binOp .add t x y yt, ty, pos, aft, gd⟩ env (.int .i64 ((a + b : Nat) : Int)) :=
  P_add hx hy (by rw [w64 (by omega) (by omega)]; simp)
theorem P_subN (hx : ev env x = some (.int .i64 (a : Nat))) (hy : ev env y = some (.int .i64 (b : Nat))) (hle : b ≤ a) (hr : a ≤ 9223372036854775807) : PureV P n ⟨dst, .binOp .sub t x y yt, ty, pos, aft, gd⟩ env (.int .i64 ((a - b : Nat) : Int)) :=
  P_sub hx hy (by rw [w64 (by omega) (by omega)]; omega)
theorem P_mulN (hx : ev env x = some (.int .i64 (a : Nat))) (hy : ev env y = some (.int .i64 (b : Nat))) (hr : a * b ≤ 9223372036854775807) : PureV P n ⟨dst, .binOp .mul t x y yt, ty, pos, aft, gd⟩ env (.int .i64 ((a * b : Nat) : Int)) :=
  P_mul hx hy (by rw [w64 (by have : (0 : Int) ≤ (a : Int) * (b : Int) := Int.mul_nonneg (by omega) (by omega); omega) (by have := Int.ofNat_le.2 hr; rw [Int.natCast_mul] at this; omega)]; exact (Int.natCast_mul a b).symm)
theorem P_min2N {ts : Array TypeId} (hx : ev env x = some (.int .i64 (a : Nat))) (hy : ev env y = some (.int .i64 (b : Nat))) : PureV P n ⟨dst, .call ⟨.builtin .min, #[x, y], ts⟩, ty, pos, aft, gd⟩ env (.int .i64 ((min a b : Nat) : Int)) := by
  have := P_min2 (P := P) (n := n) (dst := dst) (ty := ty) (pos := pos) (aft := aft) (gd := gd) (ts := ts) hx hy
  rwa [show min (a : Int) (b : Int) = ((min a b : Nat) : Int) by omega] at this
theorem P_sindexN {s : List UInt8} (hx : ev env x = some (.string (bs s))) (hy : ev env y = some (.int k (a : Nat))) (ht : isStr P t = true) (h1 : a < s.length) : PureV P n ⟨dst, .index t x y, ty, pos, aft, gd⟩ env (.int .u8 ((by_ s a : Nat) : Int)) :=
  P_sindex hx hy ht (by omega) (by omega)
theorem P_convN {src dk : TypeId} {k k' : IntKind} (hs : (P.underlying src).isSome = true) (hd : isIntT P dk k' = true) (hx : ev env x = some (.int k (a : Nat))) (hr : k'.wrap (a : Nat) = (a : Nat)) : PureV P n ⟨dst, .convert src dk x, ty, pos, aft, gd⟩ env (.int k' (a : Nat)) := P_conv_int hs hd hx hr
theorem P_indexAddrN {A : Option Addr} {m c sz : Nat} (ht : esz P t = some sz) (hx : ev env x = some (.slice A m c)) (hy : ev env y = some (.int k (a : Nat))) (hA : A.isSome = true) (h1 : a < m) :
    PureV P n ⟨dst, .indexAddr t x y, ty, pos, aft, gd⟩ env (.pointer (some ((sa A).add (a * sz)))) := P_indexAddr ht hx hy hA (by omega) (by omega)
theorem P_indexAddr1N {A : Option Addr} {m c : Nat} (ht : esz P t = some 1) (hx : ev env x = some (.slice A m c)) (hy : ev env y = some (.int k (a : Nat))) (hA : A.isSome = true) (h1 : a < m) :
    PureV P n ⟨dst, .indexAddr t x y, ty, pos, aft, gd⟩ env (.pointer (some ((sa A).add a))) := P_indexAddr1 ht hx hy hA (by omega) (by omega)
end
section
variable {P : Program} {n : Nat} {env : Env} {m : Mp} {L : List Ent} {Q : Post} {K : Env → List Ent → Prop} {d : Nat} {ty : TypeId} {pos : String} {aft : Array Edge} {gd : Option (Nat × Bool)} {x : Operand}
/-- an element of a literal's block -/
theorem S_loadE {b i : Nat} {l : List Value} {e : TypeId} {r : List Ent} {v : Value} {dst : Option Tmp} {t : TypeId} (ht : single P t = true) (hx : ev env x = some (.pointer (some ((sa (some ⟨b, 0, none⟩)).add i)))) (hT : Tk L (cel b l e) r) (hv : l[i]? = some v) : ∀ h, HS m L h → ReadV P n ⟨dst, .load t x, ty, pos, aft, gd⟩ env h v :=
  fun _ hs => R_load ht hx ((Rd.blk (hs.get hT)).at_ hv)
theorem S_loadEA {b i q : Nat} {l : List Value} {e : TypeId} {r : List Ent} {dst : Option Tmp} {t : TypeId} (ht : aggSize P t = some q) (hx : ev env x = some (.pointer (some ((sa (some ⟨b, 0, none⟩)).add i)))) (hT : Tk L (cel b l e) r) (hl : ((l.drop i).take q).length = q) : ∀ h, HS m L h → ReadV P n ⟨dst, .load t x, ty, pos, aft, gd⟩ env h (.agg ((l.drop i).take q).toArray) :=
  fun _ hs => R_loadAt ht hx hl ((Rd.blk (hs.get hT)).elem i q)
theorem S_nextD {b p : Nat} {s : List UInt8} {r : Nat × Nat} {L' : List Ent} (hx : ev env x = some (.pointer (some ⟨b, 0, none⟩))) (hp : p < s.length) (hr : Utf8.decode (bs s) p = r) (hT : Sel L (iter b s p) (iter b s (p + r.2)) L') (hn : Nat.blt d n = true)
    (hk : K ((d, .tuple [.bool true, .int .i64 p, .int .i32 r.1].toArray) :: env) L') : StepS P n Q ⟨some d, .next x true, ty, pos, aft, gd⟩ env m L false K := by
  subst hr
  exact S_next hx hp hT hn hk
end
theorem wraps_i64 (n : Int) (h₀ : 0 ≤ n) (h₁ : n < 2 ^ 62) : IntKind.i64.wrap n = n := by rw [IntKind.wrap_i64]; omega
theorem i64_maskN (i : Nat) (hi : i ≤ 62) (a : Nat) (h : a < 4611686018427387904) : bits .and .i64 (a : Nat) (2 ^ i - 1) = ((a % 2 ^ i : Nat) : Int) := by
  have := bits_mask .i64 62 (by decide) wraps_i64 i hi (a : Int) (by omega) (by omega)
  rw [this]
  exact_mod_cast rfl
theorem u8_maskN (i : Nat) (hi : i ≤ 8) (a : Nat) (h : a < 256) : bits .and .u8 (a : Nat) (2 ^ i - 1) = ((a % 2 ^ i : Nat) : Int) := by
  have := bits_mask .u8 8 (by decide) wraps_u8 i hi (a : Int) (by omega) (by exact_mod_cast h)
  rw [this]
  exact_mod_cast rfl
theorem i64_joinN (i a b : Nat) (ha : a % 2 ^ i = 0) (hb : b < 2 ^ i) (h1 : a < 4611686018427387904) (h2 : b < 4611686018427387904) : bits .or .i64 (a : Nat) (b : Nat) = ((a + b : Nat) : Int) := by
  have := bits_join .i64 62 (by decide) wraps_i64 i (a : Int) (b : Int) (by omega) (by exact_mod_cast ha) (by omega) (by omega) (by exact_mod_cast hb) (by omega)
  rw [this]
  simp
theorem u8_and192 (a : Nat) (h : a < 256) : bits .and .u8 (a : Nat) 192 = ((a / 64 * 64 : Nat) : Int) := by
  have := (bits_nat .u8 8 (by decide) wraps_u8 a 192 (by exact_mod_cast h) (by decide)).1
  have h2 : ∀ x : Fin 256, x.val &&& 192 = x.val / 64 * 64 := by decide +kernel
  rw [h2 ⟨a, h⟩] at this
  exact this
end Go.Eng

namespace Go.Eng

def entsM : Nat → List (List UInt8 × Value) → List MapEntry
  | _, [] => []
  | i, (k, v) :: r => ⟨.string (bs k), v, i⟩ :: entsM (i + 1) r
/-- where a key stands, and what there is -/
def findM (k : List UInt8) : Nat → List (List UInt8 × Value) → Option (Nat × Value)
  | _, [] => none
  | i, (k', v) :: r => if k = k' then some (i, v) else findM k (i + 1) r
def getM (es : List (List UInt8 × Value)) (k : List UInt8) : Option Value := (findM k 0 es).map (·.2)
def putM (es : List (List UInt8 × Value)) (k : List UInt8) (v : Value) : List (List UInt8 × Value) := match findM k 0 es with
  | some (i, _) => es.set i (k, v)
  | none => es ++ [(k, v)]
def smap (r : Nat) (es : List (List UInt8 × Value)) : Ent := blk r (.map (entsM 0 es).toArray es.length)
/-- a map's type whose keys are strings: its elements' type -/
def mapStr (P : Program) (t : TypeId) : Option TypeId := match P.underlying t with
  | some (.map kt et) => match P.underlying kt with
    | some .string => some et
    | _ => none
  | _ => none
theorem mapStr_spec {P : Program} {t et : TypeId} (h : mapStr P t = some et) : ∃ kt, P.underlying t = some (.map kt et) ∧ P.underlying kt = some .string := by
  unfold mapStr at h
  split at h
  · rename_i kt et' hu
    split at h
    · rename_i hk; simp only [Option.some.injEq] at h; subst h; exact ⟨kt, hu, hk⟩
    · cases h
  · cases h
theorem bs_inj {a b : List UInt8} : (bs a == bs b) = decide (a = b) := by
  show ((bs a).data == (bs b).data) = _
  rw [Bool.eq_iff_iff, beq_iff_eq, decide_eq_true_eq]
  simp [bs]
theorem findNow_str (k : List UInt8) : ∀ (es : List (List UInt8 × Value)) (i j : Nat), Instr.findNow .string (.string (bs k)) (entsM j es) i = some (findM k i es)
  | [], _, _ => rfl
  | (k', v) :: r, i, j => by
    unfold entsM Instr.findNow
    simp only [Instr.sameNow, bs_inj]
    by_cases h : k = k'
    · simp [h, findM]
    · simp only [h, decide_false]
      rw [findNow_str k r (i + 1) (j + 1)]
      simp [findM, h]
theorem findM_lt {k : List UInt8} : ∀ {es : List (List UInt8 × Value)} {i j : Nat} {v : Value}, findM k i es = some (j, v) → i ≤ j ∧ es[j - i]? = some (k, v)
  | [], _, _, _, h => by cases h
  | (k', v') :: r, i, j, v, h => by
    unfold findM at h
    split at h
    · rename_i hk
      injection h with h
      injection h with h1 h2
      subst h1 h2 hk
      simp
    · obtain ⟨h1, h2⟩ := findM_lt h
      refine ⟨by omega, ?_⟩
      rw [show j - i = (j - (i + 1)) + 1 by omega]
      simpa using h2
theorem entsM_get : ∀ (es : List (List UInt8 × Value)) (i j : Nat), (entsM i es)[j]? = (es[j]?).map fun p => ⟨.string (bs p.1), p.2, i + j⟩
  | [], _, _ => by simp [entsM]
  | (k, v) :: r, i, 0 => by simp [entsM]
  | (k, v) :: r, i, j + 1 => by simp [entsM, entsM_get r (i + 1) j]; congr 1; funext p; congr 1; omega
theorem entsM_len (es : List (List UInt8 × Value)) (i : Nat) : (entsM i es).length = es.length := by
  induction es generalizing i with
  | nil => rfl
  | cons p r ih => obtain ⟨k, v⟩ := p; simp [entsM, ih]
theorem entsM_snoc (es : List (List UInt8 × Value)) (i : Nat) (k : List UInt8) (v : Value) : entsM i (es ++ [(k, v)]) = entsM i es ++ [⟨.string (bs k), v, i + es.length⟩] := by
  induction es generalizing i with
  | nil => simp [entsM]
  | cons p r ih => obtain ⟨k', v'⟩ := p; simp only [List.cons_append, entsM, ih, List.length_cons]; rw [show i + 1 + r.length = i + (r.length + 1) by omega]
theorem entsM_set (es : List (List UInt8 × Value)) (i j : Nat) (k : List UInt8) (v v0 : Value) (h : es[j]? = some (k, v0)) : entsM i (es.set j (k, v)) = (entsM i es).modify j fun e => { e with key := .string (bs k), val := v } := by
  induction es generalizing i j with
  | nil => simp at h
  | cons p r ih =>
    obtain ⟨k', v'⟩ := p
    cases j with
    | zero => simp at h; obtain ⟨rfl, rfl⟩ := h; simp [entsM]
    | succ j => simp only [List.set_cons_succ, entsM, List.modify_succ_cons, ih _ _ (by simpa using h)]

section
variable {P : Program} {n : Nat} {env : Env} {m : Mp} {L r : List Ent} {Q : Post} {K : Env → List Ent → Prop} {dst : Option Tmp} {d : Nat} {ty : TypeId} {pos : String} {aft : Array Edge} {gd : Option (Nat × Bool)} {t et : TypeId} {x y z : Operand} {v : Value}

theorem S_makeMap (hn : Nat.blt d n = true) (hk : ∀ b, K ((d, .map (some b)) :: env) (smap b [] :: L)) : StepS P n Q ⟨some d, .makeMap t none, ty, pos, aft, gd⟩ env m L true K := fun h hs =>
  step_of_run rfl hn fun fx dr a ha => by
    refine ⟨h.push (.map #[] 0), dr, ?_, fun _ => mp_push h _, _, hs.new (e' := smap h.size []) (mp_push h _) (mp_push_new h _) (fun k hk => by have := dom_cel hk; subst this; exact mp_none h), hk _⟩
    simp [execOp, Instr.makeMap, newObj, Sem.run, W]

theorem run_getObj {w : World} {b c : Nat} {es : Array MapEntry} (hb : w.heap[b]? = some (.map es c)) : (getObj b).run P w = .ok (.map es c) w := by simp [getObj, Sem.run, hb]
theorem run_setObj {w : World} {b c : Nat} {es : Array MapEntry} {o' : Obj} (hb : w.heap[b]? = some (.map es c)) : (setObj b o').run P w = .ok () { w with heap := w.heap.setIfInBounds b o' } := by simp [setObj, Sem.run, hb]
theorem run_findKey_str {w : World} {kt : TypeId} (hk : P.underlying kt = some .string) (k : List UInt8) (es : List (List UInt8 × Value)) : (Instr.findKey kt (.string (bs k)) (entsM 0 es)).run P w = .ok (findM k 0 es) w := by
  simp only [Instr.findKey, Sem.run_bind, run_underlying hk, Result.andThen_ok, findNow_str]
  rfl
theorem run_checkKey_str {w : World} {kt : TypeId} (b : Bool) (hk : P.underlying kt = some .string) (k : List UInt8) : (Instr.checkKey b 10000 kt (.string (bs k))).run P w = .ok () w := by
  show (Instr.checkKey b (9999 + 1) kt (.string (bs k))).run P w = .ok () w
  rw [Instr.checkKey]
  simp only [Sem.run_bind, run_underlying hk, Result.andThen_ok]
  rfl

/-- a look into a map of the call's own -/
theorem run_lookup_own {fx : Fx} {h : Heap} {dr b : Nat} {es : List (List UInt8 × Value)} {k : List UInt8} {zv : Value} {cm : Bool} (ht : mapStr P t = some et) (hb : mp h b = some (.map (entsM 0 es).toArray es.length)) (hz : ∀ w, (zeroValue et).run P w = .ok zv w) :
    (Instr.lookup t (.map (some b)) (.string (bs k)) cm).run P (W fx h dr) = .ok (if cm then .tuple #[(getM es k).getD zv, .bool (getM es k).isSome] else (getM es k).getD zv) (W fx h dr) := by
  obtain ⟨kt, h1, h2⟩ := mapStr_spec ht
  have hb' : (W fx h dr).heap[b]? = some (.map (entsM 0 es).toArray es.length) := hb
  simp only [Instr.lookup, Sem.run_bind, run_underlying h1, Result.andThen_ok, run_getObj hb', run_checkKey_str _ h2, Sem.run_pure]
  have hfk := run_findKey_str (P := P) (w := W fx h dr) h2 k es
  simp only [hfk, Result.andThen_ok]
  unfold getM
  cases hf : findM k 0 es with
  | none => simp [hz]
  | some p => simp
theorem S_lookup {b : Nat} {es : List (List UInt8 × Value)} {k : List UInt8} {zv : Value} (ht : mapStr P t = some et) (hx : ev env x = some (.map (some b))) (hy : ev env y = some (.string (bs k))) (hT : Tk L (smap b es) r) (hzz : ∀ w, (zeroValue et).run P w = .ok zv w) :
    ∀ h, HS m L h → ReadV P n ⟨dst, .lookup t x y false, ty, pos, aft, gd⟩ env h ((getM es k).getD zv) := fun h hs a w ha hl => by
  have h1 : mp w.heap b = some (.map (entsM 0 es).toArray es.length) := hl _ _ (hs.get hT)
  have := run_lookup_own (P := P) (fx := ⟨w.tape, w.os, w.output, []⟩) (h := w.heap) (dr := w.drawn) (cm := false) (k := k) ht h1 hzz
  simp only [execOp, ha.eval hx, ha.eval hy, Sem.run_bind]
  rw [← W_of] at this
  rw [this]
  rfl
theorem S_lookup2 {b : Nat} {es : List (List UInt8 × Value)} {k : List UInt8} {zv : Value} (ht : mapStr P t = some et) (hx : ev env x = some (.map (some b))) (hy : ev env y = some (.string (bs k))) (hT : Tk L (smap b es) r) (hzz : ∀ w, (zeroValue et).run P w = .ok zv w) :
    ∀ h, HS m L h → ReadV P n ⟨dst, .lookup t x y true, ty, pos, aft, gd⟩ env h (.tuple [(getM es k).getD zv, .bool (getM es k).isSome].toArray) := fun h hs a w ha hl => by
  have h1 : mp w.heap b = some (.map (entsM 0 es).toArray es.length) := hl _ _ (hs.get hT)
  have := run_lookup_own (P := P) (fx := ⟨w.tape, w.os, w.output, []⟩) (h := w.heap) (dr := w.drawn) (cm := true) (k := k) ht h1 hzz
  simp only [execOp, ha.eval hx, ha.eval hy, Sem.run_bind]
  rw [← W_of] at this
  rw [this]
  rfl
/-- the zero of a type of one cell -/
def zero1 (P : Program) (t : TypeId) (v : Value) : Prop := ∀ w, (zeroValue t).run P w = .ok v w
theorem zero1_of {i : TypeInfo} (h : P.info? t = some i) (hz : i.zero = some v) : zero1 P t v := fun w => by simp [zeroValue, typeInfo, h, hz]

theorem S_mapUpdate {b : Nat} {es : List (List UInt8 × Value)} {k : List UInt8} {L' : List Ent} (ht : mapStr P t = some et) (hx : ev env x = some (.map (some b))) (hy : ev env y = some (.string (bs k))) (hz : ev env z = some v)
    (hT : Sel L (smap b es) (smap b (putM es k v)) L') (hk : K env L') : StepS P n Q ⟨none, .mapUpdate t x y z, ty, pos, aft, gd⟩ env m L false K := fun h hs => by
  obtain ⟨r, g1, g2⟩ := hT.split
  have h3 := hs.take g1
  have hb : mp h b = some (.map (entsM 0 es).toArray es.length) := h3.head
  have hblt := mp_some hb
  obtain ⟨kt, u1, u2⟩ := mapStr_spec ht
  have put : ∀ o : Obj, (smap b (putM es k v)).inv (mp (h.setIfInBounds b o)) → HS m L' (h.setIfInBounds b o) := fun o ho =>
    (h3.upd (e' := smap b (putM es k v)) (fun j _ hj => by
      have hne : b ≠ j := by rintro rfl; simp [smap, blk] at hj
      simp [mp, Array.getElem?_setIfInBounds, hne]) ho fun j hj => .inl hj).untake g2
  refine step_of_skip rfl fun fx dr a ha => ?_
  have hb' : (W fx h dr).heap[b]? = some (.map (entsM 0 es).toArray es.length) := hb
  have hfk := run_findKey_str (P := P) (w := W fx h dr) u2 k es
  cases hf : findM k 0 es with
  | none =>
    rw [hf] at hfk
    refine ⟨h.setIfInBounds b (.map ((entsM 0 es).toArray.push ⟨.string (bs k), v, es.length⟩) (es.length + 1)), dr, ?_, fun hh => (by cases hh), L', put _ ?_, hk⟩
    · simp only [execOp, ha.eval hx, ha.eval hy, ha.eval hz, Instr.mapUpdate, Sem.run_bind, run_underlying u1, Result.andThen_ok, run_getObj hb', run_checkKey_str _ u2, hfk, run_setObj hb', Sem.run_pure]
      rfl
    · show mp _ b = _
      simp only [putM, hf, entsM_snoc, Nat.zero_add]
      simp [mp, hblt]
  | some p =>
    obtain ⟨i, v0⟩ := p
    rw [hf] at hfk
    obtain ⟨_, hg⟩ := findM_lt hf
    simp only [Nat.sub_zero] at hg
    have hgi : ((entsM 0 es).toArray)[i]? = some ⟨.string (bs k), v0, i⟩ := by rw [List.getElem?_toArray, entsM_get, hg]; simp
    have hkey : (((entsM 0 es).toArray[i]?).map (·.key)).getD (.string (bs k)) = .string (bs k) := by rw [hgi]; rfl
    have hst : (Instr.keyThatStays (.string (bs k)) (.string (bs k))).run P (W fx h dr) = .ok (.string (bs k)) (W fx h dr) := by
      unfold Instr.keyThatStays
      rw [if_pos]
      · rfl
      · show Instr.sameBits (9999 + 1) _ _ = true
        show (bs k == bs k) = true
        rw [bs_inj]
        simp
    refine ⟨h.setIfInBounds b (.map ((entsM 0 es).toArray.modify i fun e => { e with key := .string (bs k), val := v }) es.length), dr, ?_, fun hh => (by cases hh), L', put _ ?_, hk⟩
    · simp only [execOp, ha.eval hx, ha.eval hy, ha.eval hz, Instr.mapUpdate, Sem.run_bind, run_underlying u1, Result.andThen_ok, run_getObj hb', run_checkKey_str _ u2, hfk, hkey, hst, run_setObj hb', Sem.run_pure]
      rfl
    · show mp _ b = _
      simp only [putM, hf, entsM_set es 0 i k v v0 hg, List.length_set]
      simp [mp, hblt]
end
end Go.Eng

namespace Go.Eng
inductive Dt where
  | i (k : IntKind) (n : Int)
  | s (t : List UInt8)
  | b (x : Bool)
deriving DecidableEq
inductive Dk where
  | i (k : IntKind)
  | s
  | b
deriving DecidableEq
def Dt.v : Dt → Value
  | .i k n => .int k n
  | .s t => .string (bs t)
  | .b x => .bool x
def Dt.k : Dt → Dk
  | .i k _ => .i k
  | .s _ => .s
  | .b _ => .b
def fkOf : TypeDesc → Option Dk
  | .int k => some (.i k)
  | .string => some .s
  | .bool => some .b
  | _ => none
def flatGs (P : Program) : Nat → List Field → Option (List Dk)
  | _, [] => some []
  | o, f :: fs => match (P.underlying f.type).bind fkOf with
    | some k => if f.name ≠ "_" ∧ f.offset = o then (flatGs P (o + 1) fs).map (k :: ·) else none
    | none => none
def flatG (P : Program) (t : TypeId) : Option (List Dk) := if P.stoodInHeld t || P.eqGuardType P.depth t then none else match P.underlying t with
  | some (.struct fs) => flatGs P 0 fs.toList
  | _ => none
theorem run_equal_fd {P : Program} {w : World} {d t : Nat} {k : Dk} {x y : Dt} (hu : (P.underlying t).bind fkOf = some k) (hx : x.k = k) (hy : y.k = k) : (Op.equalIn (d + 1) t x.v y.v).run P w = .ok (decide (x = y)) w := by
  cases hd : P.underlying t with
  | none => rw [hd] at hu; cases hu
  | some td =>
    rw [hd] at hu
    simp only [Option.bind_some] at hu
    cases td <;> simp only [fkOf, Option.some.injEq, reduceCtorEq] at hu
    all_goals (subst hu; cases x <;> simp only [Dt.k, Dk.i.injEq, reduceCtorEq] at hx <;> cases y <;> simp only [Dt.k, Dk.i.injEq, reduceCtorEq] at hy)
    · simp [Op.equalIn, run_underlying hd, Dt.v]; rfl
    · subst hx hy; simp [Op.equalIn, run_underlying hd, Dt.v]; rfl
    · simp [Op.equalIn, run_underlying hd, Dt.v, bs_inj]
theorem single_fk {P : Program} {t : Nat} {k : Dk} (hu : (P.underlying t).bind fkOf = some k) : single P t = true := by
  unfold single
  cases hd : P.underlying t with
  | none => rw [hd] at hu; cases hu
  | some td => rw [hd] at hu; cases td <;> simp [fkOf] at hu ⊢
theorem eqFields_fd {P : Program} {d : Nat} {w : World} {xs ys : Array Value} : ∀ {fs : List Field} {ks : List Dk} {o : Nat} {as bs : List Dt}, flatGs P o fs = some ks → as.map Dt.k = ks → bs.map Dt.k = ks →
    (∀ i u, (as.map Dt.v)[i]? = some u → xs[o + i]? = some u) → (∀ i u, (bs.map Dt.v)[i]? = some u → ys[o + i]? = some u) → (Op.eqFields (d + 1) xs ys fs).run P w = .ok (decide (as = bs)) w
  | [], ks, o, as, bs, hf, ha, hb, _, _ => by
    simp only [flatGs, Option.some.injEq] at hf
    subst hf
    have e1 : as = [] := by simpa using ha
    have e2 : bs = [] := by simpa using hb
    subst e1 e2
    simp [Op.eqFields]
  | f :: fs, ks, o, as, bs, hf, ha, hb, hx, hy => by
    unfold flatGs at hf
    split at hf
    · rename_i k hu
      split at hf
      · rename_i hc
        obtain ⟨hn, ho⟩ := hc
        cases hr : flatGs P (o + 1) fs with
        | none => rw [hr] at hf; cases hf
        | some ks' =>
          rw [hr] at hf
          simp only [Option.map_some, Option.some.injEq] at hf
          subst hf
          match as, bs, ha, hb with
          | a :: as, b :: bs, ha, hb =>
            simp only [List.map_cons, List.cons.injEq] at ha hb
            have h1 := hx 0 a.v (by simp)
            have h2 := hy 0 b.v (by simp)
            have ih := eqFields_fd (P := P) (d := d) (w := w) (xs := xs) (ys := ys) hr ha.2 hb.2
              (fun i u hi => by have := hx (i + 1) u (by simpa using hi); rwa [show o + (i + 1) = o + 1 + i by omega] at this)
              (fun i u hi => by have := hy (i + 1) u (by simpa using hi); rwa [show o + (i + 1) = o + 1 + i by omega] at this)
            have hs := single_fk hu
            have he := run_equal_fd (P := P) (w := w) (d := d) hu ha.1 hb.1
            subst ho
            simp only [Nat.add_zero] at h1 h2
            simp [Op.eqFields, hn, part, single_spec hs, h1, h2, he]
            by_cases hab : a = b
            · subst hab; simp [ih]
            · simp [hab]
      · cases hf
    · cases hf
section
variable {P : Program} {n : Nat} {env : Env} {dst : Option Tmp} {ty : TypeId} {pos : String} {aft : Array Edge} {gd : Option (Nat × Bool)} {t yt : Nat} {x y : Operand} {ks : List Dk} {as bs : List Dt}
theorem run_structEq (hk : flatG P t = some ks) (ha : as.map Dt.k = ks) (hb : bs.map Dt.k = ks) (w : World) :
    (∀ op, (eqGuard op t x y (.agg (as.map Dt.v).toArray) (.agg (bs.map Dt.v).toArray)).run P w = .ok () w) ∧ (Op.equal t (.agg (as.map Dt.v).toArray) (.agg (bs.map Dt.v).toArray)).run P w = .ok (decide (as = bs)) w := by
  unfold flatG at hk
  split at hk
  · cases hk
  · rename_i hno
    simp only [Bool.or_eq_true, not_or, Bool.not_eq_true] at hno
    split at hk
    · rename_i fs hu
      refine ⟨fun op => ?_, ?_⟩
      · unfold eqGuard
        simp [hno.2]
      · have hf : P.fieldsOf t = fs := by unfold Program.fieldsOf; rw [hu]
        have hu' : P.underlying t = some (.struct (P.fieldsOf t)) := by rw [hf]; exact hu
        show (Op.equalIn (9998 + 1 + 1) t _ _).run P w = _
        rw [run_equalIn_struct w (9998 + 1) t _ _ hu' hno.1, hf]
        exact eqFields_fd hk ha hb (fun i u hi => by simpa using hi) (fun i u hi => by simpa using hi)
    · cases hk
theorem P_structEql (as bs : List Dt) (hk : flatG P t = some ks) (ha : as.map Dt.k = ks) (hb : bs.map Dt.k = ks) (hx : ev env x = some (.agg (as.map Dt.v).toArray)) (hy : ev env y = some (.agg (bs.map Dt.v).toArray)) :
    PureV P n ⟨dst, .binOp .eql t x y yt, ty, pos, aft, gd⟩ env (.bool (decide (as = bs))) := by
  intro a w hag
  obtain ⟨h1, h2⟩ := run_structEq (x := x) (y := y) hk ha hb w
  simp [execOp, hag.eval hx, hag.eval hy, h1, binOp, h2]
theorem P_structNeq (as bs : List Dt) (hk : flatG P t = some ks) (ha : as.map Dt.k = ks) (hb : bs.map Dt.k = ks) (hx : ev env x = some (.agg (as.map Dt.v).toArray)) (hy : ev env y = some (.agg (bs.map Dt.v).toArray)) :
    PureV P n ⟨dst, .binOp .neq t x y yt, ty, pos, aft, gd⟩ env (.bool (decide (¬ as = bs))) := by
  intro a w hag
  obtain ⟨h1, h2⟩ := run_structEq (x := x) (y := y) hk ha hb w
  simp [execOp, hag.eval hx, hag.eval hy, h1, binOp, h2]
end
section
variable {P : Program} {n : Nat} {env : Env} {m : Mp} {L r : List Ent} {dst : Option Tmp} {ty : TypeId} {pos : String} {aft : Array Edge} {gd : Option (Nat × Bool)} {t : TypeId} {x y : Operand} {v : Value}
/-- an element that is a struct, of a slice of the call's own -/
theorem S_loadOS {A : Option Addr} {e sz k c i q : Nat} {xs ys : List Value} (ht : aggSize P t = some q) (hx : ev env x = some (.pointer (some ((sa A).add i)))) (hT : Tk L (own e sz A k c xs) r) (he : (xs.drop i).take q = ys) (hl : ys.length = q) : ∀ h, HS m L h → ReadV P n ⟨dst, .load t x, ty, pos, aft, gd⟩ env h (.agg ys.toArray) := by
  subst he
  exact S_loadOA ht hx hT hl
/-- a field of such an element -/
theorem S_loadOF {A : Option Addr} {e sz k c i j : Nat} {xs : List Value} (ht : single P t = true) (hx : ev env x = some (.pointer (some (((sa A).add i).add j)))) (hT : Tk L (own e sz A k c xs) r) (hv : xs[i + j]? = some v) : ∀ h, HS m L h → ReadV P n ⟨dst, .load t x, ty, pos, aft, gd⟩ env h v :=
  S_loadO ht (by rw [hx, add_add]) hT hv
/-- the same of a literal's block -/
theorem S_loadES {b i q : Nat} {l ys : List Value} {e : TypeId} (ht : aggSize P t = some q) (hx : ev env x = some (.pointer (some ((sa (some ⟨b, 0, none⟩)).add i)))) (hT : Tk L (cel b l e) r) (he : (l.drop i).take q = ys) (hl : ys.length = q) : ∀ h, HS m L h → ReadV P n ⟨dst, .load t x, ty, pos, aft, gd⟩ env h (.agg ys.toArray) := by
  subst he
  exact S_loadEA ht hx hT hl
theorem S_loadEF {b i j : Nat} {l : List Value} {e : TypeId} (ht : single P t = true) (hx : ev env x = some (.pointer (some (((sa (some ⟨b, 0, none⟩)).add i).add j)))) (hT : Tk L (cel b l e) r) (hv : l[i + j]? = some v) : ∀ h, HS m L h → ReadV P n ⟨dst, .load t x, ty, pos, aft, gd⟩ env h v :=
  S_loadE ht (by rw [hx, add_add]) hT hv
end
section
variable {P : Program} {n : Nat} {env : Env} {m : Mp} {L r : List Ent} {Q : Post} {p : Prop} {l0 l : List Oper}
/-- what the heap shows -/
theorem VS_fact (hf : ∀ h, HS m L h → p) (hk : p → VS P n l0 l env m L Q) : VS P n l0 l env m L Q := fun h hs => hk (hf h hs) h hs
theorem TS_fact {c : Code} (hf : ∀ h, HS m L h → p) (hk : p → TS P n c env m L Q) : TS P n c env m L Q := fun h hs => hk (hf h hs) h hs
theorem QS_fact {e : Exit} (hf : ∀ h, HS m L h → p) (hk : p → QS Q e env m L) : QS Q e env m L := fun h hs => hk (hf h hs) h hs
theorem VTS_fact {wild : Nat → Bool} {t : OT} (hf : ∀ h, HS m L h → p) (hk : p → VTS P n l wild t env m L Q) : VTS P n l wild t env m L Q := fun h hs => hk (hf h hs) h hs
theorem own_isSome {e sz n c : Nat} {A : Option Addr} {xs : List Value} (hT : Tk L (own e sz A n c xs) r) (h0 : 0 < xs.length) : ∀ h, HS m L h → A.isSome = true := fun _ hs => (Own.rd (hs.get hT)).isSome h0
end
end Go.Eng

namespace Go.Eng
/-- no deferred call is laid by these operations -/
def noDefer (l : List Oper) : Bool := l.all fun o => match o.op with
  | .defer _ => false
  | _ => true
theorem noDefer_at {l : List Oper} (h : noDefer l = true) {o : Oper} (ho : o ∈ l) : ∀ c, o.op ≠ .defer c := fun c e => by
  have := List.all_eq_true.1 h o ho
  rw [e] at this
  cases this
theorem rows_wide {n : Nat} {P : Program} {row : String} {args : Array Value} {w : World} {R : Value → World → Prop} (h : Rows P row args w R) : RowsIn Fence.wide n P row args w R := fun c cs _ => by
  obtain ⟨v, w', r, s⟩ := h c cs
  exact ⟨v, w', r, stepsIn_wide.2 s⟩
section
variable {P : Program} {Q : Exit → Act → World → Prop} {next : Act → World → Prop}
theorem opIn_of {o : Oper} {a : Act} {w : World} {k l : Nat} (hd : ∀ c, o.op ≠ .defer c) (h : o.wp P a w next Q) : o.wpIn (Fence.wide.inRound l) k P a w next Q := by
  refine ⟨fun _ _ => trivial, ?_⟩
  rw [Oper.semAt_eq _ _ _ hd]
  unfold Oper.wp at h
  generalize (execOp a.eval o).run P w = r at *
  cases r with
  | ok x w' =>
    cases x <;> simp only [Oper.upon] at h <;> try exact h
    case enter f args => exact ⟨(fun e => by cases e), callsIn_wide.2 h⟩
    case row row args => exact ⟨(fun e => by cases e), rows_wide h⟩
    all_goals exact h.elim
  | halt e w' => cases e <;> simp only [Oper.upon] at h <;> first | exact h | exact h.elim
theorem opsIn_of {ops : Array Oper} {k l : Nat} (hd : noDefer ops.toList = true) (hL : ¬ LetsOut Q) : ∀ (is : List Nat) (a : Act) (w : World), wpOps P ops Q is a w → wpOpsIn (Fence.wide.inRound l) k P ops Q is a w
  | [], _, _, h => h
  | i :: r, a, w, h => by
    unfold wpOps at h
    unfold wpOpsIn
    cases ho : ops[i]? with
    | none => rw [ho] at h; exact opsIn_of hd hL r a w h
    | some o =>
      rw [ho] at h
      simp only at h ⊢
      have hm : o ∈ ops.toList := by
        have := Array.mem_of_getElem? ho
        simpa using this
      split
      · rename_i hw
        rw [if_pos hw] at h
        rcases h with h | ⟨_, h⟩
        · refine opIn_of (noDefer_at hd hm) (Oper.wp_mono (fun a' w' h' => ?_) h)
          exact opsIn_of hd hL r a' w' h'
        · exact absurd h hL
      · rename_i hw
        rw [if_neg hw] at h
        exact ⟨fun _ _ => trivial, opsIn_of hd hL r _ w h⟩
end
/-- in a round -/
def TR (P : Program) (n : Nat) (c : Code) (env : Env) (m : Mp) (L : List Ent) (Q : Post) : Prop :=
  ∀ h, HS m L h → ∀ (x : Fx) (d : Nat) (a : Act) (l k : Nat), AgD n x env a → c.wpIn (Fence.wide.inRound l) k P (lift n x Q) a (W x h d)
section
variable {P : Program} {n : Nat} {env : Env} {m : Mp} {L : List Ent} {Q : Post}
/-- no way out of the room -/
def Roomy (Q : Post) : Prop := ∀ env h, ¬ Q .outgrown env h
theorem Roomy.lets {x : Fx} (h : Roomy Q) : ¬ LetsOut (lift n x Q) := fun ⟨_, _, _, _, _, _, _, hq⟩ => h _ _ hq
theorem TR_region {id : Nat} {l : List Oper} (hd : noDefer l = true) (hQ : Roomy Q) (hv : VS P n l l env m L Q) : TR P n (.region id l.toArray false) env m L Q := fun h hs x d a r k hag => by
  refine wpIn_region ?_
  refine opsIn_of (by simpa using hd) hQ.lets _ _ _ ?_
  have := hv h hs x d a hag
  rw [List.range_eq_range', List.size_toArray, wpOps_eq_wpList (ops := l.toArray) l 0 (by simp)]
  exact this
theorem TR_skip (hq : QS Q .normal env m L) : TR P n .skip env m L Q := fun h hs _ d _ _ _ hag => wpIn_skip ⟨env, h, d, hag, rfl, hq h hs⟩
theorem TR_ret (hq : QS Q .ret env m L) : TR P n .ret env m L Q := fun h hs _ d _ _ _ hag => wpIn_ret ⟨env, h, d, hag, rfl, hq h hs⟩
theorem TR_true {c : Operand} {a b : Code} (hc : ev env c = some (.bool true)) (h1 : TR P n a env m L Q) : TR P n (.cond c a b) env m L Q := fun h hs x d act l k hag => wpIn_cond_true (hag.toAg.eval hc) (h1 h hs x d act l k hag)
theorem TR_false {c : Operand} {a b : Code} (hc : ev env c = some (.bool false)) (h1 : TR P n b env m L Q) : TR P n (.cond c a b) env m L Q := fun h hs x d act l k hag => wpIn_cond_false (hag.toAg.eval hc) (h1 h hs x d act l k hag)
/-- what a step of code leaves, where it goes on -/
def midQ (m : Mp) (K : Env → List Ent → Prop) (Q : Post) : Post
  | .normal, env, h => ∃ L', HS m L' h ∧ K env L'
  | .ret, env, h => Q .ret env h
  | _, _, _ => False
theorem midQ_roomy {K : Env → List Ent → Prop} : Roomy (midQ m K Q) := fun _ _ h => h
theorem QS_mid {K : Env → List Ent → Prop} (L' : List Ent) (hp : Pick L L') (hk : K env L') : QS (midQ m K Q) .normal env m L := fun h hs => ⟨L', hp m h hs, hk⟩
theorem QS_mid_ret {K : Env → List Ent → Prop} (hq : QS Q .ret env m L) : QS (midQ m K Q) .ret env m L := fun h hs => hq h hs
theorem TR_seq {a b : Code} (ht : TR P n a env m L (midQ m (fun env' L' => TR P n b env' m L' Q) Q)) : TR P n (.seq a b) env m L Q := fun h hs x d act l k hag => by
  refine wpIn_seq (wpIn_mono (ht h hs x d act l k hag) ?_)
  rintro e a' w' ⟨env', h', d', hag', rfl, hq⟩
  cases e with
  | normal => obtain ⟨L', hs', hb⟩ := hq; exact hb h' hs' x d' a' l k hag'
  | ret => exact ⟨env', h', d', hag', rfl, hq⟩
  | exit i => exact hq.elim
  | goto i => exact hq.elim
  | panic c => exact hq.elim
  | outgrown => exact hq.elim
theorem TR_draw {id : Nat} {l : List Oper} (t : OT) (hd : noDefer l = true) (hR : Roomy Q) (hm : P.follows .mixedOrders = true) (hck : checkT l t = true) (hQ : ∀ c env env' h, Q (.panic c) env h → Q (.panic c) env' h)
    (hv : VTS P n l (wildT t) t env m L Q) : TR P n (.region id l.toArray true) env m L Q := fun h hs' x d a r k hag => by
  unfold checkT at hck
  simp only [Bool.and_eq_true] at hck
  obtain ⟨h1, h3⟩ := hck
  have hs := hv h hs' x (d + 1) a hag
  have := (anyE_of_seqT h1 (Q := lift n x Q) (by
    rintro c a a' w hsz hdf ⟨env, h, d, hag, rfl, hq⟩
    refine ⟨[], h, d, ⟨⟨by rw [← hsz]; exact hag.size, fun t v ht => by simp [lk] at ht⟩, by rw [← hdf]; exact hag.defers⟩, rfl, hQ _ _ _ _ hq⟩) t l.length _ a _ hs).1 h3
  refine wpIn_region_draw fun tp => opsIn_of (by simpa using hd) hR.lets _ _ _ ?_
  simp only [Region.schedule, hm, Bool.true_or, if_true]
  refine wpAny_sound _ tp _ a _ (wpAny_of_anyE (wild := wildT t) _ _ _ _ ?_)
  rw [List.size_toArray]
  exact this
theorem TR_block {c : Code} {id : Nat} (ht : TR P n c env m L (blockQ id Q)) : TR P n (.block id c) env m L Q := fun h hs x d act l k hag => by
  refine wpIn_block (wpIn_mono (ht h hs x d act l k hag) ?_)
  rintro e a' w' ⟨env', h', d', hag', rfl, hq⟩
  cases e with
  | exit i =>
    by_cases hi : i = id
    · simp only [blockQ, if_pos hi] at hq
      simp only [Exit.inBlock, if_pos hi]
      exact ⟨env', h', d', hag', rfl, hq⟩
    · simp only [blockQ, if_neg hi] at hq
      simp only [Exit.inBlock, if_neg hi]
      exact ⟨env', h', d', hag', rfl, hq⟩
  | normal => exact ⟨env', h', d', hag', rfl, hq⟩
  | ret => exact ⟨env', h', d', hag', rfl, hq⟩
  | goto i => exact ⟨env', h', d', hag', rfl, hq⟩
  | panic c => exact ⟨env', h', d', hag', rfl, hq⟩
  | outgrown => exact ⟨env', h', d', hag', rfl, hq⟩
end
/-! ### code at one world -/
section
variable {P : Program} {n : Nat} {env : Env} {m : Mp} {L : List Ent} {Q : Exit → Act → World → Prop} {x : Fx} {h : Heap} {d : Nat} {a : Act} {K : Env → List Ent → Prop}
def noQ : Post := fun _ _ _ => False
theorem wp_seq_T {A B : Code} (ht : TS P n A env m L (midQ m K noQ)) (hs : HS m L h) (hag : AgD n x env a) (hk : ∀ env' L' h' d' a', K env' L' → HS m L' h' → AgD n x env' a' → B.wp P Q a' (W x h' d')) : (Code.seq A B).wp P Q a (W x h d) := by
  refine wp_seq (wp_mono (ht h hs x d a hag) ?_)
  rintro e a' w' ⟨env', h', d', hag', rfl, hq⟩
  cases e with
  | normal => obtain ⟨L', hs', hb⟩ := hq; exact hk _ _ _ _ _ hb hs' hag'
  | ret => exact hq.elim
  | exit i => exact hq.elim
  | goto i => exact hq.elim
  | panic c => exact hq.elim
  | outgrown => exact hq.elim
theorem wp_T {A : Code} (ht : TS P n A env m L (midQ m K noQ)) (hs : HS m L h) (hag : AgD n x env a) (hk : ∀ env' L' h' d' a', K env' L' → HS m L' h' → AgD n x env' a' → Q .normal a' (W x h' d')) : A.wp P Q a (W x h d) := by
  refine wp_mono (ht h hs x d a hag) ?_
  rintro e a' w' ⟨env', h', d', hag', rfl, hq⟩
  cases e with
  | normal => obtain ⟨L', hs', hb⟩ := hq; exact hk _ _ _ _ _ hb hs' hag'
  | ret => exact hq.elim
  | exit i => exact hq.elim
  | goto i => exact hq.elim
  | panic c => exact hq.elim
  | outgrown => exact hq.elim
theorem agD0 {l : List Value} {t : Nat → Question → Nat} {o : Os} {u : Array (Nat × ByteArray)} (hl : l.length ≤ n) : AgD n ⟨t, o, u, []⟩ (env0 l 0) { tmps := l.toArray ++ Array.replicate (n - l.toArray.size) undef, defers := [] } := by
  refine ⟨⟨?_, ?_⟩, rfl⟩
  · simp; omega
  · intro t v hv
    rw [env0_lk] at hv
    simp only [Nat.zero_le, if_true, Nat.sub_zero] at hv
    have hlt : t < l.length := (List.getElem?_eq_some_iff.1 hv).1
    rw [Array.getElem?_append_left (by simpa using hlt)]
    simpa using hv
theorem AgD.re {x' : Fx} (h : AgD n x env a) (e : x.ds = x'.ds) : AgD n x' env a := ⟨h.toAg, h.defers.trans e⟩
theorem at_W {c : Code} {w : World} (e : w = W x h d) (hk : ∀ a, AgD n x env a → c.wp P Q a (W x h d)) (hag : AgD n x env a) : c.wp P Q a w := by
  rw [e]; exact hk a hag
/-- new blocks alone -/
theorem grown_of {x : Fx} {h h' : Heap} {d d' : Nat} (hl : Le (mp h) (mp h')) (row : Option Nat) : (W x h d).grownBy (W x h' d') row :=
  ⟨rfl, rfl, rfl, mp_size hl, fun k hk _ => by
    have hk' : k < h.size := hk
    have h1 : mp h k = some h[k] := by unfold mp; exact Array.getElem?_eq_getElem hk'
    have h2 := hl k _ h1
    exact h2.trans h1.symm⟩
variable {l l0 : List Oper} {o : Oper} {v : Value} {t : Nat} {k : Nat} {w : World}
theorem LI_pure (hr : PureV P n o env v) (hd : o.dst = some t) (hw : wanted l0 env o = some true) (hag : AgD n x env a) (hk : wpListIn Fence.wide k P l0.toArray Q l (a.put (some t) v) w) : wpListIn Fence.wide k P l0.toArray Q (o :: l) a w := by
  unfold wpListIn
  rw [if_pos (wanted_ok hag.toAg hw)]
  refine ⟨fun _ _ => trivial, ?_⟩
  rw [show Fence.wide.round = none from rfl, Oper.semAt_none, hr a w hag, Oper.uponIn_value, hd]
  exact hk
theorem LI_read (hr : ReadV P n o env h v) (hd : o.dst = some t) (hw : wanted l0 env o = some true) (hag : AgD n x env a) (hle : Le (mp h) (mp w.heap)) (hk : wpListIn Fence.wide k P l0.toArray Q l (a.put (some t) v) w) : wpListIn Fence.wide k P l0.toArray Q (o :: l) a w := by
  unfold wpListIn
  rw [if_pos (wanted_ok hag.toAg hw)]
  refine ⟨fun _ _ => trivial, ?_⟩
  rw [show Fence.wide.round = none from rfl, Oper.semAt_none, hr a w hag hle, Oper.uponIn_value, hd]
  exact hk
theorem LI_yield {fv : Operand} {args : List Operand} {vs : List Value} {ats : Array TypeId} {ty : TypeId} {pos : String} {aft : Array Edge} {gd : Option (Nat × Bool)} {r : Nat} {R : Ending → World → Prop} (hf : ev env fv = some (.func (.yield r) #[] #[])) (hx : evs env args = some vs)
    (hw : wanted l0 env ⟨some t, .call ⟨.value fv, args.toArray, ats⟩, ty, pos, aft, gd⟩ = some true) (hag : AgD n x env a) (hy : YieldAt Fence.wide k P r vs.toArray w R)
    (hk : ∀ e w', R e w' → ∃ v, e = .returned v ∧ wpListIn Fence.wide (k + 1) P l0.toArray Q l (a.put (some t) v) w') : wpListIn Fence.wide (k + 1) P l0.toArray Q (⟨some t, .call ⟨.value fv, args.toArray, ats⟩, ty, pos, aft, gd⟩ :: l) a w := by
  obtain ⟨fn, tmps, assign, body, h1, h2⟩ := hy
  unfold wpListIn
  rw [if_pos (wanted_ok hag.toAg hw)]
  refine ⟨fun _ _ => trivial, ?_⟩
  have h3 : (execOp a.eval ⟨some t, .call ⟨.value fv, args.toArray, ats⟩, ty, pos, aft, gd⟩).run P w = .ok (.round r fn tmps assign body) w := by
    have h4 := evs_ok hag.toAg hx
    simp only [execOp, resolve, h4, hag.toAg.eval hf, Deferred.ofValue, Sem.run_bind, Sem.run_pure, Result.andThen_ok, invoke]
    simpa using h1
  rw [show Fence.wide.round = none from rfl, Oper.semAt_none, h3, Oper.uponIn_round]
  refine ⟨fun e => (by cases e), h2.mono ?_⟩
  intro e w' hr
  obtain ⟨v, rfl, h5⟩ := hk e w' hr
  exact h5
end
theorem wp_at {P : Program} {n : Nat} {c : Code} {env : Env} {m : Mp} {L : List Ent} {Q0 : Post} {h : Heap} {x : Fx} {d : Nat} {a : Act} {Q : Exit → Act → World → Prop} (ht : TS P n c env m L Q0) (hs : HS m L h) (hag : AgD n x env a)
    (hq : ∀ e a' w', lift n x Q0 e a' w' → Q e a' w') : c.wp P Q a (W x h d) := wp_mono (ht h hs x d a hag) hq
theorem TR_at {P : Program} {n : Nat} {c : Code} {env : Env} {m : Mp} {L : List Ent} {Q0 : Post} {h : Heap} {x : Fx} {d : Nat} {a : Act} {l k : Nat} {Q : Exit → Act → World → Prop} {w : World} (hw : w = W x h d) (ht : TR P n c env m L Q0) (hs : HS m L h) (hag : AgD n x env a)
    (hq : ∀ e a' w', lift n x Q0 e a' w' → Q e a' w') : c.wpIn (Fence.wide.inRound l) k P Q a w := by
  rw [hw]; exact wpIn_mono (ht h hs x d a l k hag) hq
/-! ### a function value asked whether it is nil -/
def isFuncT (P : Program) (t : TypeId) : Bool := if P.eqGuardType P.depth t then false else match P.underlying t with
  | some (.func ..) => true
  | _ => false
theorem P_feqlNil {P : Program} {n : Nat} {env : Env} {dst : Option Tmp} {ty : TypeId} {pos : String} {aft : Array Edge} {gd : Option (Nat × Bool)} {t yt : Nat} {x y : Operand} {f : Fn} {p q : Array Value} (ht : isFuncT P t = true) (hx : ev env x = some (.func f p q)) (hy : ev env y = some .nilFunc) :
    PureV P n ⟨dst, .binOp .eql t x y yt, ty, pos, aft, gd⟩ env (.bool false) := by
  intro a w hag
  unfold isFuncT at ht
  split at ht
  · cases ht
  · rename_i hno
    split at ht
    · rename_i ps rs vr hu
      have h1 : ∀ op, (eqGuard op t x y (.func f p q) .nilFunc).run P w = .ok () w := fun op => by
        unfold eqGuard
        simp [hno]
      have h2 : (Op.equal t (.func f p q) .nilFunc).run P w = .ok false w := by
        show (Op.equalIn (9999 + 1) t _ _).run P w = _
        rw [Op.equalIn]
        simp [run_underlying hu]
      simp [execOp, hag.eval hx, hag.eval hy, h1, binOp, h2]
    · cases ht
/-! ### entries that are cells alone -/
def CellsOnly (e : Ent) : Prop := ∀ (m : Mp) (k : Nat), e.inv m → e.dom k = true → ∃ o : Obj, m k = some o ∧ o.isCells = true
theorem cel_only (b : Nat) (l : List Value) (t : TypeId) : CellsOnly (cel b l t) := fun m k hi hk => by
  have := Nat.eq_of_beq_eq_true hk
  subst this
  exact ⟨_, hi, rfl⟩
theorem own_only (e sz : Nat) (A : Option Addr) (n c : Nat) (xs : List Value) : CellsOnly (own e sz A n c xs) := fun m k hi hk => by
  obtain ⟨cur, hm⟩ := Own.at_ hi hk
  exact ⟨_, hm, rfl⟩
section
variable {m : Mp} {L : List Ent} {h h' : Heap}
theorem HS.grow {row : Option Nat} (hs : HS m L h) (hc : ∀ e ∈ L, CellsOnly e) (hg : ∀ k, k < h.size → some k ≠ row → h'[k]? = h[k]?) (hrow : ∀ r, row = some r → m r = none ∧ ∃ o : Obj, h[r]? = some o ∧ o.isCells = false) : HS m L h' := by
  refine ⟨fun k o hk => ?_, fun e he => ?_, hs.out, hs.apart⟩
  · have h1 := hs.base k o hk
    have hlt : k < h.size := (Array.getElem?_eq_some_iff.1 h1).1
    refine (hg k hlt ?_).trans h1
    intro e
    rw [(hrow k e.symm).1] at hk
    cases hk
  · refine e.loc (fun k hk => ?_) (hs.inv e he)
    obtain ⟨o, h1, h2⟩ := hc e he _ k (hs.inv e he) hk
    have hlt : k < h.size := (Array.getElem?_eq_some_iff.1 h1).1
    refine hg k hlt ?_
    intro e'
    obtain ⟨_, o', g1, g2⟩ := hrow k e'.symm
    rw [show h[k]? = some o from h1] at g1
    cases g1
    rw [h2] at g2
    cases g2
/-- the heap but for the entries' blocks -/
def awayL (L : List Ent) (m : Mp) : Mp := fun k => if L.any (·.dom k) then none else m k
theorem HS.awayL (hs : HS m L h) : HS (awayL L (mp h)) L h := by
  refine ⟨fun k o hk => ?_, hs.inv, fun e he k hk => ?_, hs.apart⟩
  · unfold Eng.awayL at hk
    split at hk
    · cases hk
    · exact hk
  · unfold Eng.awayL
    rw [if_pos (List.any_eq_true.2 ⟨e, he, hk⟩)]
theorem HS.le_away (hs : HS m L h) : Le m (Eng.awayL L (mp h)) := fun k o hk => by
  unfold Eng.awayL
  rw [if_neg]
  · exact hs.base k o hk
  · intro ha
    obtain ⟨e, he, hd⟩ := List.any_eq_true.1 ha
    rw [hs.out e he k hd] at hk
    cases hk
theorem HS.weak {m' : Mp} (hs : HS m' L h) (hl : Le m m') : HS m L h := ⟨hl.trans hs.base, hs.inv, fun e he k hk => by
  cases hm : m k with
  | none => rfl
  | some o => exact absurd (hl k o hm) (by rw [hs.out e he k hk]; intro c; cases c), hs.apart⟩
theorem body_keeps {L' : List Ent} {x x' : Fx} {d d' B : Nat} (hs : HS m L h) (hs' : HS (Eng.awayL L (mp h)) L' h') (hc : ∀ e ∈ L, CellsOnly e) (hd : ∀ k, (L.any (·.dom k)) = true → (L'.any (·.dom k)) = true) :
    KeepsFrom B (W x h d) (W x' h' d') ∧ HS m L' h' := by
  have some_at : ∀ k o, h[k]? = some o → h'[k]? ≠ none := fun k o hk => by
    cases ha : L.any (·.dom k) with
    | false =>
      have h1 : Eng.awayL L (mp h) k = some o := by unfold Eng.awayL; rw [ha]; exact hk
      have := hs'.base k o h1
      rw [show h'[k]? = some o from this]
      intro c; cases c
    | true =>
      obtain ⟨e, he, hdk⟩ := List.any_eq_true.1 (hd k ha)
      exact e.has (hs'.inv e he) hdk
  refine ⟨⟨?_, fun k o _ hk ho => ?_⟩, hs'.weak hs.le_away⟩
  · show h.size ≤ h'.size
    by_cases h0 : h.size = 0
    · omega
    · have hlt : h.size - 1 < h.size := by omega
      have := some_at (h.size - 1) _ (Array.getElem?_eq_getElem hlt)
      by_cases hl2 : h.size - 1 < h'.size
      · omega
      · exact absurd (Array.getElem?_eq_none (by omega)) this
  · refine hs'.base k o ?_
    unfold Eng.awayL
    rw [if_neg]
    · exact hk
    · intro ha
      obtain ⟨e, he, hdk⟩ := List.any_eq_true.1 ha
      obtain ⟨o', h1, h2⟩ := hc e he _ k (hs.inv e he) hdk
      have hk' : h[k]? = some o := hk
      rw [show h[k]? = some o' from h1] at hk'
      cases hk'
      rw [h2] at ho
      cases ho
end
end Go.Eng

namespace Go.Eng
/-- one panic -/
def pan (v : Value) : List PanicEntry := [{ v, recovered := false }]
/-- Called in the heap h the function returns a value (R), or panics with one (Rp). -/
def CP (P : Program) (f : FuncId) (args : Array Value) (h : Heap) (R Rp : Value → Heap → Prop) : Prop :=
  ∀ (x : Fx) (d : Nat), Calls P f args (W x h d) fun e w' => ∃ v h' d', w' = W x h' d' ∧ ((e = .returned v ∧ R v h') ∨ (e = .panicked (pan v) ∧ Rp v h'))
theorem CP.of {P : Program} {f : FuncId} {args : Array Value} {h : Heap} {R Rp : Value → Heap → Prop} (hc : C P f args h R) : CP P f args h R Rp := fun x d =>
  (hc x d).mono fun _ _ ⟨v, h', d', h1, h2, h3⟩ => ⟨v, h', d', h2, .inl ⟨h1, h3⟩⟩
/-- what is asked at the end of a body -/
def retP (P : Program) (rs : List ResultVar) (R Rp : Value → Heap → Prop) : Post
  | .normal, env, h => ∃ vs, RvsOk P env h rs vs ∧ R (tup vs) h
  | .ret, env, h => ∃ vs, RvsOk P env h rs vs ∧ R (tup vs) h
  | .panic c, _, h => ∃ v, c = pan v ∧ Rp v h
  | _, _, _ => False
theorem CP_of {P : Program} {f : FuncId} {fn : Func} {c : Code} {l : List Value} {h : Heap} {R Rp : Value → Heap → Prop} (rs : List ResultVar) (hf : P.funcs[f]? = some fn) (hb : fn.body = some c) (hrs : fn.results = rs.toArray)
    (hl : Nat.ble l.length fn.ntmps = true) (ht : T P fn.ntmps c (env0 l 0) h (retP P rs R Rp)) : CP P f l.toArray h R Rp := by
  intro x d
  refine calls_of_wp hf hb (wp_mono (ht ⟨x.tape, x.os, x.out, []⟩ d _ (agD0 (Nat.le_of_ble_eq_true hl))) ?_)
  rintro e a w' ⟨env, h', d', hag, rfl, hq⟩
  cases e with
  | normal =>
    obtain ⟨vs, h1, h2⟩ := hq
    exact ⟨hag.defers, _, h1.results hrs hag.toAg, _, h', d', rfl, .inl ⟨rfl, h2⟩⟩
  | ret =>
    obtain ⟨vs, h1, h2⟩ := hq
    exact ⟨hag.defers, _, h1.results hrs hag.toAg, _, h', d', rfl, .inl ⟨rfl, h2⟩⟩
  | exit i => exact hq.elim
  | goto l => exact hq.elim
  | panic c =>
    obtain ⟨v, rfl, h2⟩ := hq
    exact ⟨hag.defers, v, h', d', rfl, .inr ⟨rfl, h2⟩⟩
  | outgrown => exact hq.elim
section
variable {P : Program} {n : Nat} {env : Env} {h : Heap} {Q : Post} {K : Env → Heap → Prop} {d : Nat} {ty : TypeId} {pos : String} {aft : Array Edge} {gd : Option (Nat × Bool)}
theorem E_callP {f : FuncId} {args : List Operand} {ats : Array TypeId} {vs : List Value} {R Rp : Value → Heap → Prop} (hcl : callable P f = true) (hx : evs env args = some vs) (hc : CP P f vs.toArray h R Rp) (hn : Nat.blt d n = true)
    (hk : ∀ v h', R v h' → K ((d, v) :: env) h') (hp : ∀ v h', Rp v h' → Q (.panic (pan v)) env h') : Step P n Q ⟨some d, .call ⟨.value (.func f), args.toArray, ats⟩, ty, pos, aft, gd⟩ env h K := by
  intro fx dr a ha
  have h1 := evs_ok ha.toAg hx
  have h2 : (execOp a.eval ⟨some d, .call ⟨.value (.func f), args.toArray, ats⟩, ty, pos, aft, gd⟩).run P (W fx h dr) = .ok (.enter f vs.toArray) (W fx h dr) := by
    simp only [execOp, resolve, h1, Act.eval, Deferred.ofValue, Sem.run_bind, Sem.run_pure, Result.andThen_ok, invoke, Array.empty_append, Array.append_empty]
    exact callable_spec hcl _ _
  unfold Oper.wp
  rw [h2, Oper.upon_enter]
  refine (hc fx dr).mono ?_
  rintro e w' ⟨v, h', d', rfl, ⟨rfl, hr⟩ | ⟨rfl, hr⟩⟩
  · exact ⟨_, h', d', ha.put d v (by simpa [Nat.blt_eq] using hn), rfl, hk v h' hr⟩
  · exact ⟨_, h', d', ha, rfl, hp v h' hr⟩
theorem E_callP0 {f : FuncId} {args : List Operand} {ats : Array TypeId} {vs : List Value} {R Rp : Value → Heap → Prop} (hcl : callable P f = true) (hx : evs env args = some vs) (hc : CP P f vs.toArray h R Rp)
    (hk : ∀ v h', R v h' → K env h') (hp : ∀ v h', Rp v h' → Q (.panic (pan v)) env h') : Step P n Q ⟨none, .call ⟨.value (.func f), args.toArray, ats⟩, ty, pos, aft, gd⟩ env h K := by
  intro fx dr a ha
  have h1 := evs_ok ha.toAg hx
  have h2 : (execOp a.eval ⟨none, .call ⟨.value (.func f), args.toArray, ats⟩, ty, pos, aft, gd⟩).run P (W fx h dr) = .ok (.enter f vs.toArray) (W fx h dr) := by
    simp only [execOp, resolve, h1, Act.eval, Deferred.ofValue, Sem.run_bind, Sem.run_pure, Result.andThen_ok, invoke, Array.empty_append, Array.append_empty]
    exact callable_spec hcl _ _
  unfold Oper.wp
  rw [h2, Oper.upon_enter]
  refine (hc fx dr).mono ?_
  rintro e w' ⟨v, h', d', rfl, ⟨rfl, hr⟩ | ⟨rfl, hr⟩⟩
  · exact ⟨env, h', d', ha, rfl, hk v h' hr⟩
  · exact ⟨_, h', d', ha, rfl, hp v h' hr⟩
theorem E_callPV {f : FuncId} {fv : Operand} {args : List Operand} {ats : Array TypeId} {vs p q : List Value} {R Rp : Value → Heap → Prop} (hcl : callable P f = true) (hf : ev env fv = some (.func (.func f) p.toArray q.toArray)) (hx : evs env args = some vs)
    (hc : CP P f ((p ++ vs) ++ q).toArray h R Rp) (hk : ∀ v h', R v h' → K env h') (hp : ∀ v h', Rp v h' → Q (.panic (pan v)) env h') : Step P n Q ⟨none, .call ⟨.value fv, args.toArray, ats⟩, ty, pos, aft, gd⟩ env h K := by
  intro fx dr a ha
  have h1 := evs_ok ha.toAg hx
  have h2 : (execOp a.eval ⟨none, .call ⟨.value fv, args.toArray, ats⟩, ty, pos, aft, gd⟩).run P (W fx h dr) = .ok (.enter f ((p ++ vs) ++ q).toArray) (W fx h dr) := by
    simp only [execOp, resolve, h1, ha.toAg.eval hf, Deferred.ofValue, Sem.run_bind, Sem.run_pure, Result.andThen_ok, invoke, List.append_toArray]
    exact callable_spec hcl _ _
  unfold Oper.wp
  rw [h2, Oper.upon_enter]
  refine (hc fx dr).mono ?_
  rintro e w' ⟨v, h', d', rfl, ⟨rfl, hr⟩ | ⟨rfl, hr⟩⟩
  · exact ⟨env, h', d', ha, rfl, hk v h' hr⟩
  · exact ⟨_, h', d', ha, rfl, hp v h' hr⟩
/-- a panic -/
theorem E_panic {dst : Option Tmp} {y : Operand} {t : TypeId} {v : Value} (hx : ev env y = some (.iface t v)) (hq : Q (.panic (pan (.iface t v))) env h) : Step P n Q ⟨dst, .panic y, ty, pos, aft, gd⟩ env h K := by
  intro fx dr a ha
  have h2 : (execOp a.eval ⟨dst, .panic y, ty, pos, aft, gd⟩).run P (W fx h dr) = .halt (.panic (.iface t v)) (W fx h dr) := by
    simp only [execOp, ha.toAg.eval hx, Instr.panic, goPanic]
    rfl
  unfold Oper.wp
  rw [h2, Oper.upon_panic]
  exact ⟨env, h, dr, ha, rfl, hq⟩
end
/-! ### what an interface value holds -/
section
variable {P : Program} {n : Nat} {env : Env} {dst : Option Tmp} {ty : TypeId} {pos : String} {aft : Array Edge} {gd : Option (Nat × Bool)} {x : Operand} {t u xt : TypeId} {v zv : Value}
theorem P_assertYes (ht : isIface P t = false) (hs : (P.underlying t).isSome = true) (hx : ev env x = some (.iface t v)) : PureV P n ⟨dst, .typeAssert x xt t true, ty, pos, aft, gd⟩ env (.tuple #[v, .bool true]) := by
  intro a' w ha
  obtain ⟨ds, hds⟩ := Option.isSome_iff_exists.1 hs
  unfold isIface at ht
  rw [hds] at ht
  simp only [execOp, Instr.typeAssert, ha.eval hx]
  cases ds <;> simp_all [run_underlying hds]
theorem P_assertYes1 (ht : isIface P t = false) (hs : (P.underlying t).isSome = true) (hx : ev env x = some (.iface t v)) : PureV P n ⟨dst, .typeAssert x xt t false, ty, pos, aft, gd⟩ env v := by
  intro a' w ha
  obtain ⟨ds, hds⟩ := Option.isSome_iff_exists.1 hs
  unfold isIface at ht
  rw [hds] at ht
  simp only [execOp, Instr.typeAssert, ha.eval hx]
  cases ds <;> simp_all [run_underlying hds]
theorem P_assertNo (ht : isIface P t = false) (hs : (P.underlying t).isSome = true) (hx : ev env x = some (.iface u v)) (hne : Nat.beq u t = false) (hz : ∀ w, (zeroValue t).run P w = .ok zv w) : PureV P n ⟨dst, .typeAssert x xt t true, ty, pos, aft, gd⟩ env (.tuple #[zv, .bool false]) := by
  intro a' w ha
  obtain ⟨ds, hds⟩ := Option.isSome_iff_exists.1 hs
  have hut : ¬ u = t := fun e => by rw [e, Nat.beq_refl] at hne; cases hne
  unfold isIface at ht
  rw [hds] at ht
  simp only [execOp, Instr.typeAssert, ha.eval hx]
  cases ds <;> simp_all [run_underlying hds]
theorem P_assertNil (ht : isIface P t = false) (hs : (P.underlying t).isSome = true) (hx : ev env x = some .nilIface) (hz : ∀ w, (zeroValue t).run P w = .ok zv w) : PureV P n ⟨dst, .typeAssert x xt t true, ty, pos, aft, gd⟩ env (.tuple #[zv, .bool false]) := by
  intro a' w ha
  obtain ⟨ds, hds⟩ := Option.isSome_iff_exists.1 hs
  unfold isIface at ht
  rw [hds] at ht
  simp only [execOp, Instr.typeAssert, ha.eval hx]
  cases ds <;> simp_all [run_underlying hds]
end
/-! ### a method asked of an interface value -/
section
variable {P : Program} {n : Nat} {env : Env} {h : Heap} {m : Mp} {L : List Ent} {Q : Post} {d : Nat} {ty : TypeId} {pos : String} {aft : Array Edge} {gd : Option (Nat × Bool)}
theorem E_invoke {K : Env → Heap → Prop} {f : FuncId} {x : Operand} {name : String} {args : List Operand} {ats : Array TypeId} {vs : List Value} {t : TypeId} {v r : Value} {R : Value → Heap → Prop} (hcl : callable P f = true) (hr : ev env x = some (.iface t v)) (hx : evs env args = some vs)
    (hm : ∀ w, (method (P.types.size + Made.depth) t v name).run P w = .ok (f, r) w) (hc : C P f (r :: vs).toArray h R) (hn : Nat.blt d n = true) (hk : ∀ u h', R u h' → K ((d, u) :: env) h') : Step P n Q ⟨some d, .call ⟨.invoke x name, args.toArray, ats⟩, ty, pos, aft, gd⟩ env h K := by
  intro fx dr a ha
  have h1 := evs_ok ha.toAg hx
  have h2 : (execOp a.eval ⟨some d, .call ⟨.invoke x name, args.toArray, ats⟩, ty, pos, aft, gd⟩).run P (W fx h dr) = .ok (.enter f (r :: vs).toArray) (W fx h dr) := by
    have h3 : (#[r] ++ (#[Value.iface t v] ++ vs.toArray).extract 1 (#[Value.iface t v] ++ vs.toArray).size : Array Value) = (r :: vs).toArray := by simp
    have h0 : (#[Value.iface t v] ++ vs.toArray)[0]? = some (.iface t v) := by simp
    have h4 := callable_spec (P := P) hcl (r :: vs).toArray (W fx h dr)
    simp only [execOp, resolve, h1, ha.toAg.eval hr, Sem.run_bind, Sem.run_pure, Result.andThen_ok, invoke, h0, callMethod]
    have hp : (program).run P (W fx h dr) = .ok P (W fx h dr) := rfl
    simp only [hp, Sem.run_bind, Result.andThen_ok, hm, h3, h4]
  unfold Oper.wp
  rw [h2, Oper.upon_enter]
  refine (hc fx dr).mono ?_
  rintro e w' ⟨u, h', d', rfl, rfl, hr⟩
  exact ⟨_, h', d', ha.put d u (by simpa [Nat.blt_eq] using hn), rfl, hk u h' hr⟩
theorem S_invoke {K : Env → List Ent → Prop} {f : FuncId} {x : Operand} {name : String} {args : List Operand} {ats : Array TypeId} {vs : List Value} {t : TypeId} {v r : Value} {post : Value → List Ent → Prop} (hcl : callable P f = true) (hr : ev env x = some (.iface t v)) (hx : evs env args = some vs)
    (hm : ∀ w, (method (P.types.size + Made.depth) t v name).run P w = .ok (f, r) w) (hc : ∀ m', Le m m' → HE L m' → CS P f (r :: vs) m' [] post) (hn : Nat.blt d n = true) (hk : ∀ u L', post u L' → K ((d, u) :: env) (L' ++ L)) :
    StepS P n Q ⟨some d, .call ⟨.invoke x name, args.toArray, ats⟩, ty, pos, aft, gd⟩ env m L true K := fun h hs =>
  E_invoke hcl hr hx hm (hc (mp h) hs.base hs.inv h (HS.nil (Le.refl _))) hn fun v h' ⟨L', h1, h2⟩ => ⟨fun _ => h2.base, _, hs.frame0 h2, hk v L' h1⟩
end
/-! ### a read that may come up before or behind a store -/
section
variable {P : Program} {n : Nat} {env : Env} {m : Mp} {L : List Ent} {Q : Post} {l : List Oper} {wild : Nat → Bool} {t : OT} {o : Oper} {v : Value} {d i : Nat}
theorem StepS_read {K : Env → List Ent → Prop} (hr : ∀ h, HS m L h → ReadV P n o env h v) (hd : o.dst = some d) (hn : Nat.blt d n = true) (hk : K ((d, v) :: env) L) : StepS P n Q o env m L true K := fun h hs => (hr h hs).step hd hn ⟨fun _ => Le.refl _, L, hs, hk⟩
theorem VTS_readK (ho : nth l i = some o) (hr : ∀ h, HS m L h → ReadV P n o env h v) (hd : o.dst = some d) (hn : Nat.blt d n = true) (hw : wanted l env o = some true) (hk : VTS P n l wild t ((d, v) :: env) m L Q) : VTS P n l wild (.step i .kept t) env m L Q :=
  VTS_kept ho (StepS_read hr hd hn hk) hw
end
end Go.Eng

namespace Go.Eng
/-! ### a store of what is there already -/
theorem mp_hset_same {h : Heap} {a : Addr} {v : Value} (hc : mc (mp h) a = some v) : mp (hset h a v) = mp h := by
  funext k
  by_cases hk : k = a.block
  · subst hk
    cases hb : mp h a.block with
    | none => simp [mc, hb] at hc
    | some o =>
      cases o with
      | cells c t fr =>
        obtain ⟨blk, off, spot⟩ := a
        cases spot with
        | some s => simp [mc, hb] at hc
        | none =>
          have hb' : mp h blk = some (.cells c.toList.toArray t fr) := by simpa using hb
          have h1 := mp_hset (i := off) h v hb'
          have h2 : c.toList.set off v = c.toList := by
            simp only [mc, hb] at hc
            simp at hc
            apply List.ext_getElem?
            intro i
            rw [List.getElem?_set]
            split
            · rename_i e
              subst e
              have : off < c.toList.length := by
                have := (Array.getElem?_eq_some_iff.1 hc).1
                simpa using this
              rw [if_pos this]
              simpa using hc.symm
            · rfl
          rw [h1, h2]
      | _ => simp [mc, hb] at hc
  · exact mp_hset_ne h a v hk
theorem HS.congr {m : Mp} {L : List Ent} {h h' : Heap} (hs : HS m L h) (e : mp h' = mp h) : HS m L h' := ⟨by rw [e]; exact hs.base, by rw [e]; exact hs.inv, hs.out, hs.apart⟩
/-- a cell that reads v and may be stored into -/
def Wc (m : Mp) (a : Addr) (v : Value) : Prop := mc m a = some v ∧ mfr m a = false
theorem Wc.mono {m m' : Mp} (h : Le m m') {a : Addr} {v : Value} (hc : Wc m a v) : Wc m' a v := by
  refine ⟨mc_mono h hc.1, ?_⟩
  obtain ⟨h1, h2⟩ := hc
  unfold mc at h1
  cases hb : m a.block with
  | none => rw [hb] at h1; cases h1
  | some o =>
    unfold mfr at h2 ⊢
    rw [hb] at h2
    rw [h _ _ hb]
    exact h2
theorem Wc.cel {m : Mp} {b i : Nat} {l : List Value} {e : TypeId} {v : Value} (hi : (cel b l e).inv m) (hv : vnth l i = some v) : Wc m ⟨b, i, none⟩ v :=
  ⟨mc_blk hi hv, by have h1 : m b = some (.cells l.toArray e (0, 0)) := hi; simp [mfr, h1]⟩
theorem Wc.own {m : Mp} {e sz k c i : Nat} {A : Option Addr} {xs : List Value} {v : Value} (hi : Own m e sz A k c xs) (hv : xs[i]? = some v) : Wc m ((sa A).add i) v := by
  refine ⟨(Own.rd hi).at_ hv, ?_⟩
  have hs := (Own.rd hi i v hv).1
  obtain ⟨_, _, ⟨rfl, _⟩ | ⟨g, o, cur, rfl, hg, _⟩⟩ := hi
  · cases hs
  · have : (sa (some (⟨g, o, none⟩ : Addr))).add i = ⟨g, o + i, none⟩ := by show (⟨g, o, none⟩ : Addr).add i = _; rw [Addr.add_lit]
    rw [this]
    simp [mfr, hg]
section
variable {P : Program} {n : Nat} {env : Env} {m : Mp} {L r : List Ent} {Q : Post} {K : Env → List Ent → Prop} {d : Nat} {ty : TypeId} {pos : String} {aft : Array Edge} {gd : Option (Nat × Bool)} {t : TypeId} {x y : Operand} {v : Value}
theorem S_loadW {a : Addr} {dst : Option Tmp} (ht : single P t = true) (hx : ev env x = some (.pointer (some a))) (hc : Wc m a v) : ∀ h, HS m L h → ReadV P n ⟨dst, .load t x, ty, pos, aft, gd⟩ env h v := S_load ht hx hc.1
theorem S_storeSame {a : Addr} (ht : cells1 P t = true) (hx : ev env x = some (.pointer (some a))) (hy : ev env y = some v) (hv : oneV v = true) (hc : Wc m a v) (hk : K env L) :
    StepS P n Q ⟨none, .store t x y, ty, pos, aft, gd⟩ env m L true K := fun h hs => by
  have hw := hc.mono hs.base
  have e := mp_hset_same hw.1
  exact E_storeAt ht hx hy hv hw.1 hw.2 ⟨fun _ => by rw [e]; exact Le.refl _, L, hs.congr e, hk⟩

/-! ### a place: an entry by what one cell of it holds -/
structure Plc (a : Addr) (E : Value → Ent) : Prop where
  wc : ∀ {m : Mp} {u : Value}, (E u).inv m → Wc m a u
  set : ∀ {m : Mp} {r : List Ent} {h : Heap} {u v : Value}, HS m (E u :: r) h → HS m (E v :: r) (hset h a v)
theorem S_loadP {a : Addr} {E : Value → Ent} {u : Value} {dst : Option Tmp} (hp : Plc a E) (ht : single P t = true) (hx : ev env x = some (.pointer (some a))) (hT : Tk L (E u) r) : ∀ h, HS m L h → ReadV P n ⟨dst, .load t x, ty, pos, aft, gd⟩ env h u :=
  fun _ hs => R_load ht hx (hp.wc (hs.get hT)).1
theorem S_storeP {a : Addr} {E : Value → Ent} {u : Value} {L' : List Ent} (hp : Plc a E) (ht : cells1 P t = true) (hx : ev env x = some (.pointer (some a))) (hy : ev env y = some v) (hv : oneV v = true) (hT : Sel L (E u) (E v) L') (hk : K env L') :
    StepS P n Q ⟨none, .store t x y, ty, pos, aft, gd⟩ env m L false K := fun h hs => by
  obtain ⟨r, h1, h2⟩ := hT.split
  have h3 := hs.take h1
  have hw := hp.wc h3.head
  exact E_storeAt ht hx hy hv hw.1 hw.2 ⟨(fun hf => by cases hf), L', (hp.set h3).untake h2, hk⟩
theorem dom_blk {b k : Nat} {o : Obj} (hk : (blk b o).dom k = false) : k ≠ b := by rintro rfl; simp [blk] at hk
theorem Plc.cel {b i : Nat} {l : List Value} {e : TypeId} (hi : i < l.length) : Plc ⟨b, i, none⟩ (fun v => cel b (l.set i v) e) where
  wc := fun {m u} h => Wc.cel (l := l.set i u) h (by rw [← vnth_eq]; simp [hi])
  set := fun {m r h u v} hs => by
    refine hs.upd (e' := Eng.cel b (l.set i v) e) (fun k _ hk => mp_hset_ne h _ v (dom_blk hk)) ?_ fun k hk => .inl hk
    have := mp_hset (i := i) h v (l := l.set i u) (e := e) (fr := (0, 0)) hs.head
    show mp _ b = _
    rw [this, List.set_set]
theorem Plc.own {e sz k c i : Nat} {A : Option Addr} {xs : List Value} (hi : i < xs.length) : Plc ((sa A).add i) (fun v => own e sz A k c (xs.set i v)) where
  wc := fun {m u} h => Wc.own (xs := xs.set i u) h (by simp [hi])
  set := fun {m r h u v} hs => by
    have ho : Own (mp h) e sz A k c (xs.set i u) := hs.head
    obtain ⟨hl, hc, ⟨rfl, rfl⟩ | ⟨g, o, cur, rfl, hg, hcm, hcs, htake⟩⟩ := ho
    · simp only [List.length_set] at hl
      have h1 : k = 0 := by omega
      rw [h1] at hl
      omega
    · have hsa : (sa (some (⟨g, o, none⟩ : Addr))).add i = ⟨g, o + i, none⟩ := by show (⟨g, o, none⟩ : Addr).add i = _; rw [Addr.add_lit]
      rw [hsa]
      have hg' : mp h g = some (.cells cur.toList.toArray e (0, 0)) := by simpa using hg
      refine hs.upd (e' := Eng.own e sz (some ⟨g, o, none⟩) k c (xs.set i v)) (fun j _ hj => mp_hset_ne h _ v ?_) ?_ fun j hj => .inl hj
      · intro e
        subst e
        have hj' : inB (some ⟨_, o, none⟩) _ = false := hj
        simp [inB, ownB] at hj'
      · refine ⟨by simpa using hl, hc, .inr ⟨g, o, _, rfl, mp_hset h v hg', hcm, by simpa using hcs, ?_⟩⟩
        simp only [List.length_set] at hl
        rw [show xs.set i v = (xs.set i u).set i v from by rw [List.set_set], ← htake]
        simp only [List.drop_set, Nat.add_sub_cancel_left]
        split
        · omega
        · rw [List.take_set]
/-- a place of several cells -/
structure PlcN (a : Addr) (E : List Value → Ent) (q : Nat) : Prop where
  at_ : ∀ {l : List Value} {i : Nat}, l.length = q → i < q → Plc (a.add i) (fun v => E (l.set i v))
theorem PlcN.cel {b o : Nat} {l : List Value} {e : TypeId} {q : Nat} (hi : o + q ≤ l.length) : PlcN ⟨b, o, none⟩ (fun w => cel b (l.take o ++ w ++ l.drop (o + q)) e) q where
  at_ := fun {w i} hw hiq => by
    rw [Addr.add_lit]
    have := Plc.cel (b := b) (i := o + i) (l := l.take o ++ w ++ l.drop (o + q)) (e := e) (by simp; omega)
    have e1 : (fun v => Eng.cel b ((l.take o ++ w ++ l.drop (o + q)).set (o + i) v) e) = (fun v => Eng.cel b (l.take o ++ w.set i v ++ l.drop (o + q)) e) := by
      funext v
      congr 1
      rw [List.append_assoc, List.set_append_right _ _ (by simp; omega), List.set_append_left _ _ (by simp; omega), List.append_assoc]
      congr 3
      simp
      omega
    rw [e1] at this
    exact this
theorem PlcN.own {e sz k c o : Nat} {A : Option Addr} {xs : List Value} {q : Nat} (hi : o + q ≤ xs.length) : PlcN ((sa A).add o) (fun w => own e sz A k c (xs.take o ++ w ++ xs.drop (o + q))) q where
  at_ := fun {w i} hw hiq => by
    rw [add_add]
    have := Plc.own (e := e) (sz := sz) (k := k) (c := c) (A := A) (i := o + i) (xs := xs.take o ++ w ++ xs.drop (o + q)) (by simp; omega)
    have e1 : (fun v => Eng.own e sz A k c ((xs.take o ++ w ++ xs.drop (o + q)).set (o + i) v)) = (fun v => Eng.own e sz A k c (xs.take o ++ w.set i v ++ xs.drop (o + q))) := by
      funext v
      congr 1
      rw [List.append_assoc, List.set_append_right _ _ (by simp; omega), List.set_append_left _ _ (by simp; omega), List.append_assoc]
      congr 3
      simp
      omega
    rw [e1] at this
    exact this
end
/-! ### a struct stored into a part of a block -/
inductive USetL : List Value → Nat → List Value → List Value → Prop
  | nil {r : List Value} : USetL r 0 [] r
  | cons {u v : Value} {r vs r' : List Value} (h : USetL r 0 vs r') : USetL (u :: r) 0 (v :: vs) (v :: r')
  | there {u : Value} {r vs r' : List Value} {i : Nat} (h : USetL r i vs r') : USetL (u :: r) (i + 1) vs (u :: r')
theorem USetL.eq {l vs l' : List Value} {i : Nat} (h : USetL l i vs l') : i + vs.length ≤ l.length ∧ l' = l.take i ++ vs ++ l.drop (i + vs.length) := by
  induction h with
  | nil => simp
  | cons h ih =>
    obtain ⟨h1, h2⟩ := ih
    simp at h1 h2 ⊢
    exact ⟨h1, h2⟩
  | there h ih =>
    obtain ⟨h1, h2⟩ := ih
    refine ⟨by simp; omega, ?_⟩
    rw [h2]
    simp [Nat.add_right_comm]
section
variable {P : Program} {n : Nat} {env : Env} {h : Heap} {m : Mp} {L : List Ent} {Q : Post} {ty : TypeId} {pos : String} {aft : Array Edge} {gd : Option (Nat × Bool)} {t : TypeId} {x y : Operand}
theorem E_storeAggO {K : Env → Heap → Prop} {b o q : Nat} {l vs l' : List Value} {e : TypeId} (ht : aggSize P t = some q) (hx : ev env x = some (.pointer (some ⟨b, o, none⟩))) (hy : ev env y = some (.agg vs.toArray)) (hq : Nat.beq vs.length q = true)
    (hb : mp h b = some (.cells l.toArray e (0, 0))) (hu : USetL l o vs l') (h1 : vs.all oneV = true)
    (hk : ∀ h', mp h' b = some (.cells l'.toArray e (0, 0)) → (∀ j, j ≠ b → mp h' j = mp h j) → h'.size = h.size → K env h') : Step P n Q ⟨none, .store t x y, ty, pos, aft, gd⟩ env h K :=
  step_of_skip rfl fun fx dr act ha => by
    have hq' := Nat.eq_of_beq_eq_true hq
    obtain ⟨hu1, hu2⟩ := hu.eq
    obtain ⟨_, i, hi, hsi⟩ := aggSize_spec ht
    have hst := run_storeCells_at P b o e vs 0 l.toArray (W fx h dr) hb (by simp; omega) (fun v hv => oneCell_of (by rw [List.all_eq_true] at h1; exact h1 v hv))
    obtain ⟨h', hw, hsz2, hoth⟩ := mp_setRow fx h dr b (l.toArray.toList.take (o + 0) ++ vs ++ l.toArray.toList.drop (o + 0 + vs.length)).toArray
    have hg' := setRow_heap (W fx h dr) b l.toArray (l.toArray.toList.take (o + 0) ++ vs ++ l.toArray.toList.drop (o + 0 + vs.length)).toArray e (0, 0) hb
    rw [hw] at hg' hst
    refine ⟨h', dr, ?_, hk h' ?_ hoth hsz2⟩
    · have hc : (Value.agg vs.toArray).cells = vs.toArray := rfl
      simp only [execOp, Instr.storeAt, ha.eval hx, ha.eval hy, Instr.sureAddr, storeVar, hc]
      simp [sizeOf, typeInfo, hi, hsi, hq', hst]
    · rw [hu2]
      exact hg'
theorem S_storeAggO {K : Env → List Ent → Prop} {b o q : Nat} {l vs l' : List Value} {e : TypeId} {L' : List Ent} (ht : aggSize P t = some q) (hx : ev env x = some (.pointer (some ⟨b, o, none⟩))) (hy : ev env y = some (.agg vs.toArray)) (hq : Nat.beq vs.length q = true)
    (hT : Sel L (cel b l e) (cel b l' e) L') (hu : USetL l o vs l') (h1 : vs.all oneV = true) (hk : K env L') : StepS P n Q ⟨none, .store t x y, ty, pos, aft, gd⟩ env m L false K := fun h hs => by
  obtain ⟨r, g1, g2⟩ := hT.split
  have h3 := hs.take g1
  exact E_storeAggO ht hx hy hq (show mp h b = some (.cells l.toArray e (0, 0)) from h3.head) hu h1 fun h' k1 k2 k3 => ⟨(fun hf => by cases hf), L', (h3.upd (e' := cel b l' e) (fun k _ hk => k2 k (dom_blk hk)) k1 fun k hk => .inl hk).untake g2, hk⟩
end
/-! ### several entries as one -/
def pack (L : List Ent) : Ent where
  dom := fun k => L.any fun e => e.dom k
  inv := fun m => (∀ e ∈ L, e.inv m) ∧ L.Pairwise fun (a b : Ent) => ∀ k : Nat, a.dom k = true → b.dom k = false
  loc := fun {m m'} h hi => ⟨fun e he => e.loc (fun k hk => h k (by rw [List.any_eq_true]; exact ⟨e, he, hk⟩)) (hi.1 e he), hi.2⟩
  has := fun {m k} hi hk => by
    rw [List.any_eq_true] at hk
    obtain ⟨e, he, hk⟩ := hk
    exact e.has (hi.1 e he) hk
theorem HS.pack_iff {m : Mp} {L r : List Ent} {h : Heap} : HS m (L ++ r) h ↔ HS m (pack L :: r) h := by
  constructor
  · intro ⟨h1, h2, h3, h4⟩
    rw [List.pairwise_append] at h4
    refine HS.cons_iff.2 ⟨⟨h1, fun e he => h2 e (by simp [he]), fun e he => h3 e (by simp [he]), h4.2.1⟩, ⟨fun e he => h2 e (by simp [he]), h4.1⟩, fun k hk => ?_, fun x hx k hk => ?_⟩
    · have hk' : (L.any fun e => e.dom k) = true := hk
      rw [List.any_eq_true] at hk'
      obtain ⟨e, he, hk'⟩ := hk'
      exact h3 e (by simp [he]) k hk'
    · have hk' : (L.any fun e => e.dom k) = true := hk
      rw [List.any_eq_true] at hk'
      obtain ⟨e, he, hk'⟩ := hk'
      exact h4.2.2 e he x hx k hk'
  · intro hs
    obtain ⟨h1, h2, h3, h4⟩ := HS.cons_iff.1 hs
    have key : ∀ e ∈ L, ∀ k, e.dom k = true → (pack L).dom k = true := fun e he k hk => by
      show (L.any fun e => e.dom k) = true
      rw [List.any_eq_true]; exact ⟨e, he, hk⟩
    refine ⟨h1.base, fun e he => ?_, fun e he k hk => ?_, List.pairwise_append.2 ⟨h2.2, h1.apart, fun a ha b hb k hk => h4 b hb k (key a ha k hk)⟩⟩
    · rcases List.mem_append.1 he with he | he
      · exact h2.1 e he
      · exact h1.inv e he
    · rcases List.mem_append.1 he with he | he
      · exact h3 k (key e he k hk)
      · exact h1.out e he k hk
/-- entries taken out, one behind the other -/
inductive Tks : List Ent → List Ent → List Ent → Prop
  | nil {L : List Ent} : Tks L [] L
  | cons {L r es r' : List Ent} {e : Ent} (h : Tk L e r) (hs : Tks r es r') : Tks L (e :: es) r'
theorem HS.takes {L es r : List Ent} (ht : Tks L es r) : ∀ {m : Mp} {h : Heap}, HS m L h → HS m (es ++ r) h := by
  induction ht with
  | nil => exact fun hs => hs
  | cons h _ ih =>
    intro m h' hs
    have h1 := hs.take h
    obtain ⟨a1, a2, a3, a4⟩ := HS.cons_iff.1 h1
    have h2 := ih a1
    refine HS.cons_iff.2 ⟨h2, a2, a3, fun x hx k hk => ?_⟩
    -- what is taken is of what was there
    have h5 := ih (m := fun j => if (Ent.dom _ j) then mp h' j else m j) (h := h') (by
      refine ⟨fun j o hj => ?_, a1.inv, fun x hx j hj => ?_, a1.apart⟩
      · split at hj
        · exact hj
        · exact a1.base j o hj
      · split
        · rename_i he
          have := a4 x hx j he
          rw [hj] at this
          cases this
        · exact a1.out x hx j hj)
    cases hxk : x.dom k with
    | false => rfl
    | true =>
      have h6 := h5.out x hx k hxk
      simp only [hk, if_true] at h6
      exact absurd h6 (x.has (h2.inv x hx) hxk)
theorem HS.part {m : Mp} {pre r : List Ent} {h : Heap} (hs : HS m (pre ++ r) h) : ∃ m', Le m m' ∧ HE r m' ∧ HS m' pre h ∧ ∀ {h' : Heap} {L' : List Ent}, HS m' L' h' → HS m (L' ++ r) h' := by
  have h0 := HS.pack_iff.1 hs
  obtain ⟨h1, h2, h3⟩ := h0.away
  refine ⟨_, h2, h3, ?_, fun hc => h0.frame1 hc⟩
  have := HS.pack_iff (L := pre) (r := []) (m := Eng.away (pack pre) (mp h)) (h := h)
  rw [List.append_nil] at this
  exact this.2 h1
/-! ### contracts of functions that may panic -/
def CSP (P : Program) (f : FuncId) (args : List Value) (m : Mp) (pre : List Ent) (post ppost : Value → List Ent → Prop) : Prop :=
  ∀ h, HS m pre h → CP P f args.toArray h (postS m post) (postS m ppost)
theorem CS.toP {P : Program} {f : FuncId} {args : List Value} {m : Mp} {pre : List Ent} {post ppost : Value → List Ent → Prop} (hc : CS P f args m pre post) : CSP P f args m pre post ppost := fun h hs => CP.of (hc h hs)
theorem CSP.of {P : Program} {f : FuncId} {args : List Value} {m : Mp} {pre : List Ent} {post ppost : Value → List Ent → Prop} (hc : CS P f args m pre post) : CSP P f args m pre post ppost := hc.toP
theorem CSP_of {P : Program} {f : FuncId} {fn : Func} {c : Code} {l : List Value} {m : Mp} {pre : List Ent} {post ppost : Value → List Ent → Prop} (rs : List ResultVar) (hf : P.funcs[f]? = some fn) (hb : fn.body = some c) (hrs : fn.results = rs.toArray)
    (hl : Nat.ble l.length fn.ntmps = true) (ht : TS P fn.ntmps c (env0 l 0) m pre (retP P rs (postS m post) (postS m ppost))) : CSP P f l m pre post ppost :=
  fun h hs => CP_of rs hf hb hrs hl (ht h hs)
theorem QS_retP {P : Program} {rs : List ResultVar} {env : Env} {m : Mp} {L : List Ent} {post ppost : Value → List Ent → Prop} (vs : List Value) (hv : RvsS P env L rs vs) (L' : List Ent) (hp : Pick L L') (hq : post (tup vs) L') : QS (retP P rs (postS m post) (postS m ppost)) .ret env m L :=
  fun h hs => ⟨vs, hv.ok hs, L', hq, hp m h hs⟩
theorem QS_retPN {P : Program} {rs : List ResultVar} {env : Env} {m : Mp} {L : List Ent} {post ppost : Value → List Ent → Prop} (vs : List Value) (hv : RvsS P env L rs vs) (L' : List Ent) (hp : Pick L L') (hq : post (tup vs) L') : QS (retP P rs (postS m post) (postS m ppost)) .normal env m L :=
  fun h hs => ⟨vs, hv.ok hs, L', hq, hp m h hs⟩
theorem QS_pan {P : Program} {rs : List ResultVar} {env : Env} {m : Mp} {L : List Ent} {post ppost : Value → List Ent → Prop} {v : Value} (L' : List Ent) (hp : Pick L L') (hq : ppost v L') : QS (retP P rs (postS m post) (postS m ppost)) (.panic (pan v)) env m L :=
  fun h hs => ⟨v, rfl, L', hq, hp m h hs⟩
section
variable {P : Program} {n : Nat} {env : Env} {m : Mp} {L r : List Ent} {Q : Post} {K : Env → List Ent → Prop} {d : Nat} {ty : TypeId} {pos : String} {aft : Array Edge} {gd : Option (Nat × Bool)}
/-- a call that is handed entries -/
theorem S_callL {f : FuncId} {args : List Operand} {ats : Array TypeId} {vs : List Value} {pre : List Ent} {post : Value → List Ent → Prop} (hcl : callable P f = true) (hx : evs env args = some vs) (hT : Tks L pre r) (hc : ∀ m', Le m m' → HE r m' → CS P f vs m' pre post) (hn : Nat.blt d n = true)
    (hk : ∀ v L', post v L' → K ((d, v) :: env) (L' ++ r)) : StepS P n Q ⟨some d, .call ⟨.value (.func f), args.toArray, ats⟩, ty, pos, aft, gd⟩ env m L false K := fun h hs => by
  obtain ⟨m', h1, h2, h3, h4⟩ := (HS.takes hT hs).part
  exact E_call hcl hx (hc m' h1 h2 h h3) hn fun v h' ⟨L', g1, g2⟩ => ⟨fun hf => (by cases hf), _, h4 g2, hk v L' g1⟩
theorem S_callL0 {f : FuncId} {args : List Operand} {ats : Array TypeId} {vs : List Value} {pre : List Ent} {post : Value → List Ent → Prop} (hcl : callable P f = true) (hx : evs env args = some vs) (hT : Tks L pre r) (hc : ∀ m', Le m m' → HE r m' → CS P f vs m' pre post)
    (hk : ∀ v L', post v L' → K env (L' ++ r)) : StepS P n Q ⟨none, .call ⟨.value (.func f), args.toArray, ats⟩, ty, pos, aft, gd⟩ env m L false K := fun h hs => by
  obtain ⟨m', h1, h2, h3, h4⟩ := (HS.takes hT hs).part
  exact E_call0 hcl hx (hc m' h1 h2 h h3) fun v h' ⟨L', g1, g2⟩ => ⟨fun hf => (by cases hf), _, h4 g2, hk v L' g1⟩
/-- the same, and it may panic -/
theorem S_callP {f : FuncId} {args : List Operand} {ats : Array TypeId} {vs : List Value} {pre : List Ent} {post ppost : Value → List Ent → Prop} (hcl : callable P f = true) (hx : evs env args = some vs) (hT : Tks L pre r) (hc : ∀ m', Le m m' → HE r m' → CSP P f vs m' pre post ppost) (hn : Nat.blt d n = true)
    (hp : ∀ v L', ppost v L' → QS Q (.panic (pan v)) env m (L' ++ r)) (hk : ∀ v L', post v L' → K ((d, v) :: env) (L' ++ r)) : StepS P n Q ⟨some d, .call ⟨.value (.func f), args.toArray, ats⟩, ty, pos, aft, gd⟩ env m L false K := fun h hs => by
  obtain ⟨m', h1, h2, h3, h4⟩ := (HS.takes hT hs).part
  exact E_callP hcl hx (hc m' h1 h2 h h3) hn (fun v h' ⟨L', g1, g2⟩ => ⟨fun hf => (by cases hf), _, h4 g2, hk v L' g1⟩) fun v h' ⟨L', g1, g2⟩ => hp v L' g1 h' (h4 g2)
theorem S_callP0 {f : FuncId} {args : List Operand} {ats : Array TypeId} {vs : List Value} {pre : List Ent} {post ppost : Value → List Ent → Prop} (hcl : callable P f = true) (hx : evs env args = some vs) (hT : Tks L pre r) (hc : ∀ m', Le m m' → HE r m' → CSP P f vs m' pre post ppost)
    (hp : ∀ v L', ppost v L' → QS Q (.panic (pan v)) env m (L' ++ r)) (hk : ∀ v L', post v L' → K env (L' ++ r)) : StepS P n Q ⟨none, .call ⟨.value (.func f), args.toArray, ats⟩, ty, pos, aft, gd⟩ env m L false K := fun h hs => by
  obtain ⟨m', h1, h2, h3, h4⟩ := (HS.takes hT hs).part
  exact E_callP0 hcl hx (hc m' h1 h2 h h3) (fun v h' ⟨L', g1, g2⟩ => ⟨fun hf => (by cases hf), _, h4 g2, hk v L' g1⟩) fun v h' ⟨L', g1, g2⟩ => hp v L' g1 h' (h4 g2)
theorem S_callPV {f : FuncId} {fv : Operand} {args : List Operand} {ats : Array TypeId} {vs p q : List Value} {pre : List Ent} {post ppost : Value → List Ent → Prop} (hcl : callable P f = true) (hf : ev env fv = some (.func (.func f) p.toArray q.toArray)) (hx : evs env args = some vs) (hT : Tks L pre r)
    (hc : ∀ m', Le m m' → HE r m' → CSP P f ((p ++ vs) ++ q) m' pre post ppost) (hp : ∀ v L', ppost v L' → QS Q (.panic (pan v)) env m (L' ++ r)) (hk : ∀ v L', post v L' → K env (L' ++ r)) : StepS P n Q ⟨none, .call ⟨.value fv, args.toArray, ats⟩, ty, pos, aft, gd⟩ env m L false K := fun h hs => by
  obtain ⟨m', h1, h2, h3, h4⟩ := (HS.takes hT hs).part
  exact E_callPV (R := postS m' post) (Rp := postS m' ppost) hcl hf hx (hc m' h1 h2 h h3) (fun v h' ⟨L', g1, g2⟩ => ⟨fun hf => (by cases hf), _, h4 g2, hk v L' g1⟩) fun v h' ⟨L', g1, g2⟩ => hp v L' g1 h' (h4 g2)
theorem S_panic {dst : Option Tmp} {y : Operand} {t : TypeId} {v : Value} {kept : Bool} (hx : ev env y = some (.iface t v)) (hq : QS Q (.panic (pan (.iface t v))) env m L) : StepS P n Q ⟨dst, .panic y, ty, pos, aft, gd⟩ env m L kept K := fun h hs => E_panic hx (hq h hs)
end
/-! ### entries that join the base -/
def uni (m n : Mp) : Mp := fun k => (m k).or (n k)
theorem uni_l (m n : Mp) : Le m (uni m n) := fun k o h => by simp [uni, h]
theorem uni_r {m n : Mp} (hd : ∀ k, n k ≠ none → m k = none) : Le n (uni m n) := fun k o h => by
  have := hd k (by rw [h]; exact fun e => by cases e)
  simp [uni, this, h]
/-- what stands there now and stays -/
def snap (ns : Mp) : Ent where
  dom := fun k => (ns k).isSome
  inv := fun m => Le ns m
  loc := fun {m m'} h hi k o hk => by rw [h k (by simp [hk])]; exact hi k o hk
  has := fun {m k} hi hk => by
    obtain ⟨o, ho⟩ := Option.isSome_iff_exists.1 hk
    rw [hi k o ho]
    exact fun e => by cases e
theorem HS.toSnap {m : Mp} {e : Ent} {r : List Ent} {h : Heap} (hs : HS m (e :: r) h) : ∃ ns, e.inv ns ∧ (∀ k, (ns k).isSome = e.dom k) ∧ HS m (snap ns :: r) h := by
  obtain ⟨h1, h2, h3, h4⟩ := HS.cons_iff.1 hs
  have hdom : ∀ k, ((if e.dom k = true then mp h k else none : Option Obj)).isSome = e.dom k := fun k => by
    cases he : e.dom k with
    | false => simp
    | true =>
      simp only [if_true]
      have := e.has h2 he
      cases hm : mp h k with
      | none => exact absurd hm this
      | some o => rfl
  refine ⟨fun k => if e.dom k = true then mp h k else none, e.loc (fun k hk => by simp [hk]) h2, hdom, HS.cons_iff.2 ⟨h1, fun k o hk => ?_, fun k hk => h3 k ?_, fun x hx k hk => h4 x hx k ?_⟩⟩
  · by_cases he : e.dom k = true
    · simpa [he] using hk
    · simp [he] at hk
  · rw [← hdom k]; exact hk
  · rw [← hdom k]; exact hk
theorem HS.absorb {m ns : Mp} {r : List Ent} {h : Heap} (hs : HS m (snap ns :: r) h) : (∀ k, ns k ≠ none → m k = none) ∧ HS (uni m ns) r h := by
  obtain ⟨h1, h2, h3, h4⟩ := HS.cons_iff.1 hs
  refine ⟨fun k hk => h3 k (by cases hn : ns k with | none => exact absurd hn hk | some o => simp [snap, hn]), fun k o hk => ?_, h1.inv, fun x hx k hk => ?_, h1.apart⟩
  · unfold uni at hk
    cases hm : m k with
    | some u => rw [hm] at hk; simp at hk; subst hk; exact h1.base k _ hm
    | none => rw [hm] at hk; simp at hk; exact h2 k o hk
  · unfold uni
    rw [h1.out x hx k hk]
    cases hn : ns k with
    | none => rfl
    | some o => have := h4 x hx k (by simp [snap, hn]); rw [hk] at this; cases this
theorem HS.weaken {m m' : Mp} {L : List Ent} {h : Heap} (hs : HS m' L h) (hl : Le m m') : HS m L h :=
  ⟨hl.trans hs.base, hs.inv, (fun e he k hk => by
    cases hm : m k with
    | none => rfl
    | some o => (have := hs.out e he k hk; rw [hl k o hm] at this; cases this)), hs.apart⟩
/-- what joined the base, as an entry again -/
theorem HS.unabsorb {m ns : Mp} {L : List Ent} {h : Heap} (hd : ∀ k, ns k ≠ none → m k = none) (hs : HS (uni m ns) L h) : HS m (snap ns :: L) h :=
  HS.cons_iff.2 ⟨hs.weaken (uni_l m ns), (uni_r hd).trans hs.base, fun k hk => hd k (by have hk' : (ns k).isSome = true := hk; intro e; rw [e] at hk'; cases hk'), fun x hx k hk => by
    cases hxk : x.dom k with
    | false => rfl
    | true =>
      have h1 := hs.out x hx k hxk
      have hk' : (ns k).isSome = true := hk
      obtain ⟨o, ho⟩ := Option.isSome_iff_exists.1 hk'
      have := uni_r hd k o ho
      rw [h1] at this
      cases this⟩
section
variable {P : Program} {n : Nat} {env : Env} {m : Mp} {L r : List Ent} {Q : Post}
theorem TS_absorb {c : Code} {e : Ent} (hT : Tk L e r) (hk : ∀ ns, e.inv ns → (∀ k, (ns k).isSome = e.dom k) → (∀ k, ns k ≠ none → m k = none) → TS P n c env (uni m ns) r Q) : TS P n c env m L Q := fun h hs => by
  obtain ⟨ns, h1, h2, h3⟩ := (hs.take hT).toSnap
  obtain ⟨h4, h5⟩ := h3.absorb
  exact hk ns h1 h2 h4 h h5
theorem VS_absorb {l0 l : List Oper} {e : Ent} (hT : Tk L e r) (hk : ∀ ns, e.inv ns → (∀ k, (ns k).isSome = e.dom k) → (∀ k, ns k ≠ none → m k = none) → VS P n l0 l env (uni m ns) r Q) : VS P n l0 l env m L Q := fun h hs => by
  obtain ⟨ns, h1, h2, h3⟩ := (hs.take hT).toSnap
  obtain ⟨h4, h5⟩ := h3.absorb
  exact hk ns h1 h2 h4 h h5
theorem QS_absorb {x : Exit} {e : Ent} (hT : Tk L e r) (hk : ∀ ns, e.inv ns → (∀ k, (ns k).isSome = e.dom k) → (∀ k, ns k ≠ none → m k = none) → QS Q x env (uni m ns) r) : QS Q x env m L := fun h hs => by
  obtain ⟨ns, h1, h2, h3⟩ := (hs.take hT).toSnap
  obtain ⟨h4, h5⟩ := h3.absorb
  exact hk ns h1 h2 h4 h h5
theorem TS_weaken {c : Code} {m' : Mp} (hl : Le m m') (ht : TS P n c env m L Q) : TS P n c env m' L Q := fun h hs => ht h (hs.weaken hl)
theorem QS_weaken {x : Exit} {m' : Mp} (hl : Le m m') (ht : QS Q x env m L) : QS Q x env m' L := fun h hs => ht h (hs.weaken hl)
/-- loops whose base grows -/
def roundM {α : Type} (S : α → Env) (MM : α → Mp) (LL : α → List Ent) (F : α → Prop) (μ : α → Nat) (k : Nat) (Q : Post) : Post := roundQ S (fun y h => F y ∧ HS (MM y) (LL y) h) μ k Q
theorem QS_roundM_exit {α : Type} {S : α → Env} {MM : α → Mp} {LL : α → List Ent} {F : α → Prop} {μ : α → Nat} {k i : Nat} (hq : QS Q (.exit i) env m L) : QS (roundM S MM LL F μ k Q) (.exit i) env m L := fun h hs => roundQ_exit (hq h hs)
theorem QS_roundM_ret {α : Type} {S : α → Env} {MM : α → Mp} {LL : α → List Ent} {F : α → Prop} {μ : α → Nat} {k : Nat} (hq : QS Q .ret env m L) : QS (roundM S MM LL F μ k Q) .ret env m L := fun h hs => roundQ_ret (hq h hs)
theorem QS_roundM {α : Type} {S : α → Env} {MM : α → Mp} {LL : α → List Ent} {F : α → Prop} {μ : α → Nat} {k : Nat} (y : α) (hs : Sub (S y) env) (hp : ∀ h, HS m L h → HS (MM y) (LL y) h) (hF : F y) (hk : μ y < k) : QS (roundM S MM LL F μ k Q) .normal env m L :=
  fun h hh => ⟨y, hs, ⟨hF, hp h hh⟩, hk⟩
theorem TS_loopM {α : Type} {c : Code} (S : α → Env) (MM : α → Mp) (LL : α → List Ent) (F : α → Prop) (μ : α → Nat) (y : α) (hs : Sub (S y) env) (hp : ∀ h, HS m L h → HS (MM y) (LL y) h) (hF : F y)
    (hr : ∀ (y : α), F y → TS P n c (S y) (MM y) (LL y) (roundM S MM LL F μ (μ y) Q)) : TS P n (.loop c) env m L Q :=
  fun h hh => T_loop S (fun y h => F y ∧ HS (MM y) (LL y) h) μ y hs ⟨hF, hp h hh⟩ fun y h ⟨h1, h2⟩ => hr y h1 h h2
end
/-! ### a plain region cut in two -/
theorem wp_monoQ {P : Program} {o : Oper} {a : Act} {w : World} {K K' : Act → World → Prop} {Q Q' : Exit → Act → World → Prop} (h : ∀ a w, K a w → K' a w) (hp : ∀ c a w, Q (.panic c) a w → Q' (.panic c) a w) (ho : ∀ a w, Q .outgrown a w → Q' .outgrown a w)
    (hh : o.wp P a w K Q) : o.wp P a w K' Q' := by
  unfold Oper.wp at *
  generalize (execOp a.eval o).run P w = r at *
  cases r with
  | ok n w' =>
    cases n <;> simp only [Oper.upon] at hh ⊢ <;>
      first
        | exact h _ _ hh
        | exact Calls.mono hh (fun e w'' he => by cases e <;> first | exact h _ _ he | exact hp _ _ _ he | exact he.imp fun _ he => he.imp fun _ he => ho _ _ he)
        | exact Rows.mono hh (fun _ _ he => h _ _ he)
  | halt x w' => cases x <;> simp only [Oper.upon] at hh ⊢ <;> first | exact hp _ _ _ hh | exact hh
theorem wpList_cut {P : Program} {ops : Array Oper} {l2 : List Oper} {Q1 Q : Exit → Act → World → Prop} (hn : ∀ a w, Q1 .normal a w → wpList P ops Q l2 a w) (he : ∀ e, e ≠ .normal → ∀ a w, Q1 e a w → Q e a w) :
    ∀ {l1 : List Oper} {a : Act} {w : World}, wpList P ops Q1 l1 a w → wpList P ops Q (l1 ++ l2) a w
  | [], a, w, hh => hn a w hh
  | o :: r, a, w, hh => by
    unfold wpList at hh
    show wpList P ops Q (o :: (r ++ l2)) a w
    unfold wpList
    split
    · rename_i hw
      simp only [hw, if_true] at hh
      rcases hh with hh | ⟨h1, a', w', h2⟩
      · exact .inl (wp_monoQ (fun a w hk => wpList_cut hn he hk) (fun c a w => he _ (by simp) a w) (fun a w => he _ (by simp) a w) hh)
      · exact .inr ⟨h1, a', w', he _ (by simp) _ _ h2⟩
    · rename_i hw
      rw [if_neg hw] at hh
      exact wpList_cut hn he hh
section
variable {P : Program} {n : Nat} {env : Env} {m : Mp} {L : List Ent} {Q : Post} {l0 l : List Oper}
theorem VS_cutAt {α : Type} (k : Nat) (S : α → Env) (LL : α → List Ent) (F : α → Prop) (h1 : VS P n l0 (l.take k) env m L (roundS m S LL F (fun _ => 0) 1 Q)) (h2 : ∀ y, F y → VS P n l0 (l.drop k) (S y) m (LL y) Q) : VS P n l0 l env m L Q := fun h hs x d a hag => by
  have h3 := h1 h hs x d a hag
  rw [← List.take_append_drop k l]
  refine wpList_cut ?_ ?_ h3
  · rintro a' w' ⟨env', h', d', hag', rfl, y, hsub, ⟨hF, hH⟩, _⟩
    exact V_keep _ hsub (h2 y hF h' hH) x d' a' hag'
  · rintro e hne a' w' ⟨env', h', d', hag', rfl, hq⟩
    refine ⟨env', h', d', hag', rfl, ?_⟩
    cases e with
    | normal => exact absurd rfl hne
    | exit i => exact hq
    | goto l => exact hq
    | ret => exact hq
    | panic c => exact hq
    | outgrown => exact hq
end
section
variable {P : Program} {n : Nat} {env : Env} {m : Mp} {L : List Ent} {Q : Post}
/-- loops whose state is a number, and a slice of the call's own -/
def round3 (m : Mp) (S : Nat → Option Addr → Nat → Env) (LL : Nat → Option Addr → Nat → List Ent) (F : Nat → Prop) (μ : Nat → Nat) (k : Nat) (Q : Post) : Post := roundS m (fun y : Nat × Option Addr × Nat => S y.1 y.2.1 y.2.2) (fun y => LL y.1 y.2.1 y.2.2) (fun y => F y.1) (fun y => μ y.1) k Q
theorem QS_round3_exit {S : Nat → Option Addr → Nat → Env} {LL : Nat → Option Addr → Nat → List Ent} {F : Nat → Prop} {μ : Nat → Nat} {k i : Nat} (hq : QS Q (.exit i) env m L) : QS (round3 m S LL F μ k Q) (.exit i) env m L := QS_round_exit hq
theorem QS_round3_ret {S : Nat → Option Addr → Nat → Env} {LL : Nat → Option Addr → Nat → List Ent} {F : Nat → Prop} {μ : Nat → Nat} {k : Nat} (hq : QS Q .ret env m L) : QS (round3 m S LL F μ k Q) .ret env m L := QS_round_ret hq
theorem QS_round3_panic {S : Nat → Option Addr → Nat → Env} {LL : Nat → Option Addr → Nat → List Ent} {F : Nat → Prop} {μ : Nat → Nat} {k : Nat} {v : Value} (hq : QS Q (.panic (pan v)) env m L) : QS (round3 m S LL F μ k Q) (.panic (pan v)) env m L := hq
theorem QS_round3 {S : Nat → Option Addr → Nat → Env} {LL : Nat → Option Addr → Nat → List Ent} {F : Nat → Prop} {μ : Nat → Nat} {k : Nat} (j : Nat) (A : Option Addr) (c : Nat) (hs : Sub (S j A c) env) (hp : Pick L (LL j A c)) (hF : F j) (hk : μ j < k) : QS (round3 m S LL F μ k Q) .normal env m L :=
  QS_round (j, A, c) hs hp hF hk
theorem TS_loop3 {c : Code} (S : Nat → Option Addr → Nat → Env) (LL : Nat → Option Addr → Nat → List Ent) (F : Nat → Prop) (μ : Nat → Nat) (j : Nat) (A : Option Addr) (cc : Nat) (hs : Sub (S j A cc) env) (hp : Pick L (LL j A cc)) (hF : F j)
    (hr : ∀ (j : Nat) (A : Option Addr) (cc : Nat), F j → TS P n c (S j A cc) m (LL j A cc) (round3 m S LL F μ (μ j) Q)) : TS P n (.loop c) env m L Q :=
  TS_loop (fun y : Nat × Option Addr × Nat => S y.1 y.2.1 y.2.2) (fun y => LL y.1 y.2.1 y.2.2) (fun y => F y.1) (fun y => μ y.1) (j, A, cc) hs hp hF fun y hF => hr y.1 y.2.1 y.2.2 hF
end
theorem HE0 {e : Ent} {r : List Ent} {m : Mp} (h : HE (e :: r) m) : e.inv m := h e (by simp)
theorem HE1 {e : Ent} {r : List Ent} {m : Mp} (h : HE (e :: r) m) : HE r m := fun x hx => h x (by simp [hx])
theorem Wc.he {b i : Nat} {l : List Value} {e : TypeId} {r : List Ent} {m : Mp} {v : Value} (h : HE (Eng.cel b l e :: r) m) (hv : vnth l i = some v) : Wc m ⟨b, i, none⟩ v := Wc.cel (HE0 h) hv
section
variable {P : Program} {n : Nat} {env : Env} {m : Mp} {L : List Ent} {Q : Post} {ch : List PanicEntry}
theorem QS_then_pan {c : Code} (hq : QS Q (.panic ch) env m L) : QS (thenQ P n c Q) (.panic ch) env m L := hq
theorem QS_block_pan {id : Nat} (hq : QS Q (.panic ch) env m L) : QS (blockQ id Q) (.panic ch) env m L := hq
theorem QS_scope_pan (hq : QS Q (.panic ch) env m L) : QS (scopeQ Q) (.panic ch) env m L := hq
theorem QS_round_pan {α : Type} {S : α → Env} {LL : α → List Ent} {F : α → Prop} {μ : α → Nat} {k : Nat} (hq : QS Q (.panic ch) env m L) : QS (roundS m S LL F μ k Q) (.panic ch) env m L := hq
theorem QS_roundM_pan {α : Type} {S : α → Env} {MM : α → Mp} {LL : α → List Ent} {F : α → Prop} {μ : α → Nat} {k : Nat} (hq : QS Q (.panic ch) env m L) : QS (roundM S MM LL F μ k Q) (.panic ch) env m L := hq
theorem QS_round3_pan {S : Nat → Option Addr → Nat → Env} {LL : Nat → Option Addr → Nat → List Ent} {F : Nat → Prop} {μ : Nat → Nat} {k : Nat} (hq : QS Q (.panic ch) env m L) : QS (round3 m S LL F μ k Q) (.panic ch) env m L := hq
end
section
variable {P : Program} {n : Nat} {env : Env} {h : Heap} {m : Mp} {L r : List Ent} {Q : Post} {d : Nat} {ty : TypeId} {pos : String} {aft : Array Edge} {gd : Option (Nat × Bool)}
theorem E_callPVd {K : Env → Heap → Prop} {f : FuncId} {fv : Operand} {args : List Operand} {ats : Array TypeId} {vs p q : List Value} {R Rp : Value → Heap → Prop} (hcl : callable P f = true) (hf : ev env fv = some (.func (.func f) p.toArray q.toArray)) (hx : evs env args = some vs)
    (hc : CP P f ((p ++ vs) ++ q).toArray h R Rp) (hn : Nat.blt d n = true) (hk : ∀ v h', R v h' → K ((d, v) :: env) h') (hp : ∀ v h', Rp v h' → Q (.panic (pan v)) env h') : Step P n Q ⟨some d, .call ⟨.value fv, args.toArray, ats⟩, ty, pos, aft, gd⟩ env h K := by
  intro fx dr a ha
  have h1 := evs_ok ha.toAg hx
  have h2 : (execOp a.eval ⟨some d, .call ⟨.value fv, args.toArray, ats⟩, ty, pos, aft, gd⟩).run P (W fx h dr) = .ok (.enter f ((p ++ vs) ++ q).toArray) (W fx h dr) := by
    simp only [execOp, resolve, h1, ha.toAg.eval hf, Deferred.ofValue, Sem.run_bind, Sem.run_pure, Result.andThen_ok, invoke, List.append_toArray]
    exact callable_spec hcl _ _
  unfold Oper.wp
  rw [h2, Oper.upon_enter]
  refine (hc fx dr).mono ?_
  rintro e w' ⟨v, h', d', rfl, ⟨rfl, hr⟩ | ⟨rfl, hr⟩⟩
  · exact ⟨_, h', d', ha.put d v (by simpa [Nat.blt_eq] using hn), rfl, hk v h' hr⟩
  · exact ⟨_, h', d', ha, rfl, hp v h' hr⟩
theorem S_callPVd {K : Env → List Ent → Prop} {f : FuncId} {fv : Operand} {args : List Operand} {ats : Array TypeId} {vs p q : List Value} {pre : List Ent} {post ppost : Value → List Ent → Prop} (hcl : callable P f = true) (hf : ev env fv = some (.func (.func f) p.toArray q.toArray)) (hx : evs env args = some vs) (hT : Tks L pre r)
    (hc : ∀ m', Le m m' → HE r m' → CSP P f ((p ++ vs) ++ q) m' pre post ppost) (hn : Nat.blt d n = true) (hp : ∀ v L', ppost v L' → QS Q (.panic (pan v)) env m (L' ++ r)) (hk : ∀ v L', post v L' → K ((d, v) :: env) (L' ++ r)) : StepS P n Q ⟨some d, .call ⟨.value fv, args.toArray, ats⟩, ty, pos, aft, gd⟩ env m L false K := fun h hs => by
  obtain ⟨m', h1, h2, h3, h4⟩ := (HS.takes hT hs).part
  exact E_callPVd (R := postS m' post) (Rp := postS m' ppost) hcl hf hx (hc m' h1 h2 h h3) hn (fun v h' ⟨L', g1, g2⟩ => ⟨fun hf => (by cases hf), _, h4 g2, hk v L' g1⟩) fun v h' ⟨L', g1, g2⟩ => hp v L' g1 h' (h4 g2)
end
/-! ### bytes of a string -/
/-- the row that '[]byte(s)' lays -/
def bstr (b : Nat) (s : List UInt8) (c : Nat) (e : TypeId) : Ent := blk b (.cells (bytesRow (bs s) c) e ((bytesRow (bs s) c).size, (bytesRow (bs s) c).size + 1))
theorem Wc.bstr {m : Mp} {b c e i : Nat} {s : List UInt8} (hi : (Eng.bstr b s c e).inv m) (hlt : i < s.length) : Wc m ((sa (some ⟨b, 0, none⟩)).add i) (byteV s[i]) := by
  have hm : m b = some (.cells (bytesRow (bs s) c) e ((bytesRow (bs s) c).size, (bytesRow (bs s) c).size + 1)) := hi
  have h1 : (sa (some (⟨b, 0, none⟩ : Addr))).add i = ⟨b, 0 + i, none⟩ := by show (⟨b, 0, none⟩ : Addr).add i = _; rw [Addr.add_lit]
  rw [h1, Nat.zero_add]
  have hsz : (bs s).data.size = s.length := by simp [bs]
  constructor
  · unfold mc
    rw [hm]
    simp only [Option.isSome_none, Bool.false_eq_true, if_false]
    unfold bytesRow
    rw [Array.getElem?_append_left (by simp [bs]; exact hlt)]
    simp [bs, hlt, byteV]
  · unfold mfr
    rw [hm]
    simp only [Bool.and_eq_false_imp, decide_eq_true_eq, decide_eq_false_iff_not]
    intro h2
    have : s.length ≤ (bytesRow (bs s) c).size := by unfold bytesRow; simp [bs]
    omega
theorem S_sbytes {P : Program} {n : Nat} {env : Env} {m : Mp} {L : List Ent} {Q : Post} {K : Env → List Ent → Prop} {d : Nat} {ty : TypeId} {pos : String} {aft : Array Edge} {gd : Option (Nat × Bool)} {x : Operand} {src dk : TypeId} {s : List UInt8}
    (hs : isStr P src = true) (hd : isBytes P dk = true) (hx : ev env x = some (.string (bs s))) (hn : Nat.blt d n = true) (hk : ∀ e b c, K ((d, .slice (some ⟨b, 0, none⟩) s.length c) :: env) (bstr b s c e :: L)) : StepS P n Q ⟨some d, .convert src dk x, ty, pos, aft, gd⟩ env m L true K := fun h hh =>
  step_of_run' rfl hn fun fx dr a ha => by
    obtain ⟨e, he1, he2⟩ := bytes_of hd
    have hr := run_bytes_of_string (P := P) (W fx h dr) src dk e (bs s) (str_of hs) he1 he2
    have hsz : (bs s).size = s.length := bs_size s
    refine ⟨_, h.push (.cells (bytesRow (bs s) (grownCap (W fx h dr) (bs s).size 0 e)) e ((bytesRow (bs s) (grownCap (W fx h dr) (bs s).size 0 e)).size, (bytesRow (bs s) (grownCap (W fx h dr) (bs s).size 0 e)).size + 1)), dr + 1, ?_, fun _ => mp_push h _, _,
      hh.new (e' := bstr h.size s (grownCap (W fx h dr) (bs s).size 0 e) e) (mp_push h _) (mp_push_new h _) (fun k hk => by have := dom_cel hk; subst this; exact mp_none h), hk e _ _⟩
    rw [hsz] at hr
    simp only [execOp, ha.eval hx, Sem.run_bind, hr, Result.andThen_ok, hsz]
    rfl
end Go.Eng

namespace Go.Eng
section
variable {P : Program} {n : Nat} {env : Env} {m : Mp} {L : List Ent} {Q : Exit → Act → World → Prop} {x : Fx} {h : Heap} {d : Nat} {a : Act}
/-- a walk, and what follows of its end -/
theorem wp_TQ {A : Code} {Qr : Post} (ht : TS P n A env m L Qr) (hs : HS m L h) (hag : AgD n x env a) (hk : ∀ e env' h' d' a', Qr e env' h' → AgD n x env' a' → Q e a' (W x h' d')) : A.wp P Q a (W x h d) := by
  refine wp_mono (ht h hs x d a hag) ?_
  rintro e a' w' ⟨env', h', d', hag', rfl, hq⟩
  exact hk e env' h' d' a' hq hag'
def dfr (fn : Fn) (q : List Value) : Deferred := { target := .fn fn q.toArray, args := #[] }
/-- a closure is made, and its call deferred -/
theorem wp_defer {id t : Nat} {fn : Fn} {ca : List Operand} {q : List Value} {ty1 ty2 : TypeId} {pos1 pos2 : String} {aft1 aft2 : Array Edge} {ats : Array TypeId} (hq : evs env ca = some q) (hn : Nat.blt t n = true) (hag : AgD n x env a)
    (hk : ∀ a', AgD n ⟨x.tape, x.os, x.out, dfr fn q :: x.ds⟩ ((t, .func fn #[] q.toArray) :: env) a' → Q .normal a' (W x h d)) :
    (Code.region id [⟨some t, .makeFunc fn #[] ca.toArray, ty1, pos1, aft1, none⟩, ⟨none, .defer ⟨.value (.tmp t), #[], ats⟩, ty2, pos2, aft2, none⟩].toArray false).wp P Q a (W x h d) := by
  refine wp_region_lit ?_
  unfold wpList
  rw [if_pos (by simp [Region.wanted])]
  refine .inl ?_
  have h1 := evs_ok hag.toAg hq
  have hag2 := hag.put t (.func fn #[] q.toArray) (by simpa [Nat.blt_eq] using hn)
  have hr : (execOp a.eval ⟨some t, .makeFunc fn #[] ca.toArray, ty1, pos1, aft1, none⟩).run P (W x h d) = .ok (.value (.func fn #[] q.toArray)) (W x h d) := by
    simp [execOp, h1, Instr.makeFunc]
  unfold Oper.wp
  rw [hr, Oper.upon_value]
  show wpList P _ Q [_] (a.put (some t) _) _
  unfold wpList
  rw [if_pos (by simp [Region.wanted])]
  refine .inl ?_
  have hr2 : (execOp (a.put (some t) (.func fn #[] q.toArray)).eval ⟨none, .defer ⟨.value (.tmp t), #[], ats⟩, ty2, pos2, aft2, none⟩).run P (W x h d) = .ok (.defer (dfr fn q)) (W x h d) := by
    have h2 : (a.put (some t) (.func fn #[] q.toArray)).eval (.tmp t) = .func fn #[] q.toArray := hag2.toAg.eval (by simp [ev, lk])
    simp [execOp, resolve, h2, Deferred.ofValue, dfr]
  unfold Oper.wp
  rw [hr2, Oper.upon_defer]
  show Q .normal _ _
  refine hk _ ⟨?_, ?_⟩
  · exact ⟨hag2.toAg.1, hag2.toAg.2⟩
  · show dfr fn q :: (a.put (some t) (.func fn #[] q.toArray)).defers = dfr fn q :: x.ds
    rw [hag2.defers]

/-! ### deferred calls that recover -/
theorem wpOpsS_of {ops : Array Oper} {cs : List Frame} {QS : Exit → Act → List Frame → World → Prop} (hno : ∀ a w, ¬ QS .outgrown a cs w) :
    ∀ (l : List Oper) (k : Nat) (a : Act) (w : World), (∀ j, j < l.length → l[j]? = ops[k + j]?) → wpList P ops (fun e a w => QS e a cs w) l a w → wpOpsS P ops QS (List.range' k l.length) a cs w
  | [], k, a, w, _, hh => hh
  | o :: r, k, a, w, hl, hh => by
    have h0 := hl 0 (by simp)
    simp only [List.getElem?_cons_zero, Nat.add_zero] at h0
    have hr : ∀ j, j < r.length → r[j]? = ops[k + 1 + j]? := fun j hj => by
      have := hl (j + 1) (by simp; omega)
      rw [List.getElem?_cons_succ] at this
      rw [this]
      congr 1
      omega
    simp only [List.length_cons, List.range'_succ]
    unfold wpOpsS
    simp only [← h0]
    unfold wpList at hh
    split
    · rename_i hw
      simp only [hw, if_true] at hh
      rcases hh with hh | ⟨_, a', w', h2⟩
      · unfold Oper.wp at hh
        generalize (execOp a.eval o).run P w = res at hh ⊢
        have key : ∀ res, o.upon P a (wpList P ops (fun e a w => QS e a cs w) r) (fun e a w => QS e a cs w) res → o.upon P a (fun a' w' => wpOpsS P ops QS (List.range' (k + 1) r.length) a' cs w') (fun e a' w' => QS e a' cs w') res := by
          intro res hh
          cases res with
          | ok nx w' =>
            cases nx <;> simp only [Oper.upon] at hh ⊢ <;>
              first
                | exact wpOpsS_of hno r (k + 1) _ _ hr hh
                | exact Calls.mono hh (fun e w'' he => by cases e <;> first | exact wpOpsS_of hno r (k + 1) _ _ hr he | exact he)
                | exact Rows.mono hh (fun _ _ he => wpOpsS_of hno r (k + 1) _ _ hr he)
          | halt y w' => cases y <;> simp only [Oper.upon] at hh ⊢ <;> exact hh
        cases res with
        | ok nx w' =>
          cases nx <;> first | (simp only [Oper.upon] at hh; done) | exact key _ hh | exact hh.elim
        | halt y w' => exact key _ hh
      · exact absurd h2 (hno _ _)
    · rename_i hw
      rw [if_neg hw] at hh
      exact wpOpsS_of hno r (k + 1) _ _ hr hh
/-- what recover hands back, and how the frame goes on -/
inductive Rec : FrameMode → Value → FrameMode → Prop
  | ret : Rec .returning .nilIface .returning
  | pan (v : Value) (older : List PanicEntry) : Rec (.panicking ({ v, recovered := false, goexit := false } :: older)) v (.panicking ({ v, recovered := true } :: older))
theorem CD_of {f : FuncId} {fn : Func} {id t : Nat} {l : List Oper} {rest : Code} {args : List Value} {u u' : FrameMode} {vr : Value} {post : Value → List Ent → Prop} {ty : TypeId} {pos : String} {aft : Array Edge} {ats : Array TypeId}
    (hf : P.funcs[f]? = some fn) (hb : fn.body = some (.seq (.region id (⟨some t, .call ⟨.builtin .recover, #[], ats⟩, ty, pos, aft, none⟩ :: l).toArray false) rest)) (hrs : fn.results = ([] : List ResultVar).toArray) (hn : Nat.blt t fn.ntmps = true) (hl : Nat.ble args.length fn.ntmps = true)
    (hm : Rec u vr u') (ht : VS P fn.ntmps (⟨some t, .call ⟨.builtin .recover, #[], ats⟩, ty, pos, aft, none⟩ :: l) l ((t, vr) :: env0 args 0) m L (thenQ P fn.ntmps rest (retC P [] (postS m post)))) (hs : HS m L h) :
    CallsD P f args.toArray u (W x h d) fun e u2 w' => e = .returned (.tuple #[]) ∧ u2 = u' ∧ ∃ h' d' L', w' = W x h' d' ∧ post (.tuple #[]) L' ∧ HS m L' h' := by
  refine callsD_of_wpS hf hb fun c0 cs hu => ?_
  refine wpS_seq (wpS_region ?_)
  have hrg : ∀ (o : Oper), List.range (o :: l).toArray.size = 0 :: List.range' 1 l.length := fun o => by
    rw [List.range_eq_range']
    simp [List.range'_succ]
  rw [hrg]
  unfold wpOpsS
  simp only [List.getElem?_toArray, List.getElem?_cons_zero]
  rw [if_pos (by simp [Region.wanted])]
  have hrec : ∀ (ρ : Operand → Value) (w : World), (execOp ρ (⟨some t, .call ⟨.builtin .recover, #[], ats⟩, ty, pos, aft, none⟩ : Oper)).run P w = .ok .recover w := fun ρ w => by
    simp [execOp, resolve, invoke, builtin]
  simp only [hrec]
  have hcase : (recoverD (c0 :: cs) = some (vr, { c0 with mode := u' } :: cs)) ∨ (recoverD (c0 :: cs) = none ∧ vr = .nilIface ∧ { c0 with mode := u' } = c0) := by
    cases hm with
    | ret => exact .inr ⟨by simp [recoverD, hu], rfl, by cases c0; simp at hu; subst hu; rfl⟩
    | pan v older => exact .inl (by simp [recoverD, hu])
  have hfin : ∀ cs', cs' = { c0 with mode := u' } :: cs → wpOpsS P (⟨some t, .call ⟨.builtin .recover, #[], ats⟩, ty, pos, aft, none⟩ :: l : List Oper).toArray
      (Exit.thenS (rest.wpS P (bodyPostS P fn c0 cs fun e u2 w' => e = .returned (.tuple #[]) ∧ u2 = u' ∧ ∃ h' d' L', w' = W x h' d' ∧ post (.tuple #[]) L' ∧ HS m L' h')) (bodyPostS P fn c0 cs fun e u2 w' => e = .returned (.tuple #[]) ∧ u2 = u' ∧ ∃ h' d' L', w' = W x h' d' ∧ post (.tuple #[]) L' ∧ HS m L' h'))
      (List.range' 1 l.length) (({ tmps := args.toArray ++ Array.replicate (fn.ntmps - args.toArray.size) undef, defers := [] } : Act).put (some t) vr) cs' (W x h d) := by
    rintro cs' rfl
    refine wpOpsS_of (fun a w hq => ?_) l 1 _ _ (fun j hj => by rw [List.getElem?_toArray, Nat.add_comm 1 j, List.getElem?_cons_succ]) ?_
    · obtain ⟨_, hq, _⟩ := hq
      cases hq
    · have hag0 := (agD0 (n := fn.ntmps) (l := args) (t := x.tape) (o := x.os) (u := x.out) (Nat.le_of_ble_eq_true hl)).put t vr (by simpa [Nat.blt_eq] using hn)
      have h3 := ht h hs _ d _ hag0
      have h4 := wpList_cut (l2 := []) (Q := fun e a w => Exit.thenS (rest.wpS P (bodyPostS P fn c0 cs fun e u2 w' => e = .returned (.tuple #[]) ∧ u2 = u' ∧ ∃ h' d' L', w' = W x h' d' ∧ post (.tuple #[]) L' ∧ HS m L' h')) (bodyPostS P fn c0 cs fun e u2 w' => e = .returned (.tuple #[]) ∧ u2 = u' ∧ ∃ h' d' L', w' = W x h' d' ∧ post (.tuple #[]) L' ∧ HS m L' h') e a ({ c0 with mode := u' } :: cs) w) ?_ ?_ h3
      · rw [List.append_nil] at h4
        exact h4
      · rintro a w ⟨env', h', d', hag', rfl, hq⟩
        show rest.wpS P _ a ({ c0 with mode := u' } :: cs) _
        refine wpS_of_wp (wp_mono (hq ⟨x.tape, x.os, x.out, []⟩ d' a hag') ?_)
        rintro e a' w' ⟨env2, h2, d2, hag2, rfl, hq2⟩
        have fin : ∀ (hq2 : ∃ vs, RvsOk P env2 h2 [] vs ∧ postS m post (tup vs) h2), a'.defers = [] ∧ ∃ u2, ({ c0 with mode := u' } : Frame) :: cs = { c0 with mode := u2 } :: cs ∧ ∃ v, (results fn a'.tmps).run P (W ⟨x.tape, x.os, x.out, []⟩ h2 d2) = .ok v (W ⟨x.tape, x.os, x.out, []⟩ h2 d2) ∧ (Ending.returned v = .returned (.tuple #[]) ∧ u2 = u' ∧ ∃ h' d' L', (W ⟨x.tape, x.os, x.out, []⟩ h2 d2) = W x h' d' ∧ post (.tuple #[]) L' ∧ HS m L' h') := by
          rintro ⟨vs, h1, L', hp, hh⟩
          cases vs with
          | cons v r => cases h1
          | nil => exact ⟨hag2.defers, u', rfl, .tuple #[], RvsOk.results (vs := []) hrs hag2.toAg h1, rfl, rfl, h2, d2, L', rfl, hp, hh⟩
        cases e with
        | normal => exact fin hq2
        | ret => exact fin hq2
        | exit i => exact hq2.elim
        | goto i => exact hq2.elim
        | panic c => exact hq2.elim
        | outgrown => exact hq2.elim
      · rintro e hne a w ⟨env', h', d', hag', rfl, hq⟩
        have fin : ∀ (hq2 : ∃ vs, RvsOk P env' h' [] vs ∧ postS m post (tup vs) h'), a.defers = [] ∧ ∃ u2, ({ c0 with mode := u' } : Frame) :: cs = { c0 with mode := u2 } :: cs ∧ ∃ v, (results fn a.tmps).run P (W ⟨x.tape, x.os, x.out, []⟩ h' d') = .ok v (W ⟨x.tape, x.os, x.out, []⟩ h' d') ∧ (Ending.returned v = .returned (.tuple #[]) ∧ u2 = u' ∧ ∃ h2 d2 L', (W ⟨x.tape, x.os, x.out, []⟩ h' d') = W x h2 d2 ∧ post (.tuple #[]) L' ∧ HS m L' h2) := by
          rintro ⟨vs, h1, L', hp, hh⟩
          cases vs with
          | cons v r => cases h1
          | nil => exact ⟨hag'.defers, u', rfl, .tuple #[], RvsOk.results (vs := []) hrs hag'.toAg h1, rfl, rfl, h', d', L', rfl, hp, hh⟩
        cases e with
        | normal => exact absurd rfl hne
        | ret => exact fin hq
        | exit i => exact hq.elim
        | goto i => exact hq.elim
        | panic c => exact hq.elim
        | outgrown => exact hq.elim
  rcases hcase with hrc | ⟨hrc, hv, hc0⟩
  · simp only [hrc]
    exact hfin _ rfl
  · simp only [hrc]
    have := hfin (c0 :: cs) (by rw [hc0])
    rw [hv] at this
    exact this
/-- behind the body: one deferred call, then the results -/
theorem leaves_one {fn : Func} {rs : List ResultVar} {f : FuncId} {q : List Value} {u u' : FrameMode} {R : Ending → World → Prop} {post : Value → List Ent → Prop} (hrs : fn.results = rs.toArray) (hcl : callable P f = true) (hu : u ≠ .run) (hs' : settle u' = .returning)
    (hc : CallsD P f q.toArray u (W x h d) fun e u2 w' => e = .returned (.tuple #[]) ∧ u2 = u' ∧ ∃ h' d' L', w' = W x h' d' ∧ post (.tuple #[]) L' ∧ HS m L' h')
    (hag : Ag n env a) (hk : ∀ h' d' L', post (.tuple #[]) L' → HS m L' h' → ∃ vs, RvsOk P env h' rs vs ∧ R (.returned (tup vs)) (W x h' d')) :
    Leaves P fn a.tmps R [dfr (.func f) q] u (W x h d) := by
  refine leaves_cons (f := f) (args := q.toArray) hu ?_ (hc.mono ?_)
  · have := callable_spec (P := P) hcl q.toArray (W x h d)
    simp only [invoke]
    simpa using this
  · rintro e u2 w' ⟨rfl, rfl, h', d', L', rfl, hp, hh⟩
    show Leaves P fn a.tmps R [] (settle u2) (W x h' d')
    rw [hs']
    obtain ⟨vs, h1, h2⟩ := hk h' d' L' hp hh
    exact ⟨tup vs, RvsOk.results hrs hag h1, h2⟩
end
/-! ### a piece of code that returns, or panics -/
def endQ (m : Mp) (post : Env → List Ent → Prop) (ppost : Env → Value → List Ent → Prop) : Post
  | .normal, env, h => ∃ L', post env L' ∧ HS m L' h
  | .ret, env, h => ∃ L', post env L' ∧ HS m L' h
  | .panic c, env, h => ∃ v L', c = pan v ∧ ppost env v L' ∧ HS m L' h
  | _, _, _ => False
theorem QS_end {m m2 : Mp} {env : Env} {L : List Ent} {post : Env → List Ent → Prop} {ppost : Env → Value → List Ent → Prop} (hl : Le m m2) (L' : List Ent) (hp : Pick L L') (hq : post env L') : QS (endQ m post ppost) .ret env m2 L := fun h hs => ⟨L', hq, (hp m2 h hs).weaken hl⟩
theorem QS_endN {m m2 : Mp} {env : Env} {L : List Ent} {post : Env → List Ent → Prop} {ppost : Env → Value → List Ent → Prop} (hl : Le m m2) (L' : List Ent) (hp : Pick L L') (hq : post env L') : QS (endQ m post ppost) .normal env m2 L := fun h hs => ⟨L', hq, (hp m2 h hs).weaken hl⟩
theorem QS_endP {m m2 : Mp} {env : Env} {L : List Ent} {post : Env → List Ent → Prop} {ppost : Env → Value → List Ent → Prop} {v : Value} (hl : Le m m2) (L' : List Ent) (hp : Pick L L') (hq : ppost env v L') : QS (endQ m post ppost) (.panic (pan v)) env m2 L := fun h hs => ⟨v, L', rfl, hq, (hp m2 h hs).weaken hl⟩
theorem Pick.app {L L' M : List Ent} (h : Pick L M) : Pick (L' ++ L) M := by
  induction L' with
  | nil => exact h
  | cons e r ih => exact fun m hp hs => ih m hp hs.tail
end Go.Eng

namespace Go.Eng
/-- a quiet operation: its value is the same in every world that keeps the base -/
def YB (P : Program) (ops : Array Oper) (m : Mp) (o : Oper) (v : Value) (a : Act) : Prop :=
  (Region.wanted o (yielded ops a.tmps) = true ∧ ∀ w', Le m (mp w'.heap) → (execOp a.eval o).run P w' = .ok (.value v) w') ∨
  (Region.wanted o (yielded ops a.tmps) = false ∧ v = undef)
def opB (P : Program) (ops : Array Oper) (m : Mp) (Q : Exit → Act → World → Prop) (i : Nat) (K : Act → World → Prop) (a : Act) (w : World) : Prop :=
  match ops[i]? with
  | none => K a w
  | some o => if Region.wanted o (yielded ops a.tmps) then o.wp P a w (fun a' w' => Le m (mp w'.heap) ∧ K a' w') Q else K (a.put o.dst undef) w
def anyB (P : Program) (ops : Array Oper) (m : Mp) (Q : Exit → Act → World → Prop) : Nat → Array Bool → Act → World → Prop
  | 0, listed, a, w => Region.ready .any ops listed = [] ∧ Q .normal a w
  | fuel + 1, listed, a, w =>
    (Region.ready .any ops listed = [] → Q .normal a w) ∧
    ∀ i ∈ Region.ready .any ops listed, opB P ops m Q i (anyB P ops m Q fuel (listed.setIfInBounds i true)) a w
section
variable {P : Program} {ops : Array Oper} {m : Mp} {Q : Exit → Act → World → Prop}
theorem opB_mono {i : Nat} {a : Act} {w : World} {K K' : Act → World → Prop} (h : ∀ a w, Le m (mp w.heap) → K a w → K' a w) (hle : Le m (mp w.heap)) (hh : opB P ops m Q i K a w) : opB P ops m Q i K' a w := by
  unfold opB at *
  split
  · rename_i ho; simp only [ho] at hh; exact h _ _ hle hh
  · rename_i o ho
    simp only [ho] at hh
    split
    · rename_i hw; simp only [hw, if_true] at hh; exact Oper.wp_mono (fun _ _ k => ⟨k.1, h _ _ k.1 k.2⟩) hh
    · rename_i hw; simp only [hw] at hh; exact h _ _ hle hh
theorem wpOp_of_opB {i : Nat} {a : Act} {w : World} {K K' : Act → World → Prop} (h : ∀ a w, K a w → K' a w) (hh : opB P ops m Q i K a w) : wpOp P ops Q i K' a w := by
  unfold opB at hh
  unfold wpOp
  split
  · rename_i ho; simp only [ho] at hh; exact h _ _ hh
  · rename_i o ho
    simp only [ho] at hh
    split
    · rename_i hw; simp only [hw, if_true] at hh; exact .inl (Oper.wp_mono (fun _ _ k => h _ _ k.2) hh)
    · rename_i hw; simp only [hw] at hh; exact h _ _ hh
theorem wpAny_of_anyB : ∀ (fuel : Nat) (listed : Array Bool) (a : Act) (w : World), anyB P ops m Q fuel listed a w → wpAny P .any ops Q fuel listed a w
  | 0, _, _, _, h => h
  | fuel + 1, _, _, _, h => ⟨h.1, fun i hi => wpOp_of_opB (fun a w => wpAny_of_anyB fuel _ a w) (h.2 i hi)⟩
theorem YB.opB {i : Nat} {o : Oper} {v : Value} {a : Act} {w : World} (hi : ops[i]? = some o) (hy : YB P ops m o v a) (hle : Le m (mp w.heap)) {K : Act → World → Prop} (h : K (a.put o.dst v) w) : opB P ops m Q i K a w := by
  unfold Eng.opB
  simp only [hi]
  rcases hy with ⟨hw, hv⟩ | ⟨hw, rfl⟩
  · simp only [hw, if_true, Oper.wp, hv w hle, Oper.upon]; exact ⟨hle, h⟩
  · simp only [hw, Bool.false_eq_true, if_false]; exact h
theorem YB.of_same {o : Oper} {v : Value} {a a' : Act} (hy : YB P ops m o v a) (he : execOp a'.eval o = execOp a.eval o) (hw : Region.wanted o (yielded ops a'.tmps) = Region.wanted o (yielded ops a.tmps)) : YB P ops m o v a' := by
  unfold YB at *
  rw [he, hw]
  exact hy
theorem opB_put {j : Nat} {oi oj : Oper} {v : Value} (hj : ops[j]? = some oj) (hap : oi.apart ops oj = true) (hsi : ∀ cs b, oi.op ≠ .select cs b) (hsj : ∀ cs b, oj.op ≠ .select cs b)
    (hQ : ∀ c a w, Q (.panic c) (a.put oi.dst v) w → Q (.panic c) a w) {K : Act → World → Prop} {a : Act} {w : World}
    (hy : YB P ops m oi v a) (h : opB P ops m Q j K (a.put oi.dst v) w) : opB P ops m Q j (fun a' w' => YB P ops m oi v a' ∧ K (a'.put oi.dst v) w') a w := by
  obtain ⟨h1, h2, h3⟩ := Oper.apart_spec hap
  have keep : ∀ (a : Act), YB P ops m oi v a → ∀ u, YB P ops m oi v (a.put oj.dst u) := fun a hy u => hy.of_same (execOp_put oi hsi a oj.dst u h3) (wanted_put oi a oj.dst u h3)
  have keepD : ∀ d, YB P ops m oi v { a with defers := d :: a.defers } := fun d => hy.of_same rfl rfl
  unfold opB at *
  simp only [hj] at *
  rw [wanted_put oj a oi.dst v h1] at h
  split
  · rename_i hw
    simp only [hw, if_true] at h
    unfold Oper.wp at *
    rw [execOp_put oj hsj a oi.dst v h1] at h
    generalize (execOp a.eval oj).run P w = r at *
    cases r with
    | ok n w' =>
      cases n <;> simp only [Oper.upon] at h ⊢
      case value u => exact ⟨h.1, keep a hy u, by rw [← Act.put_comm a v u h2]; exact h.2⟩
      case skip => exact ⟨h.1, keep a hy _, by rw [← Act.put_comm a v undef h2]; exact h.2⟩
      case defer d =>
        refine ⟨h.1, keep _ (keepD d) _, ?_⟩
        have := h.2
        rw [← Act.put_comm _ v undef h2, ← Act.put_defers]
        exact this
      case enter f args =>
        refine Calls.mono h fun e w'' he => ?_
        cases e with
        | returned u => exact ⟨he.1, keep a hy u, by rw [← Act.put_comm a v u h2]; exact he.2⟩
        | panicked c => exact hQ _ _ _ he
        | outgrown => exact he
      case row row args => exact Rows.mono h fun u w'' he => ⟨he.1, keep a hy u, by rw [← Act.put_comm a v u h2]; exact he.2⟩
    | halt x w' =>
      cases x <;> simp only [Oper.upon] at h ⊢
      case panic u => exact hQ _ _ _ h
  · rename_i hw
    simp only [hw] at h
    exact ⟨keep a hy _, by rw [← Act.put_comm a v undef h2]; exact h⟩
theorem anyB_first {l : List Oper} {i : Nat} {oi : Oper} {v : Value} (hops : ops = l.toArray) (hi : ops[i]? = some oi) (hsel : ∀ (j : Nat) (o : Oper) cs b, ops[j]? = some o → o.op ≠ .select cs b)
    (hQ : ∀ c a w, Q (.panic c) (a.put oi.dst v) w → Q (.panic c) a w) :
    ∀ (fuel : Nat) (listed : Array Bool) (a : Act) (w : World), Le m (mp w.heap) →
      (∀ j oj, ops[j]? = some oj → j ≠ i → listed.getD j true = false → j ∉ reach l i → oi.apart ops oj = true) →
      (∀ k, listed.getD k false = true → k ∉ reach l i) →
      i ∈ Region.ready .any ops listed → YB P ops m oi v a →
      anyB P ops m Q fuel (listed.setIfInBounds i true) (a.put oi.dst v) w → anyB P ops m Q (fuel + 1) listed a w := by
  intro fuel
  induction fuel with
  | zero =>
    intro listed a w hle _ _ hr hy H
    refine ⟨fun h => (by rw [h] at hr; cases hr), fun j hj => ?_⟩
    by_cases hji : j = i
    · subst hji; exact hy.opB hi hle H
    · have := ready_mono hj hji
      rw [H.1] at this
      cases this
  | succ fuel ih =>
    intro listed a w hle hfree hinv hr hy H
    refine ⟨fun h => (by rw [h] at hr; cases hr), fun j hj => ?_⟩
    by_cases hji : j = i
    · subst hji; exact hy.opB hi hle H
    · have h1 := H.2 j (ready_mono hj hji)
      obtain ⟨hjun, oj, hoj, hall⟩ := mem_ready.1 hj
      have hnot : j ∉ reach l i := fun hmem => by
        obtain ⟨o, ho, e, he, hb, h3⟩ := reach_spec hmem
        rw [← hops, hoj] at ho
        injection ho with ho
        subst ho
        have h1 := hall e he hb
        rcases h3 with heq | h3
        · have h0 := (mem_ready.1 hr).1
          rw [heq] at h1
          rcases Nat.lt_or_ge i listed.size with h' | h'
          · simp [h'] at h0 h1; rw [h0] at h1; cases h1
          · simp [Array.getElem?_eq_none h'] at h1
        · exact hinv _ h1 h3
      have hf1 := hfree j oj hoj hji hjun hnot
      have h2 := opB_put hoj hf1 (fun cs b => hsel i oi cs b hi) (fun cs b => hsel j oj cs b hoj) hQ hy h1
      have hfree' : ∀ k ok, ops[k]? = some ok → k ≠ i → (listed.setIfInBounds j true).getD k true = false → k ∉ reach l i → oi.apart ops ok = true := fun k ok hk hki hun hno => by
        refine hfree k ok hk hki ?_ hno
        by_cases hjk : j = k
        · subst hjk; exact hjun
        · rw [getD_set_ne true hjk] at hun; exact hun
      have hinv' : ∀ k, (listed.setIfInBounds j true).getD k false = true → k ∉ reach l i := fun k hk => by
        by_cases hjk : j = k
        · subst hjk; exact hnot
        · rw [getD_set_ne false hjk] at hk; exact hinv k hk
      refine opB_mono (fun a' w' hle' h3 => ih (listed.setIfInBounds j true) a' w' hle' hfree' hinv' (ready_mono hr (Ne.symm hji)) h3.1 ?_) hle h2
      rw [Array.setIfInBounds_comm _ _ hji]
      exact h3.2
end
inductive OB where
  | done
  | step (i : Nat) (q : Bool) (t : OB)
  | fork (s t : OB)
def headsB : OB → List Nat
  | .done => []
  | .step i _ _ => [i]
  | .fork s t => headsB s ++ headsB t
def freeB (l : List Oper) (listed : Array Bool) (i : Nat) (oi : Oper) : Bool :=
  (fun rs => (List.range l.length).all fun j => j == i || rs.contains j || listed.getD j true || match nth l j with
    | none => true
    | some oj => oi.apart l.toArray oj) (reach l i) &&
  (reach l i).all fun k => !listed.getD k false
def chkB (l : List Oper) : OB → Bool → Nat → Array Bool → Bool
  | .done, b, n, listed => !b && Nat.beq n 0 && (Region.ready .any l.toArray listed).isEmpty
  | .step i q t, b, n, listed => match n with
    | 0 => false
    | k + 1 =>
      (match nth l i with
       | none => false
       | some o => if q then !b && (Region.ready .any l.toArray listed).contains i && freeB l listed i o else b || Region.ready .any l.toArray listed == [i]) &&
      chkB l t false k (listed.setIfInBounds i true)
  | .fork s t, b, n, listed => (b || (!(Region.ready .any l.toArray listed).isEmpty && (Region.ready .any l.toArray listed).all (headsB s ++ headsB t).contains)) && chkB l s true n listed && chkB l t true n listed
def seqB (P : Program) (l : List Oper) (m : Mp) (Q : Exit → Act → World → Prop) : OB → Act → World → Prop
  | .done, a, w => Q .normal a w
  | .step i q t, a, w =>
    if q then ∃ o v, nth l i = some o ∧ YB P l.toArray m o v a ∧ seqB P l m Q t (a.put o.dst v) w
    else opB P l.toArray m Q i (seqB P l m Q t) a w
  | .fork s t, a, w => seqB P l m Q s a w ∧ seqB P l m Q t a w
theorem anyB_of_seqB {P : Program} {l : List Oper} {m : Mp} {Q : Exit → Act → World → Prop} (hsel : noSel l = true)
    (hQ : ∀ c a a' w, a'.tmps.size = a.tmps.size → a'.defers = a.defers → Q (.panic c) a' w → Q (.panic c) a w) :
    ∀ (t : OB) (n : Nat) (listed : Array Bool) (a : Act) (w : World), Le m (mp w.heap) → seqB P l m Q t a w →
      (chkB l t false n listed = true → anyB P l.toArray m Q n listed a w) ∧
      (chkB l t true n listed = true → headsB t ≠ [] ∧ 0 < n ∧ ∀ i ∈ headsB t, opB P l.toArray m Q i (anyB P l.toArray m Q (n - 1) (listed.setIfInBounds i true)) a w) := by
  intro t
  induction t with
  | done =>
    intro n listed a w _ hs
    refine ⟨fun hc => ?_, fun hc => by simp [chkB] at hc⟩
    simp only [chkB, Bool.not_false, Bool.true_and, Bool.and_eq_true, List.isEmpty_iff] at hc
    have hn := Nat.eq_of_beq_eq_true hc.1
    subst hn
    exact ⟨hc.2, hs⟩
  | step i q t ih =>
    intro n listed a w hle hs
    cases n with
    | zero => exact ⟨fun hc => by simp [chkB] at hc, fun hc => by simp [chkB] at hc⟩
    | succ k =>
      unfold seqB at hs
      cases hk : q with
      | true =>
        rw [if_pos hk] at hs
        obtain ⟨o, v, ho, hy, hs⟩ := hs
        refine ⟨fun hc => ?_, fun hc => ?_⟩
        · unfold chkB at hc
          rw [Bool.and_eq_true] at hc
          obtain ⟨hc, hc'⟩ := hc
          rw [ho] at hc
          simp only [if_true, Bool.not_false, Bool.true_and, Bool.and_eq_true] at hc
          obtain ⟨hr, hf⟩ := hc
          have hi : l.toArray[i]? = some o := by rw [nth_eq]; exact ho
          unfold freeB at hf
          rw [Bool.and_eq_true] at hf
          obtain ⟨hf, hf2⟩ := hf
          refine anyB_first rfl hi (noSel_spec hsel) (fun c a w h => hQ c a _ w ?_ ?_ h) k listed a w hle ?_ ?_ (by simpa using hr) hy ((ih k _ _ _ hle hs).1 hc')
          · cases o.dst <;> simp [Act.put]
          · cases o.dst <;> simp [Act.put]
          · intro j oj hj hji hun hno
            rw [List.all_eq_true] at hf
            have hlt : j < l.length := by
              have := (Array.getElem?_eq_some_iff.1 hj).1
              simpa using this
            have := hf j (List.mem_range.2 hlt)
            rw [nth_eq] at hj
            rw [hj] at this
            have hno' : (reach l i).contains j = false := by
              cases hcn : (reach l i).contains j with
              | false => rfl
              | true => exact absurd (List.contains_iff_mem.1 hcn) hno
            simpa only [hun, hno', beq_eq_false_iff_ne.2 hji, Bool.false_or] using this
          · intro k hk hmem
            rw [List.all_eq_true] at hf2
            have := hf2 k hmem
            rw [hk] at this
            cases this
        · unfold chkB at hc
          rw [Bool.and_eq_true] at hc
          rw [ho] at hc
          simp at hc
      | false =>
        rw [if_neg (by rw [hk]; simp)] at hs
        have hb : ∀ b, chkB l (.step i false t) b (k + 1) listed = true → opB P l.toArray m Q i (anyB P l.toArray m Q k (listed.setIfInBounds i true)) a w := fun b hc => by
          unfold chkB at hc
          rw [Bool.and_eq_true] at hc
          exact opB_mono (fun a w hle' hs => (ih k _ a w hle' hs).1 hc.2) hle hs
        refine ⟨fun hc => ?_, fun hc => ⟨by simp [headsB], Nat.succ_pos _, fun j hj => ?_⟩⟩
        · have hrd : Region.ready .any l.toArray listed = [i] := by
            unfold chkB at hc
            rw [Bool.and_eq_true] at hc
            have hc1 := hc.1
            split at hc1
            · cases hc1
            · simp only [Bool.false_eq_true, if_false, Bool.false_or] at hc1
              simpa using hc1
          refine ⟨(fun h => by rw [hrd] at h; cases h), fun j hj => ?_⟩
          rw [hrd] at hj
          have : j = i := by simpa using hj
          subst this
          exact hb _ hc
        · have : j = i := by simpa [headsB] using hj
          subst this
          exact hb _ hc
  | fork s t ih1 ih2 =>
    intro n listed a w hle hs
    unfold seqB at hs
    have key : ∀ b, chkB l (.fork s t) b n listed = true → headsB (.fork s t) ≠ [] ∧ 0 < n ∧ ∀ i ∈ headsB (.fork s t), opB P l.toArray m Q i (anyB P l.toArray m Q (n - 1) (listed.setIfInBounds i true)) a w := fun b hc => by
      unfold chkB at hc
      simp only [Bool.and_eq_true] at hc
      obtain ⟨h1, h0, h2⟩ := (ih1 n listed a w hle hs.1).2 hc.1.2
      obtain ⟨_, _, h3⟩ := (ih2 n listed a w hle hs.2).2 hc.2
      refine ⟨by simp [headsB, h1], h0, fun i hi => ?_⟩
      simp only [headsB, List.mem_append] at hi
      rcases hi with hi | hi
      · exact h2 i hi
      · exact h3 i hi
    refine ⟨fun hc => ?_, key true⟩
    obtain ⟨k1, k2, k3⟩ := key false hc
    unfold chkB at hc
    simp only [Bool.and_eq_true, Bool.false_or] at hc
    have hall := hc.1.1.2
    have hne := hc.1.1.1
    rw [List.all_eq_true] at hall
    obtain ⟨k, rfl⟩ : ∃ k, n = k + 1 := ⟨n - 1, by omega⟩
    refine ⟨fun hnil => (by rw [hnil] at hne; cases hne), fun i hi => ?_⟩
    have := hall i hi
    exact k3 i (by simpa [headsB] using this)
def checkB (l : List Oper) (t : OB) : Bool := noSel l && chkB l t false l.length (Array.replicate l.length false)
/-- the walk, said of environments and entries -/
def VBS (P : Program) (n : Nat) (l : List Oper) (t : OB) (env : Env) (m : Mp) (L : List Ent) (Q : Post) : Prop :=
  ∀ h, HS m L h → ∀ (x : Fx) (d : Nat) (a : Act), AgD n x env a → seqB P l m (lift n x Q) t a (W x h d)
section
variable {P : Program} {n : Nat} {env : Env} {m : Mp} {L : List Ent} {Q : Post} {l : List Oper} {s t : OB} {o : Oper} {v : Value} {d i : Nat}
theorem TS_drawB {id : Nat} (t : OB) (hm : P.follows .mixedOrders = true) (hck : checkB l t = true) (hQ : ∀ c env env' h, Q (.panic c) env h → Q (.panic c) env' h) (hv : VBS P n l t env m L Q) : TS P n (.region id l.toArray true) env m L Q := by
  intro h hs x d a hag
  unfold checkB at hck
  simp only [Bool.and_eq_true] at hck
  obtain ⟨h1, h3⟩ := hck
  have hs' := hv h hs x (d + 1) a hag
  have := (anyB_of_seqB h1 (Q := lift n x Q) (by
    rintro c a a' w hsz hdf ⟨env, h, d, hag, rfl, hq⟩
    refine ⟨[], h, d, ⟨⟨by rw [← hsz]; exact hag.size, fun t v ht => by simp [lk] at ht⟩, by rw [← hdf]; exact hag.defers⟩, rfl, hQ _ _ _ _ hq⟩) t l.length _ a _ hs.base hs').1 h3
  refine wp_region_any hm (wpAny_of_anyB (m := m) _ _ _ _ ?_)
  rw [List.size_toArray]
  exact this
theorem VBS_nil (hq : QS Q .normal env m L) : VBS P n l .done env m L Q := fun h hs _ d _ hag => ⟨env, h, d, hag, rfl, hq h hs⟩
theorem VBS_fork (h1 : VBS P n l s env m L Q) (h2 : VBS P n l t env m L Q) : VBS P n l (.fork s t) env m L Q := fun h hs x d a hag => ⟨h1 h hs x d a hag, h2 h hs x d a hag⟩
theorem VBS_pure (ho : nth l i = some o) (hr : PureV P n o env v) (hd : o.dst = some d) (hn : Nat.blt d n = true) (hw : wanted l env o = some true) (hk : VBS P n l t ((d, v) :: env) m L Q) : VBS P n l (.step i true t) env m L Q := by
  intro h hs x dr a hag
  unfold seqB
  rw [if_pos rfl]
  refine ⟨o, v, ho, .inl ⟨wanted_ok hag.toAg hw, fun w' _ => hr a w' hag⟩, ?_⟩
  rw [hd]
  exact hk h hs x dr _ (hag.put d v (by simpa [Nat.blt_eq] using hn))
/-- what is read lies in the base -/
theorem VBS_read (ho : nth l i = some o) (hr : ∀ h, HS m [] h → ReadV P n o env h v) (hd : o.dst = some d) (hn : Nat.blt d n = true) (hw : wanted l env o = some true) (hk : VBS P n l t ((d, v) :: env) m L Q) : VBS P n l (.step i true t) env m L Q := by
  intro h hs x dr a hag
  unfold seqB
  rw [if_pos rfl]
  refine ⟨o, v, ho, .inl ⟨wanted_ok hag.toAg hw, fun w' hl => hr w'.heap (HS.nil hl) a w' hag (Le.refl _)⟩, ?_⟩
  rw [hd]
  exact hk h hs x dr _ (hag.put d v (by simpa [Nat.blt_eq] using hn))
theorem VBS_skip (ho : nth l i = some o) (hw : wanted l env o = some false) (hd : o.dst = some d) (hn : Nat.blt d n = true) (hk : VBS P n l t ((d, undef) :: env) m L Q) : VBS P n l (.step i true t) env m L Q := by
  intro h hs x dr a hag
  unfold seqB
  rw [if_pos rfl]
  refine ⟨o, undef, ho, .inr ⟨wanted_ok hag.toAg hw, rfl⟩, ?_⟩
  rw [hd]
  exact hk h hs x dr _ (hag.put d undef (by simpa [Nat.blt_eq] using hn))
theorem VBS_skipE (ho : nth l i = some o) (hw : wanted l env o = some false) (hd : o.dst = some d) (hn : Nat.blt d n = true) (hk : VBS P n l t ((d, undef) :: env) m L Q) : VBS P n l (.step i false t) env m L Q := by
  intro h hs x dr a hag
  unfold seqB
  rw [if_neg (by simp)]
  unfold opB
  rw [nth_eq, ho]
  simp only
  rw [if_neg (by rw [wanted_ok hag.toAg hw]; simp), hd]
  exact hk h hs x dr _ (hag.put d undef (by simpa [Nat.blt_eq] using hn))
theorem VBS_step {kept : Bool} (ho : nth l i = some o) (hst : StepS P n Q o env m L kept fun env' L' => VBS P n l t env' m L' Q) (hw : wanted l env o = some true) : VBS P n l (.step i false t) env m L Q := by
  intro h hs x dr a hag
  unfold seqB
  rw [if_neg (by simp)]
  unfold opB
  rw [nth_eq, ho]
  simp only
  rw [if_pos (wanted_ok hag.toAg hw)]
  refine Oper.wp_mono ?_ (hst h hs x dr a hag)
  rintro a' w' ⟨env', h', d', hag', rfl, _, L', hh, hv⟩
  exact ⟨hh.base, hv h' hh x d' a' hag'⟩
theorem VBS_readE (ho : nth l i = some o) (hr : ∀ h, HS m L h → ReadV P n o env h v) (hd : o.dst = some d) (hn : Nat.blt d n = true) (hw : wanted l env o = some true) (hk : VBS P n l t ((d, v) :: env) m L Q) : VBS P n l (.step i false t) env m L Q :=
  VBS_step ho (StepS_read hr hd hn hk) hw
theorem VBS_if {p : Prop} [Decidable p] (ho : nth l i = some o) (hr : PureV P n o env (.bool (decide p))) (hd : o.dst = some d) (hn : Nat.blt d n = true) (hw : wanted l env o = some true)
    (h1 : p → VBS P n l t ((d, .bool true) :: env) m L Q) (h2 : ¬ p → VBS P n l t ((d, .bool false) :: env) m L Q) : VBS P n l (.step i true t) env m L Q := by
  by_cases hp : p
  · rw [decide_eq_true hp] at hr; exact VBS_pure ho hr hd hn hw (h1 hp)
  · rw [decide_eq_false hp] at hr; exact VBS_pure ho hr hd hn hw (h2 hp)
end
theorem QS_retW {P : Program} {rs : List ResultVar} {env : Env} {m m2 : Mp} {L : List Ent} {post : Value → List Ent → Prop} (hl : Le m m2) (vs : List Value) (hv : RvsS P env L rs vs) (L' : List Ent) (hp : Pick L L') (hq : post (tup vs) L') : QS (retC P rs (postS m post)) .ret env m2 L :=
  fun h hs => ⟨vs, hv.ok hs, L', hq, (hp m2 h hs).weaken hl⟩
section
variable {P : Program} {n : Nat} {env : Env} {m : Mp} {L : List Ent} {Q : Post} {β : Type}
/-- loops whose state is a number, a slice of the call's own, and something more -/
def round4 (m : Mp) (S : Nat → Option Addr → Nat → β → Env) (LL : Nat → Option Addr → Nat → β → List Ent) (F : Nat → β → Prop) (μ : Nat → Nat) (k : Nat) (Q : Post) : Post := roundS m (fun y : Nat × Option Addr × Nat × β => S y.1 y.2.1 y.2.2.1 y.2.2.2) (fun y => LL y.1 y.2.1 y.2.2.1 y.2.2.2) (fun y => F y.1 y.2.2.2) (fun y => μ y.1) k Q
theorem QS_round4_exit {S : Nat → Option Addr → Nat → β → Env} {LL : Nat → Option Addr → Nat → β → List Ent} {F : Nat → β → Prop} {μ : Nat → Nat} {k i : Nat} (hq : QS Q (.exit i) env m L) {m0 : Mp} : QS (round4 m0 S LL F μ k Q) (.exit i) env m L := hq
theorem QS_round4_ret {S : Nat → Option Addr → Nat → β → Env} {LL : Nat → Option Addr → Nat → β → List Ent} {F : Nat → β → Prop} {μ : Nat → Nat} {k : Nat} (hq : QS Q .ret env m L) {m0 : Mp} : QS (round4 m0 S LL F μ k Q) .ret env m L := hq
theorem QS_round4_pan {S : Nat → Option Addr → Nat → β → Env} {LL : Nat → Option Addr → Nat → β → List Ent} {F : Nat → β → Prop} {μ : Nat → Nat} {k : Nat} {ch : List PanicEntry} {m0 : Mp} (hq : QS Q (.panic ch) env m L) : QS (round4 m0 S LL F μ k Q) (.panic ch) env m L := hq
theorem QS_round4 {S : Nat → Option Addr → Nat → β → Env} {LL : Nat → Option Addr → Nat → β → List Ent} {F : Nat → β → Prop} {μ : Nat → Nat} {k : Nat} {m0 : Mp} (hl : Le m0 m) (j : Nat) (A : Option Addr) (c : Nat) (b : β) (hs : Sub (S j A c b) env) (hp : Pick L (LL j A c b)) (hF : F j b) (hk : μ j < k) : QS (round4 m0 S LL F μ k Q) .normal env m L :=
  fun h hh => ⟨(j, A, c, b), hs, ⟨hF, (hp m h hh).weaken hl⟩, hk⟩
theorem TS_loop4 {c : Code} (S : Nat → Option Addr → Nat → β → Env) (LL : Nat → Option Addr → Nat → β → List Ent) (F : Nat → β → Prop) (μ : Nat → Nat) (j : Nat) (A : Option Addr) (cc : Nat) (b : β) (hs : Sub (S j A cc b) env) (hp : Pick L (LL j A cc b)) (hF : F j b)
    (hr : ∀ (j : Nat) (A : Option Addr) (cc : Nat) (b : β), F j b → TS P n c (S j A cc b) m (LL j A cc b) (round4 m S LL F μ (μ j) Q)) : TS P n (.loop c) env m L Q :=
  TS_loop (fun y : Nat × Option Addr × Nat × β => S y.1 y.2.1 y.2.2.1 y.2.2.2) (fun y => LL y.1 y.2.1 y.2.2.1 y.2.2.2) (fun y => F y.1 y.2.2.2) (fun y => μ y.1) (j, A, cc, b) hs hp hF fun y hF => hr y.1 y.2.1 y.2.2.1 y.2.2.2 hF
end
/-! ### interface values beside nil -/
theorem isIface_spec {P : Program} {t : TypeId} (ht : isIface P t = true) : ∃ ms, P.underlying t = some (.interface ms) := by
  unfold isIface at ht
  split at ht
  · exact ⟨_, by assumption⟩
  · cases ht
section
variable {P : Program} {n : Nat} {env : Env} {dst : Option Tmp} {ty : TypeId} {pos : String} {aft : Array Edge} {gd : Option (Nat × Bool)} {t yt u : TypeId} {x : Operand} {v : Value}
theorem P_ieqNo (ht : isIface P t = true) (hx : ev env x = some (.iface u v)) : PureV P n ⟨dst, .binOp .eql t x (.const .nilIface) yt, ty, pos, aft, gd⟩ env (.bool false) := by
  intro a w hag
  obtain ⟨ms, hu⟩ := isIface_spec ht
  have hy : a.eval (.const .nilIface) = .nilIface := rfl
  have h1 : (eqGuard .eql t x (.const .nilIface) (.iface u v) .nilIface).run P w = .ok () w := by
    unfold eqGuard
    simp
  have h2 : (Op.equal t (.iface u v) .nilIface).run P w = .ok false w := by
    show (Op.equalIn (9999 + 1) t _ _).run P w = _
    rw [Op.equalIn]
    simp [run_underlying hu]
  simp [execOp, hag.eval hx, hy, h1, binOp, h2]
theorem P_ieqYes (ht : isIface P t = true) (hx : ev env x = some .nilIface) : PureV P n ⟨dst, .binOp .eql t x (.const .nilIface) yt, ty, pos, aft, gd⟩ env (.bool true) := by
  intro a w hag
  obtain ⟨ms, hu⟩ := isIface_spec ht
  have hy : a.eval (.const .nilIface) = .nilIface := rfl
  have h1 : (eqGuard .eql t x (.const .nilIface) .nilIface .nilIface).run P w = .ok () w := by
    unfold eqGuard
    simp
  have h2 : (Op.equal t .nilIface .nilIface).run P w = .ok true w := by
    show (Op.equalIn (9999 + 1) t _ _).run P w = _
    rw [Op.equalIn]
    simp [run_underlying hu]
  simp [execOp, hag.eval hx, hy, h1, binOp, h2]
end
end Go.Eng

namespace Go.Eng
open Go.ChangeShapes Go.WideShapes Go.ChangeAt Go.RowKit
/-- what was read: no cell of it is frozen; each piece of it is within the reach -/
def GoodR {H : Type} (P : Program) (w : World) (t : TypeId) (x : DataW H × List MemPlace) : Prop := w.noneFrozen x.2 ∧ ∀ k ∈ DataW.weights P t x.1, k ≤ reachBytes
section
variable {H : Type} {enc : TypeId × Value → H} {P : Program} {w : World} {base : Nat} {spare : Nat → Bool} {held : Bool}
theorem mem_weightsAll {e : TypeId} : ∀ {l : List (DataW H)} {d : DataW H} {k : Nat}, d ∈ l → k ∈ DataW.weights P e d → k ∈ DataW.weightsAll P e l
  | [], _, _, h, _ => by cases h
  | a :: r, d, k, h, hk => by
    simp only [DataW.weightsAll, List.mem_append]
    rcases List.mem_cons.1 h with rfl | h
    · exact .inl hk
    · exact .inr (mem_weightsAll h hk)
theorem fld_inW {t i ft off fuel : Nat} {cs : List Value} {x : DataW H × List MemPlace} (hf : fld P t i = some (ft, off)) (h : DataW.trod enc P w base spare held fuel t cs = some x) (hg : GoodR P w t x) :
    ∃ n y, fuel = n + 1 ∧ cs.length = P.cellsOf t ∧ DataW.trod enc P w base spare held n ft ((cs.drop off).take (P.cellsOf ft)) = some y ∧ GoodR P w ft y := by
  unfold fld at hf
  split at hf
  · rename_i fs hu
    obtain ⟨xs, n, rfl, rfl, hl, hlen, hx⟩ := DataW.trod_struct hu h
    cases hfi : fs[i]? with
    | none => rw [hfi] at hf; cases hf
    | some f =>
      rw [hfi] at hf
      simp only [Option.map_some, Option.some.injEq, Prod.mk.injEq] at hf
      obtain ⟨rfl, rfl⟩ := hf
      have h1 := hx i f hfi
      have hi : i < xs.length := by rw [hlen]; exact (Array.getElem?_eq_some_iff.1 hfi).1
      rw [List.getElem?_eq_getElem hi] at h1
      refine ⟨n, _, rfl, hl, h1, fun b o hm => hg.1 b o (List.mem_flatMap.2 ⟨_, List.getElem_mem hi, hm⟩), fun k hk => hg.2 k ?_⟩
      simp only [DataW.weights, hu]
      exact DataW.weights_mem_each (j := i) (t := f.type) (by simp [hfi]) (by simp [hi]) k hk
  · cases hf
theorem str_inW {t fuel : Nat} {cs : List Value} {x : DataW H × List MemPlace} (ht : isStr P t = true) (h : DataW.trod enc P w base spare held fuel t cs = some x) (hg : GoodR P w t x) : ∃ l : List UInt8, cs = [.string (bs l)] ∧ l.length ≤ 140737488355328 := by
  obtain ⟨s, h1, h3, h2⟩ := DataW.trod_string (isStr_spec ht) h
  refine ⟨s.data.toList, by rw [bs_eta]; exact h1, ?_⟩
  have := hg.2 s.data.toList.length (by rw [h3]; simp [DataW.weights])
  unfold reachBytes at this
  omega
/-- a slice whose cells may be written back -/
theorem cells_inW {t e sz by_ fuel : Nat} {cs : List Value} {x : DataW H × List MemPlace} (ht : sliceT P t e = true) (hc : P.cellsOf e = sz) (hb : P.bytesOf e = by_) (h : DataW.trod enc P w base spare held fuel t cs = some x) (hg : GoodR P w t x) :
    ∃ (A : Option Addr) (len cap : Nat) (vs : List Value) (n : Nat), cs = [.slice A len cap] ∧ (0 < len → A.isSome = true) ∧ len * by_ ≤ reachBytes ∧ (∀ i u, vs[i]? = some u → Wc (mp w.heap) ((sa A).add i) u) ∧ vs.length = len * sz ∧ n ≤ fuel ∧
      ∀ i, i < len → ∃ y, DataW.trod enc P w base spare held n e ((vs.drop (i * sz)).take sz) = some y ∧ GoodR P w e y := by
  rcases DataW.trod_slice (sliceT_spec ht) h with ⟨hcs, _⟩ | ⟨a, len, cap, elems, rest, n, rfl, rfl, rfl, _, hl, hm, hel, hx, _⟩
  · exact ⟨none, 0, 0, [], 0, hcs, (fun h => absurd h (Nat.lt_irrefl 0)), by rw [Nat.zero_mul]; exact Nat.zero_le _, (fun i u h => by simp at h), by rw [Nat.zero_mul]; rfl, Nat.zero_le _, fun i hi => by omega⟩
  · rw [hc] at hx
    have hwt := hg.2
    have hle : len * by_ ≤ reachBytes := by
      have h1 := hwt ((elems.length + rest.length) * P.bytesOf e) (by simp [DataW.weights, sliceT_spec ht])
      rw [hb] at h1
      refine Nat.le_trans (Nat.mul_le_mul_right _ ?_) h1
      omega
    have h1 : ∀ i, i < len → ∃ l : List Value, w.cells? base (a.add (i * sz)) sz = some l ∧ ∃ y, DataW.trod enc P w base spare held n e l = some y ∧ GoodR P w e y := fun i hi => by
      have h2 := hx i hi
      rw [List.getElem?_eq_getElem (by omega)] at h2
      obtain ⟨l, h3, h4⟩ := Option.bind_eq_some_iff.1 h2
      refine ⟨l, h3, _, h4, fun b o hm => hg.1 b o ?_, fun k hk => hwt k ?_⟩
      · exact List.mem_append.2 (.inr (List.mem_flatMap.2 ⟨_, List.mem_append.2 (.inl (List.getElem_mem (by omega))), hm⟩))
      · simp only [DataW.weights, sliceT_spec ht, List.mem_cons, List.mem_append]
        exact .inr (.inl (mem_weightsAll (List.mem_map.2 ⟨_, List.getElem_mem (by omega), rfl⟩) hk))
    obtain ⟨ls, hls, hp⟩ := choose_list h1
    have hlen : ∀ l ∈ ls, l.length = sz := fun l hl => by
      obtain ⟨i, hi, rfl⟩ := List.getElem_of_mem hl
      exact (World.cells?_some (hp i hi).1).2.1
    have key : ∀ (ls : List (List Value)), (∀ l ∈ ls, l.length = sz) → ls.flatten.length = ls.length * sz ∧ ∀ (i j : Nat), j < sz → ls.flatten[i * sz + j]? = (ls[i]?).bind (·[j]?) := by
      intro ls
      induction ls with
      | nil => intro _; exact ⟨by simp, fun i j _ => by simp⟩
      | cons l r ih =>
        intro hl
        obtain ⟨h2, h3⟩ := ih fun x hx => hl x (List.mem_cons_of_mem _ hx)
        have h4 := hl l (by simp)
        refine ⟨by rw [List.flatten_cons, List.length_append, h2, h4, List.length_cons, Nat.add_mul]; omega, fun i j hj => ?_⟩
        rw [List.flatten_cons]
        cases i with
        | zero => rw [List.getElem?_append_left (by omega)]; simp
        | succ i =>
          rw [List.getElem?_append_right (by rw [h4, Nat.add_mul]; omega), h4, show (i + 1) * sz + j - sz = i * sz + j by rw [Nat.add_mul]; omega, h3 i j hj]
          simp
    obtain ⟨k1, k2⟩ := key ls hlen
    refine ⟨some a, len, cap, ls.flatten, n, rfl, fun _ => rfl, hle, fun q u hq => ?_, by rw [k1, hls], Nat.le_succ _, fun i hi => ?_⟩
    · have hq1 : q < ls.length * sz := by rw [← k1]; exact (List.getElem?_eq_some_iff.1 hq).1
      have hsz : 0 < sz := Nat.pos_of_ne_zero (by rintro rfl; simp at hq1)
      have hi : q / sz < ls.length := Nat.div_lt_of_lt_mul (by rw [Nat.mul_comm]; exact hq1)
      have hj : q % sz < sz := Nat.mod_lt _ hsz
      have hqe : q / sz * sz + q % sz = q := by rw [Nat.mul_comm]; exact Nat.div_add_mod q sz
      have h5 := k2 (q / sz) (q % sz) hj
      rw [hqe, List.getElem?_eq_getElem hi] at h5
      have h6 := (World.cells?_some (hp _ hi).1).2.2 _ hj
      rw [hq] at h5
      simp only [Option.bind_some] at h5
      rw [← h5, cell_mc, add_add, hqe] at h6
      have h7 : mc (mp w.heap) ((sa (some a)).add q) = some u := h6
      refine ⟨h7, ?_⟩
      have hsp := World.cell?_spot (w := w) (a := (sa (some a)).add q) h7
      have ha : (sa (some a)).add q = ⟨a.block, a.off + q, none⟩ := by
        have e : (sa (some a)).add q = a.add q := rfl
        rw [e] at hsp ⊢
        unfold Addr.add at hsp ⊢
        split
        · rename_i h0
          rw [if_pos h0] at hsp
          subst h0
          obtain ⟨b, o, s⟩ := a
          simp only at hsp
          subst hsp
          rfl
        · rfl
      rw [ha, ← frozen_mfr]
      refine hg.1 _ _ ?_
      refine List.mem_append.2 (.inl (List.mem_map.2 ⟨q, ?_, rfl⟩))
      rw [List.mem_range, hc]
      have h8 : len * sz ≤ (elems.length + rest.length) * sz := Nat.mul_le_mul_right _ (by omega)
      rw [hls] at hq1
      omega
    · have hi' : i < ls.length := by omega
      have : (ls.flatten.drop (i * sz)).take sz = ls[i] := by
        apply List.ext_getElem?
        intro j
        rw [List.getElem?_take, List.getElem?_drop]
        split
        · rename_i hj
          rw [k2 i j hj, List.getElem?_eq_getElem hi']
          rfl
        · rw [List.getElem?_eq_none]
          have := hlen _ (List.getElem_mem hi')
          omega
      rw [this]
      exact (hp i hi').2
end
end Go.Eng

namespace Go.Eng
section
variable {P : Program} {n : Nat} {env : Env} {x : Operand} {t yt : TypeId} {dst : Option Tmp} {ty : TypeId} {pos : String} {aft : Array Edge} {gd : Option (Nat × Bool)}
theorem eqGuard_slice {op : BinOp} {t : TypeId} {x y : Operand} {A : Option Addr} {m c : Nat} {v : Value} : eqGuard op t x y (.slice A m c) v = pure () := by cases op <;> rfl
theorem P_slnil {A : Option Addr} {m c : Nat} (ht : isSlice P t = true) (hx : ev env x = some (.slice A m c)) : PureV P n ⟨dst, .binOp .eql t x (.const (.slice none 0 0)) yt, ty, pos, aft, gd⟩ env (.bool A.isNone) := by
  intro a' w ha
  obtain ⟨e, he⟩ := slice_of ht
  simp only [execOp, ha.eval hx, ha.eval (rfl : ev env (.const (.slice none 0 0)) = some (.slice none 0 0)), eqGuard_slice]
  simp [Go.run_eql_slice_nil w t e A m c he]
end
end Go.Eng
namespace Go.Eng
theorem Tk.mid {x : Ent} : ∀ {a b : List Ent}, Tk (a ++ x :: b) x (a ++ b)
  | [], _ => .here
  | _ :: _, _ => .there Tk.mid
theorem HS.unpackAt {m : Mp} {a b r : List Ent} {x : Ent} {h : Heap} (hs : HS m (pack (a ++ x :: b) :: r) h) : HS m (x :: pack (a ++ b) :: r) h := by
  have h1 : HS m ((a ++ x :: b) ++ r) h := HS.pack_iff.2 hs
  rw [List.append_assoc, List.cons_append] at h1
  have h2 : HS m (x :: (a ++ (b ++ r))) h := h1.take Tk.mid
  rw [← List.append_assoc] at h2
  have h3 : HS m ((a ++ b) ++ x :: r) h := HS.untake (Tk.mid (a := a ++ b) (b := r)) h2
  exact (HS.pack_iff.1 h3).take (.there .here)
theorem HS.repackAt {m : Mp} {a b r : List Ent} {x : Ent} {h : Heap} (hs : HS m (x :: pack (a ++ b) :: r) h) : HS m (pack (a ++ x :: b) :: r) h := by
  have h1 : HS m (pack (a ++ b) :: x :: r) h := HS.untake (L := pack (a ++ b) :: x :: r) (.there .here) hs
  have h2 : HS m ((a ++ b) ++ x :: r) h := HS.pack_iff.2 h1
  have h3 : HS m (x :: ((a ++ b) ++ r)) h := h2.take (Tk.mid (a := a ++ b) (b := r))
  rw [List.append_assoc] at h3
  have h4 : HS m (a ++ x :: (b ++ r)) h := HS.untake (Tk.mid (a := a) (b := b ++ r)) h3
  rw [show a ++ x :: (b ++ r) = (a ++ x :: b) ++ r by simp] at h4
  exact HS.pack_iff.1 h4
theorem Pick.repackAt {a b r : List Ent} {x : Ent} : Pick (x :: pack (a ++ b) :: r) (pack (a ++ x :: b) :: r) := fun _ _ hs => hs.repackAt
theorem Pick.tr {L1 L2 L3 : List Ent} (h1 : Pick L1 L2) (h2 : Pick L2 L3) : Pick L1 L3 := fun m h hs => h2 m h (h1 m h hs)
theorem Pick.packSnoc {os r : List Ent} {o : Ent} : Pick (pack os :: o :: r) (pack (os ++ [o]) :: r) := fun m h hs => by
  have h1 : HS m (os ++ o :: r) h := HS.pack_iff.2 hs
  rw [show os ++ o :: r = (os ++ [o]) ++ r by simp] at h1
  exact HS.pack_iff.1 h1
section
variable {P : Program} {n : Nat} {env : Env} {m : Mp} {L r : List Ent} {Q : Post}
theorem Pick.unpackAt {a b r : List Ent} {x : Ent} : Pick (pack (a ++ x :: b) :: r) (x :: pack (a ++ b) :: r) := fun _ _ hs => hs.unpackAt
theorem TS_packNil {c : Code} (ht : TS P n c env m (pack [] :: L) Q) : TS P n c env m L Q := fun h hs => ht h (HS.pack_iff.1 (show HS m ([] ++ L) h from hs))
end
end Go.Eng
namespace Go.Eng
section
variable {P : Program} {n : Nat} {env : Env} {m : Mp} {L r : List Ent} {Q : Post} {ty : TypeId} {pos : String} {aft : Array Edge} {gd : Option (Nat × Bool)} {d : Nat}
theorem S_callVL {K : Env → List Ent → Prop} {f : FuncId} {fv : Operand} {args : List Operand} {ats : Array TypeId} {vs p q : List Value} {pre : List Ent} {post : Value → List Ent → Prop} (hcl : callable P f = true) (hf : ev env fv = some (.func (.func f) p.toArray q.toArray)) (hx : evs env args = some vs) (hT : Tks L pre r)
    (hc : ∀ m', Le m m' → HE r m' → CS P f ((p ++ vs) ++ q) m' pre post) (hn : Nat.blt d n = true) (hk : ∀ v L', post v L' → K ((d, v) :: env) (L' ++ r)) : StepS P n Q ⟨some d, .call ⟨.value fv, args.toArray, ats⟩, ty, pos, aft, gd⟩ env m L false K :=
  S_callPVd (ppost := fun _ _ => False) hcl hf hx hT (fun m' h1 h2 => (hc m' h1 h2).toP) hn (fun _ _ h => h.elim) hk
end
end Go.Eng

namespace Go.Eng
section
variable {P : Program} {n : Nat} {env : Env} {m : Mp} {L : List Ent} {x y : Operand} {t et : TypeId} {dst : Option Tmp} {ty : TypeId} {pos : String} {aft : Array Edge} {gd : Option (Nat × Bool)}
/-- a map of strings in the base -/
def MapAt (m : Mp) (b : Nat) (es : List (List UInt8 × Value)) : Prop := m b = some (.map (entsM 0 es).toArray es.length)
theorem MapAt.mono {m m' : Mp} {b : Nat} {es : List (List UInt8 × Value)} (h : MapAt m b es) (hl : Le m m') : MapAt m' b es := hl _ _ h
theorem MapAt.of {m : Mp} {b : Nat} {es : List (List UInt8 × Value)} (h : (smap b es).inv m) : MapAt m b es := h
theorem S_lookupM {b : Nat} {es : List (List UInt8 × Value)} {k : List UInt8} {zv : Value} (hm : MapAt m b es) (ht : mapStr P t = some et) (hx : ev env x = some (.map (some b))) (hy : ev env y = some (.string (bs k))) (hzz : ∀ w, (zeroValue et).run P w = .ok zv w) :
    ∀ h, HS m L h → ReadV P n ⟨dst, .lookup t x y false, ty, pos, aft, gd⟩ env h ((getM es k).getD zv) := fun h hs a w ha hl => by
  have h1 : mp w.heap b = some (.map (entsM 0 es).toArray es.length) := hl _ _ (hs.base _ _ hm)
  have := run_lookup_own (P := P) (fx := ⟨w.tape, w.os, w.output, []⟩) (h := w.heap) (dr := w.drawn) (cm := false) (k := k) ht h1 hzz
  simp only [execOp, ha.eval hx, ha.eval hy, Sem.run_bind]
  rw [← W_of] at this
  rw [this]
  rfl
theorem S_lookupM2 {b : Nat} {es : List (List UInt8 × Value)} {k : List UInt8} {zv : Value} (hm : MapAt m b es) (ht : mapStr P t = some et) (hx : ev env x = some (.map (some b))) (hy : ev env y = some (.string (bs k))) (hzz : ∀ w, (zeroValue et).run P w = .ok zv w) :
    ∀ h, HS m L h → ReadV P n ⟨dst, .lookup t x y true, ty, pos, aft, gd⟩ env h (.tuple [(getM es k).getD zv, .bool (getM es k).isSome].toArray) := fun h hs a w ha hl => by
  have h1 : mp w.heap b = some (.map (entsM 0 es).toArray es.length) := hl _ _ (hs.base _ _ hm)
  have := run_lookup_own (P := P) (fx := ⟨w.tape, w.os, w.output, []⟩) (h := w.heap) (dr := w.drawn) (cm := true) (k := k) ht h1 hzz
  simp only [execOp, ha.eval hx, ha.eval hy, Sem.run_bind]
  rw [← W_of] at this
  rw [this]
  rfl
end
end Go.Eng
