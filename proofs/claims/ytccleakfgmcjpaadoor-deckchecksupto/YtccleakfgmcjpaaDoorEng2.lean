/- A Hoare logic over heaps for the model's code, and its lemmas, one an operation: all are proved here. No condition. -/
import Derived.Test.YtccleakfgmcjpaaDoorEng
namespace Go.Eng

/-- a part of the heap: its blocks, and what is there -/
structure Ent where
  dom : Nat → Bool
  inv : Mp → Prop
  loc : ∀ {m m' : Mp}, (∀ k, dom k = true → m' k = m k) → inv m → inv m'
  has : ∀ {m : Mp} {k : Nat}, inv m → dom k = true → m k ≠ none

/-- one block -/
def blk (b : Nat) (o : Obj) : Ent where
  dom := fun k => Nat.beq b k
  inv := fun m => m b = some o
  loc := fun {m m'} h hi => by rw [h b (by simp)]; exact hi
  has := fun {m k} hi hk => by
    have := Nat.eq_of_beq_eq_true hk
    subst this
    rw [hi]
    exact fun e => by cases e
/-- a block of cells -/
abbrev cel (b : Nat) (l : List Value) (t : TypeId) : Ent := blk b (.cells l.toArray t (0, 0))
/-- a slice of the call's own -/
def own (e sz : Nat) (A : Option Addr) (n c : Nat) (xs : List Value) : Ent where
  dom := inB A
  inv := fun m => Own m e sz A n c xs
  loc := fun h hi => hi.of_eq h
  has := fun hi hk => by
    obtain ⟨cur, hm⟩ := hi.at_ hk
    rw [hm]
    exact fun e => by cases e

/-- the heap: the base stays as it is; each entry holds; they lie apart -/
structure HS (m : Mp) (L : List Ent) (h : Heap) : Prop where
  base : Le m (mp h)
  inv : ∀ e ∈ L, e.inv (mp h)
  out : ∀ e ∈ L, ∀ k, e.dom k = true → m k = none
  apart : L.Pairwise fun a b => ∀ k, a.dom k = true → b.dom k = false

theorem HS.nil {m : Mp} {h : Heap} (hl : Le m (mp h)) : HS m [] h := ⟨hl, (fun e he => by cases he), (fun e he => by cases he), List.Pairwise.nil⟩

/-- entry by entry -/
theorem HS.cons_iff {m : Mp} {e : Ent} {L : List Ent} {h : Heap} : HS m (e :: L) h ↔ HS m L h ∧ e.inv (mp h) ∧ (∀ k, e.dom k = true → m k = none) ∧ ∀ x ∈ L, ∀ k, e.dom k = true → x.dom k = false := by
  constructor
  · intro ⟨h1, h2, h3, h4⟩
    rw [List.pairwise_cons] at h4
    exact ⟨⟨h1, fun x hx => h2 x (List.mem_cons_of_mem _ hx), fun x hx => h3 x (List.mem_cons_of_mem _ hx), h4.2⟩, h2 e (by simp), h3 e (by simp), h4.1⟩
  · intro ⟨⟨h1, h2, h3, h4⟩, g1, g2, g3⟩
    refine ⟨h1, fun x hx => ?_, fun x hx => ?_, List.pairwise_cons.2 ⟨g3, h4⟩⟩
    · rcases List.mem_cons.1 hx with rfl | hx
      · exact g1
      · exact h2 x hx
    · rcases List.mem_cons.1 hx with rfl | hx
      · exact g2
      · exact h3 x hx
theorem HS.tail {m : Mp} {e : Ent} {L : List Ent} {h : Heap} (hs : HS m (e :: L) h) : HS m L h := (HS.cons_iff.1 hs).1
theorem HS.head {m : Mp} {e : Ent} {L : List Ent} {h : Heap} (hs : HS m (e :: L) h) : e.inv (mp h) := (HS.cons_iff.1 hs).2.1

/-- one entry taken out -/
inductive Tk : List Ent → Ent → List Ent → Prop
  | here {e : Ent} {r : List Ent} : Tk (e :: r) e r
  | there {x e : Ent} {r r' : List Ent} (h : Tk r e r') : Tk (x :: r) e (x :: r')
/-- one entry put in another's place -/
inductive Sel : List Ent → Ent → Ent → List Ent → Prop
  | here {e e' : Ent} {r : List Ent} : Sel (e :: r) e e' (e' :: r)
  | there {x e e' : Ent} {r r' : List Ent} (h : Sel r e e' r') : Sel (x :: r) e e' (x :: r')
theorem Tk.mem {L : List Ent} {e : Ent} {r : List Ent} (h : Tk L e r) : ∀ x, x ∈ L ↔ x = e ∨ x ∈ r := by
  induction h with
  | here => intro x; simp
  | there _ ih => intro x; simp only [List.mem_cons, ih]; exact or_left_comm
theorem HS.take {m : Mp} {L : List Ent} {e : Ent} {r : List Ent} {h : Heap} (ht : Tk L e r) : HS m L h → HS m (e :: r) h := by
  induction ht with
  | here => exact id
  | @there x e r r' ht ih =>
    intro hs
    obtain ⟨h1, h2, h3, h4⟩ := HS.cons_iff.1 hs
    have h5 := ih h1
    obtain ⟨g1, g2, g3, g4⟩ := HS.cons_iff.1 h5
    refine HS.cons_iff.2 ⟨HS.cons_iff.2 ⟨g1, h2, h3, fun y hy => h4 y ((ht.mem y).2 (.inr hy))⟩, g2, g3, fun y hy k hk => ?_⟩
    rcases List.mem_cons.1 hy with rfl | hy
    · cases hd : y.dom k with
      | false => rfl
      | true => have := h4 e ((ht.mem e).2 (.inl rfl)) k hd; rw [hk] at this; cases this
    · exact g4 y hy k hk
theorem HS.untake {m : Mp} {L : List Ent} {e : Ent} {r : List Ent} {h : Heap} (ht : Tk L e r) : HS m (e :: r) h → HS m L h := by
  induction ht with
  | here => exact id
  | @there x e r r' ht ih =>
    intro hs
    obtain ⟨h1, h2, h3, h4⟩ := HS.cons_iff.1 hs
    obtain ⟨g1, g2, g3, g4⟩ := HS.cons_iff.1 h1
    refine HS.cons_iff.2 ⟨ih (HS.cons_iff.2 ⟨g1, h2, h3, fun y hy => h4 y (List.mem_cons_of_mem _ hy)⟩), g2, g3, fun y hy k hk => ?_⟩
    rcases (ht.mem y).1 hy with rfl | hy
    · cases hd : y.dom k with
      | false => rfl
      | true => have := h4 x (by simp) k hd; rw [hk] at this; cases this
    · exact g4 y hy k hk
theorem Sel.split {L : List Ent} {e e' : Ent} {L' : List Ent} (hs : Sel L e e' L') : ∃ r, Tk L e r ∧ Tk L' e' r := by
  induction hs with
  | here => exact ⟨_, .here, .here⟩
  | there _ ih => obtain ⟨r, h1, h2⟩ := ih; exact ⟨_, .there h1, .there h2⟩
theorem HS.sel {m : Mp} {L L' : List Ent} {e e' : Ent} {h h' : Heap} (hs : Sel L e e' L') (hh : HS m L h) (hk : ∀ r, HS m (e :: r) h → HS m (e' :: r) h') : HS m L' h' := by
  obtain ⟨r, h1, h2⟩ := hs.split
  exact (hk r (hh.take h1)).untake h2

theorem mp_none_iff {h : Heap} {b : Nat} : mp h b = none ↔ h.size ≤ b := by unfold mp; rw [Array.getElem?_eq_none_iff]

/-- the first entry changes: the rest stays -/
theorem HS.upd {m : Mp} {e e' : Ent} {r : List Ent} {h h' : Heap} (hs : HS m (e :: r) h) (ho : ∀ k, k < h.size → e.dom k = false → mp h' k = mp h k) (hi : e'.inv (mp h')) (hd : ∀ k, e'.dom k = true → e.dom k = true ∨ h.size ≤ k) : HS m (e' :: r) h' := by
  obtain ⟨⟨h1, h2, h3, h5⟩, g1, g2, g3⟩ := HS.cons_iff.1 hs
  have same : ∀ x ∈ r, ∀ k, x.dom k = true → mp h' k = mp h k := fun x hx k hk => by
    refine ho k ?_ ?_
    · rcases Nat.lt_or_ge k h.size with hlt | hge
      · exact hlt
      · exact absurd (mp_none_iff.2 hge) (x.has (h2 x hx) hk)
    · cases he : e.dom k with
      | false => rfl
      | true => have := g3 x hx k he; rw [hk] at this; cases this
  refine HS.cons_iff.2 ⟨⟨fun k o hk => ?_, fun x hx => x.loc (same x hx) (h2 x hx), h3, h5⟩, hi, fun k hk => ?_, fun x hx k hk => ?_⟩
  · have h6 := h1 k o hk
    rw [ho k (mp_some h6) ?_]
    · exact h6
    · cases he : e.dom k with
      | false => rfl
      | true => rw [g2 k he] at hk; cases hk
  · rcases hd k hk with he | he
    · exact g2 k he
    · cases hm : m k with
      | none => rfl
      | some o => have := mp_some (h1 k o hm); omega
  · cases hxk : x.dom k with
    | false => rfl
    | true =>
      rcases hd k hk with he | he
      · have := g3 x hx k he; rw [hxk] at this; cases this
      · exact absurd (mp_none_iff.2 he) (x.has (h2 x hx) hxk)
/-- a new entry: all else stays -/
theorem HS.new {m : Mp} {e' : Ent} {r : List Ent} {h h' : Heap} (hs : HS m r h) (hl : Le (mp h) (mp h')) (hi : e'.inv (mp h')) (hd : ∀ k, e'.dom k = true → mp h k = none) : HS m (e' :: r) h' := by
  have h0 : HS m (⟨fun _ => false, fun _ => True, fun _ _ => trivial, fun _ h => by cases h⟩ :: r) h := HS.cons_iff.2 ⟨hs, trivial, fun k hk => by (exact absurd hk (by simp)), fun x hx k hk => by (exact absurd hk (by simp))⟩
  refine h0.upd (fun k hk _ => ?_) hi fun k hk => .inr (mp_none_iff.1 (hd k hk))
  have : mp h k = some h[k] := by simp [mp, hk]
  rw [this]
  exact hl _ _ this
/-- what only adds to the heap keeps it -/
theorem HS.le {m : Mp} {r : List Ent} {h h' : Heap} (hs : HS m r h) (hl : Le (mp h) (mp h')) : HS m r h' :=
  (hs.new (e' := ⟨fun _ => false, fun _ => True, fun _ _ => trivial, fun _ h => by cases h⟩) hl trivial fun k hk => by (exact absurd hk (by simp))).tail

/-! ### fewer entries, in another order -/
def Pick (L L' : List Ent) : Prop := ∀ (m : Mp) (h : Heap), HS m L h → HS m L' h
theorem Pick.refl (L : List Ent) : Pick L L := fun _ _ h => h
theorem Pick.nil (L : List Ent) : Pick L [] := fun _ _ h => HS.nil h.base
theorem Pick.cons {L L' r : List Ent} {e : Ent} (ht : Tk L e r) (hp : Pick r L') : Pick L (e :: L') := fun m h hs => by
  have h0 := hs.take ht
  obtain ⟨h1, h2, h3, h4⟩ := HS.cons_iff.1 h0
  have h5 := hp m h h1
  refine HS.cons_iff.2 ⟨h5, h2, h3, fun x hx k hk => ?_⟩
  -- an entry of L' has no block of e
  have key : HS (fun j => if e.dom j then mp h j else m j) r h := by
    refine ⟨fun j o hj => ?_, h1.inv, fun x hx j hj => ?_, h1.apart⟩
    · split at hj
      · exact hj
      · exact h1.base j o hj
    · split
      · rename_i he
        have := h4 x hx j he
        rw [hj] at this
        cases this
      · exact h1.out x hx j hj
  cases hxk : x.dom k with
  | false => rfl
  | true =>
    have h6 := (hp _ h key).out x hx k hxk
    simp only [hk, if_true] at h6
    exact absurd h6 (e.has h2 hk)
theorem Pick.drop {L : List Ent} {e : Ent} : Pick (e :: L) L := fun _ _ hs => hs.tail

/-! ### the walk over such heaps -/
section
variable {P : Program} {n : Nat} {env : Env} {m : Mp} {L : List Ent} {Q : Post}

def TS (P : Program) (n : Nat) (c : Code) (env : Env) (m : Mp) (L : List Ent) (Q : Post) : Prop := ∀ h, HS m L h → T P n c env h Q
def QS (Q : Post) (e : Exit) (env : Env) (m : Mp) (L : List Ent) : Prop := ∀ h, HS m L h → Q e env h
def VS (P : Program) (n : Nat) (l0 l : List Oper) (env : Env) (m : Mp) (L : List Ent) (Q : Post) : Prop := ∀ h, HS m L h → V P n l0 l env h Q
def VTS (P : Program) (n : Nat) (l : List Oper) (wild : Nat → Bool) (t : OT) (env : Env) (m : Mp) (L : List Ent) (Q : Post) : Prop := ∀ h, HS m L h → VT P n l wild t env h Q

theorem TS_seq {a b : Code} (ht : TS P n a env m L (thenQ P n b Q)) : TS P n (.seq a b) env m L Q := fun h hs => T_seq (ht h hs)
theorem TS_block {c : Code} {id : Nat} (ht : TS P n c env m L (blockQ id Q)) : TS P n (.block id c) env m L Q := fun h hs => T_block (ht h hs)
theorem TS_skip (hq : QS Q .normal env m L) : TS P n .skip env m L Q := fun h hs => T_skip (hq h hs)
theorem TS_exit {id : Nat} (hq : QS Q (.exit id) env m L) : TS P n (.exit id) env m L Q := fun h hs => T_exit (hq h hs)
theorem TS_ret (hq : QS Q .ret env m L) : TS P n .ret env m L Q := fun h hs => T_ret (hq h hs)
theorem TS_true {c : Operand} {a b : Code} (hc : ev env c = some (.bool true)) (ht : TS P n a env m L Q) : TS P n (.cond c a b) env m L Q := fun h hs => T_true hc (ht h hs)
theorem TS_false {c : Operand} {a b : Code} (hc : ev env c = some (.bool false)) (ht : TS P n b env m L Q) : TS P n (.cond c a b) env m L Q := fun h hs => T_false hc (ht h hs)
theorem TS_pick {c : Code} (L' : List Ent) (hp : Pick L L') (ht : TS P n c env m L' Q) : TS P n c env m L Q := fun h hs => ht h (hp m h hs)
theorem QS_then {c : Code} (ht : TS P n c env m L Q) : QS (thenQ P n c Q) .normal env m L := fun h hs => thenQ_normal (ht h hs)
theorem QS_then_exit {c : Code} {i : Nat} (hq : QS Q (.exit i) env m L) : QS (thenQ P n c Q) (.exit i) env m L := fun h hs => thenQ_exit (hq h hs)
theorem QS_then_ret {c : Code} (hq : QS Q .ret env m L) : QS (thenQ P n c Q) .ret env m L := fun h hs => thenQ_ret (hq h hs)
theorem QS_block {id : Nat} (hq : QS Q .normal env m L) : QS (blockQ id Q) .normal env m L := fun h hs => blockQ_normal (hq h hs)
theorem QS_block_here {id : Nat} (hq : QS Q .normal env m L) : QS (blockQ id Q) (.exit id) env m L := fun h hs => blockQ_here (hq h hs)
theorem QS_block_ret {id : Nat} (hq : QS Q .ret env m L) : QS (blockQ id Q) .ret env m L := fun h hs => blockQ_ret (hq h hs)
/-- a round's end -/
def roundS {α : Type} (m : Mp) (S : α → Env) (LL : α → List Ent) (F : α → Prop) (μ : α → Nat) (k : Nat) (Q : Post) : Post := roundQ S (fun y h => F y ∧ HS m (LL y) h) μ k Q
theorem QS_round_exit {α : Type} {S : α → Env} {LL : α → List Ent} {F : α → Prop} {μ : α → Nat} {k i : Nat} (hq : QS Q (.exit i) env m L) : QS (roundS m S LL F μ k Q) (.exit i) env m L := fun h hs => roundQ_exit (hq h hs)
theorem QS_round_ret {α : Type} {S : α → Env} {LL : α → List Ent} {F : α → Prop} {μ : α → Nat} {k : Nat} (hq : QS Q .ret env m L) : QS (roundS m S LL F μ k Q) .ret env m L := fun h hs => roundQ_ret (hq h hs)
theorem QS_round {α : Type} {S : α → Env} {LL : α → List Ent} {F : α → Prop} {μ : α → Nat} {k : Nat} (y : α) (hs : Sub (S y) env) (hp : Pick L (LL y)) (hF : F y) (hk : μ y < k) : QS (roundS m S LL F μ k Q) .normal env m L :=
  fun h hh => ⟨y, hs, ⟨hF, hp m h hh⟩, hk⟩
theorem TS_loop {α : Type} {c : Code} (S : α → Env) (LL : α → List Ent) (F : α → Prop) (μ : α → Nat) (y : α) (hs : Sub (S y) env) (hp : Pick L (LL y)) (hF : F y)
    (hr : ∀ (y : α), F y → TS P n c (S y) m (LL y) (roundS m S LL F μ (μ y) Q)) : TS P n (.loop c) env m L Q :=
  fun h hh => T_loop S (fun y h => F y ∧ HS m (LL y) h) μ y hs ⟨hF, hp m h hh⟩ fun y h ⟨h1, h2⟩ => hr y h1 h h2
/-- the walk cut: what is known behind a piece of code -/
theorem TS_cut {α : Type} {a b : Code} (S : α → Env) (LL : α → List Ent) (F : α → Prop) (h1 : TS P n a env m L (roundS m S LL F (fun _ => 0) 1 Q)) (h2 : ∀ y, F y → TS P n b (S y) m (LL y) Q) : TS P n a env m L (thenQ P n b Q) :=
  fun h hh => T_cut S (fun y h => F y ∧ HS m (LL y) h) (h1 h hh) fun y h ⟨a1, a2⟩ => h2 y a1 h a2

theorem TS_cut3 {α : Type} {a c b : Code} (S : α → Env) (LL : α → List Ent) (F : α → Prop) (h1 : TS P n a env m L (thenQ P n c (roundS m S LL F (fun _ => 0) 1 Q))) (h2 : ∀ y, F y → TS P n b (S y) m (LL y) Q) : TS P n a env m L (thenQ P n c (thenQ P n b Q)) := by
  intro h hh
  refine T_mono (h1 h hh) ?_
  intro e env' h' hq
  have key : ∀ e env' h', roundS m S LL F (fun _ => 0) 1 Q e env' h' → thenQ P n b Q e env' h' := by
    intro e env' h' hq
    cases e with
    | normal =>
      obtain ⟨y, hs, ⟨hF, hH⟩, _⟩ := hq
      exact T_keep (S y) hs (h2 y hF h' hH)
    | exit i => exact hq
    | goto l => exact hq
    | ret => exact hq
    | panic c => exact hq
    | outgrown => exact hq
  cases e with
  | normal => exact T_mono hq key
  | exit i => exact hq
  | goto l => exact hq
  | ret => exact hq
  | panic c => exact hq
  | outgrown => exact hq

/-! ### operations -/
variable {l0 l : List Oper} {o : Oper} {v : Value} {d : Nat}
theorem TS_region {id : Nat} (hv : VS P n l0 l0 env m L Q) : TS P n (.region id l0.toArray false) env m L Q := fun h hs => T_region (hv h hs)
theorem VS_nil (hq : QS Q .normal env m L) : VS P n l0 [] env m L Q := fun h hs => V_nil (hq h hs)
theorem VS_pure (hr : PureV P n o env v) (hd : o.dst = some d) (hn : Nat.blt d n = true) (hw : wanted l0 env o = some true) (hk : VS P n l0 l ((d, v) :: env) m L Q) : VS P n l0 (o :: l) env m L Q := fun h hs => V_pure hr hd hn hw (hk h hs)
theorem VS_read (hr : ∀ h, HS m L h → ReadV P n o env h v) (hd : o.dst = some d) (hn : Nat.blt d n = true) (hw : wanted l0 env o = some true) (hk : VS P n l0 l ((d, v) :: env) m L Q) : VS P n l0 (o :: l) env m L Q := fun h hs => V_read (hr h hs) hd hn hw (hk h hs)
theorem VS_skip (hw : wanted l0 env o = some false) (hd : o.dst = some d) (hn : Nat.blt d n = true) (hk : VS P n l0 l ((d, undef) :: env) m L Q) : VS P n l0 (o :: l) env m L Q := fun h hs => V_skip hw hd hn (hk h hs)
/-- an effect: what it does to the heap's entries -/
def StepS (P : Program) (n : Nat) (Q : Post) (o : Oper) (env : Env) (m : Mp) (L : List Ent) (kept : Bool) (K : Env → List Ent → Prop) : Prop :=
  ∀ h, HS m L h → Step P n Q o env h fun env' h' => (kept = true → Le (mp h) (mp h')) ∧ ∃ L', HS m L' h' ∧ K env' L'
theorem VS_step {kept : Bool} (hs : StepS P n Q o env m L kept fun env' L' => VS P n l0 l env' m L' Q) (hw : wanted l0 env o = some true) : VS P n l0 (o :: l) env m L Q :=
  fun h hh => V_step ((hs h hh).mono fun _ _ ⟨_, _, h1, h2⟩ => h2 _ h1) hw

/-! drawn regions -/
variable {wild : Nat → Bool} {t : OT} {i : Nat}
theorem TS_draw {id : Nat} (t : OT) (hm : P.follows .mixedOrders = true) (hck : checkT l t = true) (hQ : ∀ c env env' h, Q (.panic c) env h → Q (.panic c) env' h)
    (hv : VTS P n l (wildT t) t env m L Q) : TS P n (.region id l.toArray true) env m L Q := fun h hs => T_drawT t hm hck hQ (hv h hs)
theorem VTS_nil (hq : QS Q .normal env m L) : VTS P n l wild .done env m L Q := fun h hs => VT_nil (hq h hs)
theorem VTS_fork {s : OT} (h1 : VTS P n l wild s env m L Q) (h2 : VTS P n l wild t env m L Q) : VTS P n l wild (.fork s t) env m L Q := fun h hs => VT_fork (h1 h hs) (h2 h hs)
theorem VTS_pure (ho : nth l i = some o) (hr : PureV P n o env v) (hd : o.dst = some d) (hn : Nat.blt d n = true) (hw : wanted l env o = some true) (hk : VTS P n l wild t ((d, v) :: env) m L Q) : VTS P n l wild (.step i .pure t) env m L Q := fun h hs => VT_pure ho hr hd hn hw (hk h hs)
theorem VTS_read (ho : nth l i = some o) (hr : ∀ h, HS m L h → ReadV P n o env h v) (hd : o.dst = some d) (hn : Nat.blt d n = true) (hw : wanted l env o = some true) (hk : VTS P n l wild t ((d, v) :: env) m L Q) : VTS P n l wild (.step i .read t) env m L Q := fun h hs => VT_read ho (hr h hs) hd hn hw (hk h hs)
theorem VTS_readp (ho : nth l i = some o) (hr : PureV P n o env v) (hd : o.dst = some d) (hn : Nat.blt d n = true) (hw : wanted l env o = some true) (hk : VTS P n l wild t ((d, v) :: env) m L Q) : VTS P n l wild (.step i .read t) env m L Q := fun h hs => VT_read ho hr.read hd hn hw (hk h hs)
theorem VTS_skip {k : Kd} (hq : k.quiet = true) (ho : nth l i = some o) (hw : wanted l env o = some false) (hd : o.dst = some d) (hn : Nat.blt d n = true) (hk : VTS P n l wild t ((d, undef) :: env) m L Q) : VTS P n l wild (.step i k t) env m L Q := fun h hs => VT_skip hq ho hw hd hn (hk h hs)
theorem VTS_skipE {k : Kd} (hq : k.quiet = false) (ho : nth l i = some o) (hw : wanted l env o = some false) (hd : o.dst = some d) (hn : Nat.blt d n = true) (hk : VTS P n l wild t ((d, undef) :: env) m L Q) : VTS P n l wild (.step i k t) env m L Q := fun h hs => VT_skipE hq ho hw hd hn (hk h hs)
theorem VTS_kept (ho : nth l i = some o) (hs : StepS P n Q o env m L true fun env' L' => VTS P n l wild t env' m L' Q) (hw : wanted l env o = some true) : VTS P n l wild (.step i .kept t) env m L Q :=
  fun h hh => VT_kept ho ((hs h hh).mono fun _ _ ⟨h0, _, h1, h2⟩ => ⟨h0 rfl, h2 _ h1⟩) hw
theorem VTS_wild {kept : Bool} (ho : nth l i = some o) (hwl : wild i = true) (hs : StepS P n Q o env m L kept fun env' L' => VTS P n l wild t env' m L' Q) (hw : wanted l env o = some true) : VTS P n l wild (.step i .wild t) env m L Q :=
  fun h hh => VT_wild ho hwl ((hs h hh).mono fun _ _ ⟨_, _, h1, h2⟩ => h2 _ h1) hw
end

/-! ### reads -/
section
variable {P : Program} {n : Nat} {env : Env} {m : Mp} {L r : List Ent} {Q : Post} {K : Env → List Ent → Prop} {dst : Option Tmp} {d : Nat} {ty : TypeId} {pos : String} {aft : Array Edge} {gd : Option (Nat × Bool)} {t : TypeId} {x y : Operand} {v : Value} {kept : Bool}

theorem HS.get {h : Heap} {e : Ent} (hs : HS m L h) (ht : Tk L e r) : e.inv (mp h) := hs.inv e ((ht.mem e).2 (.inl rfl))
/-- a cell of the base -/
theorem S_load {a : Addr} (ht : single P t = true) (hx : ev env x = some (.pointer (some a))) (hc : mc m a = some v) : ∀ h, HS m L h → ReadV P n ⟨dst, .load t x, ty, pos, aft, gd⟩ env h v :=
  fun _ hs => R_load ht hx (mc_mono hs.base hc)
theorem S_loadAt {a : Addr} {l : List Value} {q : Nat} (ht : aggSize P t = some q) (hx : ev env x = some (.pointer (some a))) (hl : l.length = q) (hc : At m a l) : ∀ h, HS m L h → ReadV P n ⟨dst, .load t x, ty, pos, aft, gd⟩ env h (.agg l.toArray) :=
  fun _ hs => R_loadAt ht hx hl (hc.mono hs.base)
/-- a cell of an entry -/
theorem S_loadB {b i : Nat} {l : List Value} {e : TypeId} (ht : single P t = true) (hx : ev env x = some (.pointer (some ⟨b, i, none⟩))) (hT : Tk L (cel b l e) r) (hv : vnth l i = some v) : ∀ h, HS m L h → ReadV P n ⟨dst, .load t x, ty, pos, aft, gd⟩ env h v :=
  fun _ hs => R_load ht hx (mc_blk (hs.get hT) hv)
theorem S_loadBA {b q : Nat} {l : List Value} {e : TypeId} (ht : aggSize P t = some q) (hx : ev env x = some (.pointer (some ⟨b, 0, none⟩))) (hT : Tk L (cel b l e) r) (hl : l.length = q) : ∀ h, HS m L h → ReadV P n ⟨dst, .load t x, ty, pos, aft, gd⟩ env h (.agg l.toArray) :=
  fun _ hs => R_loadAt ht hx hl (At.blk (hs.get hT))
/-! ### new blocks -/
theorem S_box {elem : TypeId} (hx : ev env x = some v) (hn : Nat.blt d n = true) (hk : ∀ b, K ((d, .pointer (some ⟨b, 0, none⟩)) :: env) (cel b v.cells.toList elem :: L)) : StepS P n Q ⟨some d, .box elem x, ty, pos, aft, gd⟩ env m L true K := fun h hs =>
  E_box hx hn fun b h' hn' hb hl => ⟨fun _ => hl, _, hs.new (e' := cel b v.cells.toList elem) hl (by show mp h' b = _; simpa using hb) fun k hk => by have := Nat.eq_of_beq_eq_true hk; subst this; exact hn', hk b⟩
theorem S_alloc {elem : TypeId} {z : List Value} (hz : zeroL P elem = some z) (hn : Nat.blt d n = true) (hk : ∀ b, K ((d, .pointer (some ⟨b, 0, none⟩)) :: env) (cel b z elem :: L)) : StepS P n Q ⟨some d, .alloc elem, ty, pos, aft, gd⟩ env m L true K := fun h hs =>
  E_alloc hz hn fun b h' hn' hb hl => ⟨fun _ => hl, _, hs.new (e' := cel b z elem) hl hb fun k hk => by have := Nat.eq_of_beq_eq_true hk; subst this; exact hn', hk b⟩
theorem S_buildSlice {len e sz by_ : Nat} {z cs : List Value} {parts : List (Nat × Operand)} {ps : List (Nat × Value)} (hs : slInfo P t = some (e, sz, by_, z)) (hx : evp env parts = some ps)
    (hsmall : Nat.ble (len * sz) 16777216 = true) (hf : fillS sz (rowZ (if len * sz = 0 then [] else z) (len * sz)) ps = some cs) (hn : Nat.blt d n = true)
    (hk : ∀ b, K ((d, .slice (some ⟨b, 0, none⟩) len len) :: env) (cel b cs e :: L)) : StepS P n Q ⟨some d, .buildSlice t len parts.toArray, ty, pos, aft, gd⟩ env m L true K := fun h hh =>
  E_buildSlice hs hx hsmall hf hn fun b h' hn' hb hl => ⟨fun _ => hl, _, hh.new (e' := cel b cs e) hl hb fun k hk => by have := Nat.eq_of_beq_eq_true hk; subst this; exact hn', hk b⟩

/-! ### stores -/
/-- a cell of a row of cells, put in another's place -/
inductive USet : List Value → Nat → Value → List Value → Prop
  | here {u v : Value} {r : List Value} : USet (u :: r) 0 v (v :: r)
  | there {u v : Value} {r r' : List Value} {i : Nat} (h : USet r i v r') : USet (u :: r) (i + 1) v (u :: r')
theorem USet.eq {l l' : List Value} {i : Nat} (h : USet l i v l') : i < l.length ∧ l' = l.set i v := by
  induction h with
  | here => simp
  | there _ ih => obtain ⟨h1, h2⟩ := ih; exact ⟨by simp; omega, by simp [h2]⟩
theorem dom_cel {b k : Nat} {o : Obj} (hk : (blk b o).dom k = true) : k = b := (Nat.eq_of_beq_eq_true hk).symm
theorem S_store {b i : Nat} {l l' : List Value} {e : TypeId} {L' : List Ent} (ht : cells1 P t = true) (hx : ev env x = some (.pointer (some ⟨b, i, none⟩))) (hy : ev env y = some v) (hv : oneV v = true)
    (hT : Sel L (cel b l e) (cel b l' e) L') (hu : USet l i v l') (hk : K env L') : StepS P n Q ⟨none, .store t x y, ty, pos, aft, gd⟩ env m L false K := fun h hs => by
  obtain ⟨r, h1, h2⟩ := hT.split
  obtain ⟨hi, rfl⟩ := hu.eq
  have h3 := hs.take h1
  refine E_store ht hx hy hv (show mp h b = some (.cells l.toArray e (0, 0)) from h3.head) (by simpa [Nat.blt_eq] using hi) fun h' g1 g2 g3 => ⟨(fun hf => by cases hf), L', (h3.upd (e' := cel b (l.set i v) e) (fun k _ hk => g2 k ?_) g1 fun k hk => .inl hk).untake h2, hk⟩
  rintro rfl
  simp [blk] at hk
theorem S_storeAgg {b q : Nat} {l vs : List Value} {e : TypeId} {L' : List Ent} (ht : aggSize P t = some q) (hx : ev env x = some (.pointer (some ⟨b, 0, none⟩))) (hy : ev env y = some (.agg vs.toArray)) (hq : Nat.beq vs.length q = true)
    (hT : Sel L (cel b l e) (cel b vs e) L') (hl : Nat.beq l.length q = true) (h1 : vs.all oneV = true) (hk : K env L') : StepS P n Q ⟨none, .store t x y, ty, pos, aft, gd⟩ env m L false K := fun h hs => by
  obtain ⟨r, g1, g2⟩ := hT.split
  have h3 := hs.take g1
  refine E_storeAgg ht hx hy hq (show mp h b = some (.cells l.toArray e (0, 0)) from h3.head) hl h1 fun h' k1 k2 k3 => ⟨(fun hf => by cases hf), L', (h3.upd (e' := cel b vs e) (fun k _ hk => k2 k ?_) k1 fun k hk => .inl hk).untake g2, hk⟩
  rintro rfl
  simp [blk] at hk
/-! ### append -/
theorem Own.ofCel {m : Mp} {b e sz k : Nat} {l : List Value} (hb : m b = some (.cells l.toArray e (0, 0))) (hl : l.length = k * sz) (hm : k ≤ maxLen) : Own m e sz (some ⟨b, 0, none⟩) k k l := Own.new hb hl hm
theorem S_appendR {A A2 : Option Addr} {k c j c2 e sz by_ : Nat} {z xs news : List Value} {L' : Option Addr → Nat → List Ent} (hs : slInfo P t = some (e, sz, by_, z)) (hsz : Nat.blt 0 sz = true) (hzl : z.length = sz)
    (hx : ev env x = some (.slice A k c)) (hy : ev env y = some (.slice A2 j c2)) (hT : ∀ A' c', Sel L (own e sz A k c xs) (own e sz A' (k + j) c' (xs ++ news)) (L' A' c')) (hr : ∀ h, HS m L h → Rd (mp h) A2 news) (hl : news.length = j * sz) (h1 : ∀ u ∈ news, oneV u = true)
    (hm : k + j ≤ maxLen) (hb : (k + j) * by_ ≤ 140737488355328) (hn : Nat.blt d n = true) (hk : ∀ A' c', K ((d, .slice A' (k + j) c') :: env) (L' A' c')) :
    StepS P n Q ⟨some d, .call ⟨.builtin .append, #[x, y], #[t, t]⟩, ty, pos, aft, gd⟩ env m L false K := fun h hh => by
  obtain ⟨r, h2, _⟩ := (hT none 0).split
  have h3 := hh.take h2
  refine E_append hs hsz hzl hx hy (show Own (mp h) e sz A k c xs from h3.head) (hr h hh) hl h1 hm hb hn fun A' c' h' g1 g2 => ⟨(fun hf => by cases hf), L' A' c', ?_, hk A' c'⟩
  refine hh.sel (hT A' c') fun r h4 => h4.upd (e' := own e sz A' (k + j) c' (xs ++ news)) (fun i hi hd => g2.other i hi ?_) g1 fun i hi => ?_
  · intro e
    have hd' : inB A i = false := hd
    simp [inB, ← e] at hd'
  · have : inB A' i = true := hi
    simp only [inB, beq_iff_eq] at this
    rcases g2.at_ with e | e
    · left; show inB A i = true; rw [e] at this; simp [inB, this]
    · right; rw [e] at this; injection this with this; omega
/-- of a slice literal -/
theorem S_append {A : Option Addr} {b k c j c2 e e2 sz by_ : Nat} {z xs news : List Value} {L' : Option Addr → Nat → List Ent} {r : List Ent} (hs : slInfo P t = some (e, sz, by_, z)) (hsz : Nat.blt 0 sz = true) (hzl : z.length = sz)
    (hx : ev env x = some (.slice A k c)) (hy : ev env y = some (.slice (some ⟨b, 0, none⟩) j c2)) (hT2 : Tk L (cel b news e2) r) (hT : ∀ A' c', Sel L (own e sz A k c xs) (own e sz A' (k + j) c' (xs ++ news)) (L' A' c')) (hl : news.length = j * sz) (h1 : news.all oneV = true)
    (hm : k + j ≤ maxLen) (hb : (k + j) * by_ ≤ 140737488355328) (hn : Nat.blt d n = true) (hk : ∀ A' c', K ((d, .slice A' (k + j) c') :: env) (L' A' c')) :
    StepS P n Q ⟨some d, .call ⟨.builtin .append, #[x, y], #[t, t]⟩, ty, pos, aft, gd⟩ env m L false K :=
  S_appendR hs hsz hzl hx hy hT (fun _ hh => Rd.blk (hh.get hT2)) hl (by rw [List.all_eq_true] at h1; exact h1) hm hb hn hk
/-- a nil slice, as one of the call's own -/
theorem HS.nilOwn {h : Heap} (e sz : Nat) (hs : HS m L h) : HS m (own e sz none 0 0 [] :: L) h := HS.cons_iff.2 ⟨hs, Own.nil _ _ _, (fun k hk => by cases hk), (fun x hx k hk => by cases hk)⟩
theorem HS.celOwn {h : Heap} {b e sz k : Nat} {l : List Value} (hl : l.length = k * sz) (hm : k ≤ maxLen) (hs : HS m (cel b l e :: L) h) : HS m (own e sz (some ⟨b, 0, none⟩) k k l :: L) h :=
  hs.upd (fun _ _ _ => rfl) (Own.ofCel hs.head hl hm) fun j hj => .inl (by have : inB (some ⟨b, 0, none⟩) j = true := hj; simp [inB, ownB] at this; subst this; exact Nat.beq_refl _)
theorem TS_nilOwn {c : Code} (e sz : Nat) (ht : TS P n c env m (own e sz none 0 0 [] :: L) Q) : TS P n c env m L Q := fun h hs => ht h (hs.nilOwn e sz)
theorem VS_celOwn {l0 l : List Oper} {b e sz k : Nat} {cs : List Value} {L' : List Ent} (hT : Sel L (cel b cs e) (own e sz (some ⟨b, 0, none⟩) k k cs) L') (hl : cs.length = k * sz) (hm : k ≤ maxLen) (ht : VS P n l0 l env m L' Q) : VS P n l0 l env m L Q :=
  fun h hs => ht h (hs.sel hT fun _ h2 => h2.celOwn hl hm)

/-! ### ranges over strings -/
def iter (b : Nat) (s : List UInt8) (p : Nat) : Ent := blk b (.stringIter (bs s) p)
end

/-! ### calls -/
/-- A function's contract: which of the heap it needs, what it leaves there; all else stays. -/
def CS (P : Program) (f : FuncId) (args : List Value) (m : Mp) (pre : List Ent) (post : Value → List Ent → Prop) : Prop :=
  ∀ h, HS m pre h → C P f args.toArray h fun v h' => ∃ L', post v L' ∧ HS m L' h'
def postS (m : Mp) (post : Value → List Ent → Prop) : Value → Heap → Prop := fun v h' => ∃ L', post v L' ∧ HS m L' h'
theorem CS.mono {P : Program} {f : FuncId} {args : List Value} {m : Mp} {pre : List Ent} {post post' : Value → List Ent → Prop} (hc : CS P f args m pre post) (hp : ∀ v L', post v L' → post' v L') : CS P f args m pre post' :=
  fun h hs => (hc h hs).mono fun _ _ ⟨L', h1, h2⟩ => ⟨L', hp _ _ h1, h2⟩
/-- the value of results -/
def RvS (P : Program) (env : Env) (L : List Ent) : ResultVar → Value → Prop
  | .tmp t, v => lk env t = some v
  | .cell a t, v => ∃ b l tt r, lk env a = some (.pointer (some ⟨b, 0, none⟩)) ∧ Tk L (cel b l tt) r ∧ ((single P t = true ∧ l = [v]) ∨ (aggSize P t = some l.length ∧ v = .agg l.toArray))
def RvsS (P : Program) (env : Env) (L : List Ent) : List ResultVar → List Value → Prop
  | [], [] => True
  | r :: rs, v :: vs => RvS P env L r v ∧ RvsS P env L rs vs
  | _, _ => False
theorem RvsS.ok {P : Program} {env : Env} {m : Mp} {L : List Ent} {h : Heap} (hs : HS m L h) : ∀ {rs : List ResultVar} {vs : List Value}, RvsS P env L rs vs → RvsOk P env h rs vs
  | [], [], _ => trivial
  | .tmp _ :: _, _ :: _, hr => ⟨hr.1, RvsS.ok hs hr.2⟩
  | .cell a t :: _, v :: _, hr => by
    obtain ⟨⟨b, l, tt, r, h1, h2, h3⟩, hr2⟩ := hr
    have h4 : mp h b = some (.cells l.toArray tt (0, 0)) := hs.get h2
    refine ⟨⟨_, h1, ?_⟩, RvsS.ok hs hr2⟩
    rcases h3 with ⟨h5, rfl⟩ | ⟨h5, rfl⟩
    · exact .inl ⟨h5, mc_blk h4 rfl⟩
    · exact .inr ⟨l, h5, At.blk h4, rfl⟩
theorem CS_of {P : Program} {f : FuncId} {fn : Func} {c : Code} {l : List Value} {m : Mp} {pre : List Ent} {post : Value → List Ent → Prop} (rs : List ResultVar) (hf : P.funcs[f]? = some fn) (hb : fn.body = some c) (hrs : fn.results = rs.toArray)
    (hl : Nat.ble l.length fn.ntmps = true) (ht : TS P fn.ntmps c (env0 l 0) m pre (retC P rs (postS m post))) : CS P f l m pre post :=
  fun h hs => C_ofc rs hf hb hrs hl (ht h hs)
theorem QS_ret {P : Program} {rs : List ResultVar} {env : Env} {m : Mp} {L : List Ent} {post : Value → List Ent → Prop} (vs : List Value) (hv : RvsS P env L rs vs) (L' : List Ent) (hp : Pick L L') (hq : post (tup vs) L') : QS (retC P rs (postS m post)) .ret env m L :=
  fun h hs => ⟨vs, hv.ok hs, L', hq, hp m h hs⟩
theorem QS_retN {P : Program} {rs : List ResultVar} {env : Env} {m : Mp} {L : List Ent} {post : Value → List Ent → Prop} (vs : List Value) (hv : RvsS P env L rs vs) (L' : List Ent) (hp : Pick L L') (hq : post (tup vs) L') : QS (retC P rs (postS m post)) .normal env m L :=
  fun h hs => ⟨vs, hv.ok hs, L', hq, hp m h hs⟩

/-- the entries hold in this map -/
def HE (L : List Ent) (m : Mp) : Prop := ∀ e ∈ L, e.inv m
/-- what an entry leaves out of sight -/
def away (e : Ent) (m : Mp) : Mp := fun k => if e.dom k then none else m k
section
variable {P : Program} {n : Nat} {env : Env} {m : Mp} {L r : List Ent} {Q : Post} {K : Env → List Ent → Prop} {d : Nat} {ty : TypeId} {pos : String} {aft : Array Edge} {gd : Option (Nat × Bool)}

theorem HS.frame0 {h h' : Heap} {L' : List Ent} (hs : HS m L h) (hc : HS (mp h) L' h') : HS m (L' ++ L) h' := by
  have h0 := hs.le hc.base
  refine ⟨h0.base, fun e he => ?_, fun e he k hk => ?_, List.pairwise_append.2 ⟨hc.apart, h0.apart, fun a ha b hb k hk => ?_⟩⟩
  · rcases List.mem_append.1 he with he | he
    · exact hc.inv e he
    · exact h0.inv e he
  · rcases List.mem_append.1 he with he | he
    · exact Le.none hs.base (hc.out e he k hk)
    · exact h0.out e he k hk
  · cases hbk : b.dom k with
    | false => rfl
    | true => exact absurd (hc.out a ha k hk) (b.has (hs.inv b hb) hbk)
theorem HS.frame1 {h h' : Heap} {e : Ent} {L' : List Ent} (hs : HS m (e :: r) h) (hc : HS (away e (mp h)) L' h') : HS m (L' ++ r) h' := by
  obtain ⟨h1, h2, h3, h4⟩ := HS.cons_iff.1 hs
  have same : ∀ x ∈ r, ∀ k, x.dom k = true → away e (mp h) k = mp h k := fun x hx k hk => by
    unfold away
    rw [if_neg]
    intro he
    have := h4 x hx k he
    rw [hk] at this
    cases this
  have keep : ∀ k o, away e (mp h) k = some o → mp h' k = some o := hc.base
  have same2 : ∀ x ∈ r, ∀ k, x.dom k = true → mp h' k = mp h k := fun x hx k hk => by
    have h5 := same x hx k hk
    cases h6 : mp h k with
    | none => exact absurd h6 (x.has (h1.inv x hx) hk)
    | some o => exact keep k o (by rw [h5, h6])
  have base : Le m (away e (mp h)) := fun k o hk => by
    unfold away
    rw [if_neg]
    · exact h1.base k o hk
    · intro he; rw [h3 k he] at hk; cases hk
  refine ⟨base.trans hc.base, fun x hx => ?_, fun x hx k hk => ?_, List.pairwise_append.2 ⟨hc.apart, h1.apart, fun a ha b hb k hk => ?_⟩⟩
  · rcases List.mem_append.1 hx with hx | hx
    · exact hc.inv x hx
    · exact x.loc (same2 x hx) (h1.inv x hx)
  · rcases List.mem_append.1 hx with hx | hx
    · exact Le.none base (hc.out x hx k hk)
    · exact h1.out x hx k hk
  · cases hbk : b.dom k with
    | false => rfl
    | true =>
      have h5 := hc.out a ha k hk
      rw [same b hb k hbk] at h5
      exact absurd h5 (b.has (h1.inv b hb) hbk)
theorem HS.away {h : Heap} {e : Ent} (hs : HS m (e :: r) h) : HS (away e (mp h)) [e] h ∧ Le m (away e (mp h)) ∧ HE r (Eng.away e (mp h)) := by
  obtain ⟨h1, h2, h3, h4⟩ := HS.cons_iff.1 hs
  refine ⟨⟨fun k o hk => ?_, fun x hx => ?_, fun x hx k hk => ?_, List.pairwise_singleton _ _⟩, fun k o hk => ?_, fun x hx => ?_⟩
  · unfold Eng.away at hk
    split at hk
    · cases hk
    · exact hk
  · rw [List.mem_singleton.1 hx]; exact h2
  · rw [List.mem_singleton.1 hx] at hk
    simp [Eng.away, hk]
  · unfold Eng.away
    rw [if_neg]
    · exact h1.base k o hk
    · intro he; rw [h3 k he] at hk; cases hk
  · refine x.loc (fun k hk => ?_) (h1.inv x hx)
    unfold Eng.away
    rw [if_neg]
    intro he
    have := h4 x hx k he
    rw [hk] at this
    cases this

/-- a call that needs nothing of the call's own but to read it -/
theorem S_call {f : FuncId} {args : List Operand} {ats : Array TypeId} {vs : List Value} {post : Value → List Ent → Prop} (hcl : callable P f = true) (hx : evs env args = some vs) (hc : ∀ m', Le m m' → HE L m' → CS P f vs m' [] post) (hn : Nat.blt d n = true)
    (hk : ∀ v L', post v L' → K ((d, v) :: env) (L' ++ L)) : StepS P n Q ⟨some d, .call ⟨.value (.func f), args.toArray, ats⟩, ty, pos, aft, gd⟩ env m L true K := fun h hs =>
  E_call hcl hx (hc (mp h) hs.base hs.inv h (HS.nil (Le.refl _))) hn fun v h' ⟨L', h1, h2⟩ => ⟨fun _ => h2.base, _, hs.frame0 h2, hk v L' h1⟩
/-- a call that makes nothing that is told -/
theorem S_callR {f : FuncId} {args : List Operand} {ats : Array TypeId} {vs : List Value} {R : Value → Prop} (hcl : callable P f = true) (hx : evs env args = some vs) (hc : ∀ m', Le m m' → HE L m' → CS P f vs m' [] fun v L' => R v ∧ L' = []) (hn : Nat.blt d n = true)
    (hk : ∀ v, R v → K ((d, v) :: env) L) : StepS P n Q ⟨some d, .call ⟨.value (.func f), args.toArray, ats⟩, ty, pos, aft, gd⟩ env m L true K :=
  S_call hcl hx hc hn fun v L' ⟨h1, h2⟩ => by subst h2; exact hk v h1
/-- a call of a function value -/
theorem S_callV {f : FuncId} {fv : Operand} {args : List Operand} {ats : Array TypeId} {vs p q : List Value} {post : Value → List Ent → Prop} (hcl : callable P f = true) (hf : ev env fv = some (.func (.func f) p.toArray q.toArray)) (hx : evs env args = some vs)
    (hc : ∀ m', Le m m' → HE L m' → CS P f ((p ++ vs) ++ q) m' [] post) (hn : Nat.blt d n = true) (hk : ∀ v L', post v L' → K ((d, v) :: env) (L' ++ L)) : StepS P n Q ⟨some d, .call ⟨.value fv, args.toArray, ats⟩, ty, pos, aft, gd⟩ env m L true K := fun h hs =>
  E_callV (R := postS (mp h) post) hcl hf hx (hc (mp h) hs.base hs.inv h (HS.nil (Le.refl _))) hn fun v h' ⟨L', h1, h2⟩ => ⟨fun _ => h2.base, _, hs.frame0 h2, hk v L' h1⟩
/-- contracts of the older kind -/
theorem CS.ofLe {f : FuncId} {vs : List Value} {R : Value → Prop} (hc : ∀ h, Le m (mp h) → C P f vs.toArray h fun v h' => R v ∧ Le (mp h) (mp h')) : CS P f vs m [] fun v L' => R v ∧ L' = [] := fun h hs =>
  (hc h hs.base).mono fun _ _ ⟨h1, h2⟩ => ⟨[], ⟨h1, rfl⟩, HS.nil (hs.base.trans h2)⟩
theorem CS.toLe {f : FuncId} {vs : List Value} {post : Value → List Ent → Prop} {h : Heap} (hc : CS P f vs (mp h) [] post) : C P f vs.toArray h fun v h' => (∃ L', post v L') ∧ Le (mp h) (mp h') :=
  (hc h (HS.nil (Le.refl _))).mono fun _ _ ⟨L', h1, h2⟩ => ⟨⟨L', h1⟩, h2.base⟩
end
end Go.Eng

namespace Go.Eng
/-- the byte at a place, as a number -/
def by_ (s : List UInt8) (i : Nat) : Nat := (s.getD i 0).toNat
section
variable {P : Program} {n : Nat} {env : Env} {dst : Option Tmp} {ty : TypeId} {pos : String} {aft : Array Edge} {gd : Option (Nat × Bool)} {t yt : TypeId} {x y : Operand} {k : IntKind} {a b : Nat}
theorem P_addN (hx : ev env x = some (.int .i64 (a : Nat))) (hy : ev env y = some (.int .i64 (b : Nat))) (hr : a + b ≤ 9223372036854775807) : PureV P n ⟨dst, .binOp .add t x y yt, ty, pos, aft, gd⟩ env (.int .i64 ((a + b : Nat) : Int)) :=
  P_add hx hy (by rw [w64 (by omega) (by omega)]; simp)
theorem P_mulN (hx : ev env x = some (.int .i64 (a : Nat))) (hy : ev env y = some (.int .i64 (b : Nat))) (hr : a * b ≤ 9223372036854775807) : PureV P n ⟨dst, .binOp .mul t x y yt, ty, pos, aft, gd⟩ env (.int .i64 ((a * b : Nat) : Int)) :=
  P_mul hx hy (by rw [w64 (by have : (0 : Int) ≤ (a : Int) * (b : Int) := Int.mul_nonneg (by omega) (by omega); omega) (by have := Int.ofNat_le.2 hr; rw [Int.natCast_mul] at this; omega)]; exact (Int.natCast_mul a b).symm)
theorem P_indexAddrN {A : Option Addr} {m c sz : Nat} (ht : esz P t = some sz) (hx : ev env x = some (.slice A m c)) (hy : ev env y = some (.int k (a : Nat))) (hA : A.isSome = true) (h1 : a < m) :
    PureV P n ⟨dst, .indexAddr t x y, ty, pos, aft, gd⟩ env (.pointer (some ((sa A).add (a * sz)))) := P_indexAddr ht hx hy hA (by omega) (by omega)
theorem P_indexAddr1N {A : Option Addr} {m c : Nat} (ht : esz P t = some 1) (hx : ev env x = some (.slice A m c)) (hy : ev env y = some (.int k (a : Nat))) (hA : A.isSome = true) (h1 : a < m) :
    PureV P n ⟨dst, .indexAddr t x y, ty, pos, aft, gd⟩ env (.pointer (some ((sa A).add a))) := P_indexAddr1 ht hx hy hA (by omega) (by omega)
end
section
variable {P : Program} {n : Nat} {env : Env} {m : Mp} {L : List Ent} {Q : Post} {K : Env → List Ent → Prop} {d : Nat} {ty : TypeId} {pos : String} {aft : Array Edge} {gd : Option (Nat × Bool)} {x : Operand}
end
end Go.Eng

namespace Go.Eng

def entsM : Nat → List (List UInt8 × Value) → List MapEntry
  | _, [] => []
  | i, (k, v) :: r => ⟨.string (bs k), v, i⟩ :: entsM (i + 1) r
/-- where a key stands, and what there is -/
def findM (k : List UInt8) : Nat → List (List UInt8 × Value) → Option (Nat × Value)
  | _, [] => none
  | i, (k', v) :: r => if k = k' then some (i, v) else findM k (i + 1) r
def getM (es : List (List UInt8 × Value)) (k : List UInt8) : Option Value := (findM k 0 es).map (·.2)
def putM (es : List (List UInt8 × Value)) (k : List UInt8) (v : Value) : List (List UInt8 × Value) := match findM k 0 es with
  | some (i, _) => es.set i (k, v)
  | none => es ++ [(k, v)]
def smap (r : Nat) (es : List (List UInt8 × Value)) : Ent := blk r (.map (entsM 0 es).toArray es.length)
/-- a map's type whose keys are strings: its elements' type -/
def mapStr (P : Program) (t : TypeId) : Option TypeId := match P.underlying t with
  | some (.map kt et) => match P.underlying kt with
    | some .string => some et
    | _ => none
  | _ => none
theorem mapStr_spec {P : Program} {t et : TypeId} (h : mapStr P t = some et) : ∃ kt, P.underlying t = some (.map kt et) ∧ P.underlying kt = some .string := by
  unfold mapStr at h
  split at h
  · rename_i kt et' hu
    split at h
    · rename_i hk; simp only [Option.some.injEq] at h; subst h; exact ⟨kt, hu, hk⟩
    · cases h
  · cases h
theorem bs_inj {a b : List UInt8} : (bs a == bs b) = decide (a = b) := by
  show ((bs a).data == (bs b).data) = _
  rw [Bool.eq_iff_iff, beq_iff_eq, decide_eq_true_eq]
  simp [bs]
theorem findNow_str (k : List UInt8) : ∀ (es : List (List UInt8 × Value)) (i j : Nat), Instr.findNow .string (.string (bs k)) (entsM j es) i = some (findM k i es)
  | [], _, _ => rfl
  | (k', v) :: r, i, j => by
    unfold entsM Instr.findNow
    simp only [Instr.sameNow, bs_inj]
    by_cases h : k = k'
    · simp [h, findM]
    · simp only [h, decide_false]
      rw [findNow_str k r (i + 1) (j + 1)]
      simp [findM, h]
theorem findM_lt {k : List UInt8} : ∀ {es : List (List UInt8 × Value)} {i j : Nat} {v : Value}, findM k i es = some (j, v) → i ≤ j ∧ es[j - i]? = some (k, v)
  | [], _, _, _, h => by cases h
  | (k', v') :: r, i, j, v, h => by
    unfold findM at h
    split at h
    · rename_i hk
      injection h with h
      injection h with h1 h2
      subst h1 h2 hk
      simp
    · obtain ⟨h1, h2⟩ := findM_lt h
      refine ⟨by omega, ?_⟩
      rw [show j - i = (j - (i + 1)) + 1 by omega]
      simpa using h2
theorem entsM_get : ∀ (es : List (List UInt8 × Value)) (i j : Nat), (entsM i es)[j]? = (es[j]?).map fun p => ⟨.string (bs p.1), p.2, i + j⟩
  | [], _, _ => by simp [entsM]
  | (k, v) :: r, i, 0 => by simp [entsM]
  | (k, v) :: r, i, j + 1 => by simp [entsM, entsM_get r (i + 1) j]; congr 1; funext p; congr 1; omega
theorem entsM_snoc (es : List (List UInt8 × Value)) (i : Nat) (k : List UInt8) (v : Value) : entsM i (es ++ [(k, v)]) = entsM i es ++ [⟨.string (bs k), v, i + es.length⟩] := by
  induction es generalizing i with
  | nil => simp [entsM]
  | cons p r ih => obtain ⟨k', v'⟩ := p; simp only [List.cons_append, entsM, ih, List.length_cons]; rw [show i + 1 + r.length = i + (r.length + 1) by omega]
theorem entsM_set (es : List (List UInt8 × Value)) (i j : Nat) (k : List UInt8) (v v0 : Value) (h : es[j]? = some (k, v0)) : entsM i (es.set j (k, v)) = (entsM i es).modify j fun e => { e with key := .string (bs k), val := v } := by
  induction es generalizing i j with
  | nil => simp at h
  | cons p r ih =>
    obtain ⟨k', v'⟩ := p
    cases j with
    | zero => simp at h; obtain ⟨rfl, rfl⟩ := h; simp [entsM]
    | succ j => simp only [List.set_cons_succ, entsM, List.modify_succ_cons, ih _ _ (by simpa using h)]

section
variable {P : Program} {n : Nat} {env : Env} {m : Mp} {L r : List Ent} {Q : Post} {K : Env → List Ent → Prop} {dst : Option Tmp} {d : Nat} {ty : TypeId} {pos : String} {aft : Array Edge} {gd : Option (Nat × Bool)} {t et : TypeId} {x y z : Operand} {v : Value}

theorem S_makeMap (hn : Nat.blt d n = true) (hk : ∀ b, K ((d, .map (some b)) :: env) (smap b [] :: L)) : StepS P n Q ⟨some d, .makeMap t none, ty, pos, aft, gd⟩ env m L true K := fun h hs =>
  step_of_run rfl hn fun fx dr a ha => by
    refine ⟨h.push (.map #[] 0), dr, ?_, fun _ => mp_push h _, _, hs.new (e' := smap h.size []) (mp_push h _) (mp_push_new h _) (fun k hk => by have := dom_cel hk; subst this; exact mp_none h), hk _⟩
    simp [execOp, Instr.makeMap, newObj, Sem.run, W]

theorem run_getObj {w : World} {b c : Nat} {es : Array MapEntry} (hb : w.heap[b]? = some (.map es c)) : (getObj b).run P w = .ok (.map es c) w := by simp [getObj, Sem.run, hb]
theorem run_setObj {w : World} {b c : Nat} {es : Array MapEntry} {o' : Obj} (hb : w.heap[b]? = some (.map es c)) : (setObj b o').run P w = .ok () { w with heap := w.heap.setIfInBounds b o' } := by simp [setObj, Sem.run, hb]
theorem run_findKey_str {w : World} {kt : TypeId} (hk : P.underlying kt = some .string) (k : List UInt8) (es : List (List UInt8 × Value)) : (Instr.findKey kt (.string (bs k)) (entsM 0 es)).run P w = .ok (findM k 0 es) w := by
  simp only [Instr.findKey, Sem.run_bind, run_underlying hk, Result.andThen_ok, findNow_str]
  rfl
theorem run_checkKey_str {w : World} {kt : TypeId} (b : Bool) (hk : P.underlying kt = some .string) (k : List UInt8) : (Instr.checkKey b 10000 kt (.string (bs k))).run P w = .ok () w := by
  show (Instr.checkKey b (9999 + 1) kt (.string (bs k))).run P w = .ok () w
  rw [Instr.checkKey]
  simp only [Sem.run_bind, run_underlying hk, Result.andThen_ok]
  rfl

/-- a look into a map of the call's own -/
theorem run_lookup_own {fx : Fx} {h : Heap} {dr b : Nat} {es : List (List UInt8 × Value)} {k : List UInt8} {zv : Value} {cm : Bool} (ht : mapStr P t = some et) (hb : mp h b = some (.map (entsM 0 es).toArray es.length)) (hz : ∀ w, (zeroValue et).run P w = .ok zv w) :
    (Instr.lookup t (.map (some b)) (.string (bs k)) cm).run P (W fx h dr) = .ok (if cm then .tuple #[(getM es k).getD zv, .bool (getM es k).isSome] else (getM es k).getD zv) (W fx h dr) := by
  obtain ⟨kt, h1, h2⟩ := mapStr_spec ht
  have hb' : (W fx h dr).heap[b]? = some (.map (entsM 0 es).toArray es.length) := hb
  simp only [Instr.lookup, Sem.run_bind, run_underlying h1, Result.andThen_ok, run_getObj hb', run_checkKey_str _ h2, Sem.run_pure]
  have hfk := run_findKey_str (P := P) (w := W fx h dr) h2 k es
  simp only [hfk, Result.andThen_ok]
  unfold getM
  cases hf : findM k 0 es with
  | none => simp [hz]
  | some p => simp
theorem S_lookup2 {b : Nat} {es : List (List UInt8 × Value)} {k : List UInt8} {zv : Value} (ht : mapStr P t = some et) (hx : ev env x = some (.map (some b))) (hy : ev env y = some (.string (bs k))) (hT : Tk L (smap b es) r) (hzz : ∀ w, (zeroValue et).run P w = .ok zv w) :
    ∀ h, HS m L h → ReadV P n ⟨dst, .lookup t x y true, ty, pos, aft, gd⟩ env h (.tuple [(getM es k).getD zv, .bool (getM es k).isSome].toArray) := fun h hs a w ha hl => by
  have h1 : mp w.heap b = some (.map (entsM 0 es).toArray es.length) := hl _ _ (hs.get hT)
  have := run_lookup_own (P := P) (fx := ⟨w.tape, w.os, w.output, []⟩) (h := w.heap) (dr := w.drawn) (cm := true) (k := k) ht h1 hzz
  simp only [execOp, ha.eval hx, ha.eval hy, Sem.run_bind]
  rw [← W_of] at this
  rw [this]
  rfl
/-- the zero of a type of one cell -/
def zero1 (P : Program) (t : TypeId) (v : Value) : Prop := ∀ w, (zeroValue t).run P w = .ok v w
theorem zero1_of {i : TypeInfo} (h : P.info? t = some i) (hz : i.zero = some v) : zero1 P t v := fun w => by simp [zeroValue, typeInfo, h, hz]

theorem S_mapUpdate {b : Nat} {es : List (List UInt8 × Value)} {k : List UInt8} {L' : List Ent} (ht : mapStr P t = some et) (hx : ev env x = some (.map (some b))) (hy : ev env y = some (.string (bs k))) (hz : ev env z = some v)
    (hT : Sel L (smap b es) (smap b (putM es k v)) L') (hk : K env L') : StepS P n Q ⟨none, .mapUpdate t x y z, ty, pos, aft, gd⟩ env m L false K := fun h hs => by
  obtain ⟨r, g1, g2⟩ := hT.split
  have h3 := hs.take g1
  have hb : mp h b = some (.map (entsM 0 es).toArray es.length) := h3.head
  have hblt := mp_some hb
  obtain ⟨kt, u1, u2⟩ := mapStr_spec ht
  have put : ∀ o : Obj, (smap b (putM es k v)).inv (mp (h.setIfInBounds b o)) → HS m L' (h.setIfInBounds b o) := fun o ho =>
    (h3.upd (e' := smap b (putM es k v)) (fun j _ hj => by
      have hne : b ≠ j := by rintro rfl; simp [smap, blk] at hj
      simp [mp, Array.getElem?_setIfInBounds, hne]) ho fun j hj => .inl hj).untake g2
  refine step_of_skip rfl fun fx dr a ha => ?_
  have hb' : (W fx h dr).heap[b]? = some (.map (entsM 0 es).toArray es.length) := hb
  have hfk := run_findKey_str (P := P) (w := W fx h dr) u2 k es
  cases hf : findM k 0 es with
  | none =>
    rw [hf] at hfk
    refine ⟨h.setIfInBounds b (.map ((entsM 0 es).toArray.push ⟨.string (bs k), v, es.length⟩) (es.length + 1)), dr, ?_, fun hh => (by cases hh), L', put _ ?_, hk⟩
    · simp only [execOp, ha.eval hx, ha.eval hy, ha.eval hz, Instr.mapUpdate, Sem.run_bind, run_underlying u1, Result.andThen_ok, run_getObj hb', run_checkKey_str _ u2, hfk, run_setObj hb', Sem.run_pure]
      rfl
    · show mp _ b = _
      simp only [putM, hf, entsM_snoc, Nat.zero_add]
      simp [mp, hblt]
  | some p =>
    obtain ⟨i, v0⟩ := p
    rw [hf] at hfk
    obtain ⟨_, hg⟩ := findM_lt hf
    simp only [Nat.sub_zero] at hg
    have hgi : ((entsM 0 es).toArray)[i]? = some ⟨.string (bs k), v0, i⟩ := by rw [List.getElem?_toArray, entsM_get, hg]; simp
    have hkey : (((entsM 0 es).toArray[i]?).map (·.key)).getD (.string (bs k)) = .string (bs k) := by rw [hgi]; rfl
    have hst : (Instr.keyThatStays (.string (bs k)) (.string (bs k))).run P (W fx h dr) = .ok (.string (bs k)) (W fx h dr) := by
      unfold Instr.keyThatStays
      rw [if_pos]
      · rfl
      · show Instr.sameBits (9999 + 1) _ _ = true
        show (bs k == bs k) = true
        rw [bs_inj]
        simp
    refine ⟨h.setIfInBounds b (.map ((entsM 0 es).toArray.modify i fun e => { e with key := .string (bs k), val := v }) es.length), dr, ?_, fun hh => (by cases hh), L', put _ ?_, hk⟩
    · simp only [execOp, ha.eval hx, ha.eval hy, ha.eval hz, Instr.mapUpdate, Sem.run_bind, run_underlying u1, Result.andThen_ok, run_getObj hb', run_checkKey_str _ u2, hfk, hkey, hst, run_setObj hb', Sem.run_pure]
      rfl
    · show mp _ b = _
      simp only [putM, hf, entsM_set es 0 i k v v0 hg, List.length_set]
      simp [mp, hblt]
end
end Go.Eng

namespace Go.Eng
inductive Dt where
  | i (k : IntKind) (n : Int)
  | s (t : List UInt8)
  | b (x : Bool)
deriving DecidableEq
inductive Dk where
  | i (k : IntKind)
  | s
  | b
deriving DecidableEq
def Dt.v : Dt → Value
  | .i k n => .int k n
  | .s t => .string (bs t)
  | .b x => .bool x
def Dt.k : Dt → Dk
  | .i k _ => .i k
  | .s _ => .s
  | .b _ => .b
def fkOf : TypeDesc → Option Dk
  | .int k => some (.i k)
  | .string => some .s
  | .bool => some .b
  | _ => none
def flatGs (P : Program) : Nat → List Field → Option (List Dk)
  | _, [] => some []
  | o, f :: fs => match (P.underlying f.type).bind fkOf with
    | some k => if f.name ≠ "_" ∧ f.offset = o then (flatGs P (o + 1) fs).map (k :: ·) else none
    | none => none
def flatG (P : Program) (t : TypeId) : Option (List Dk) := if P.stoodInHeld t || P.eqGuardType P.depth t then none else match P.underlying t with
  | some (.struct fs) => flatGs P 0 fs.toList
  | _ => none
theorem run_equal_fd {P : Program} {w : World} {d t : Nat} {k : Dk} {x y : Dt} (hu : (P.underlying t).bind fkOf = some k) (hx : x.k = k) (hy : y.k = k) : (Op.equalIn (d + 1) t x.v y.v).run P w = .ok (decide (x = y)) w := by
  cases hd : P.underlying t with
  | none => rw [hd] at hu; cases hu
  | some td =>
    rw [hd] at hu
    simp only [Option.bind_some] at hu
    cases td <;> simp only [fkOf, Option.some.injEq, reduceCtorEq] at hu
    all_goals (subst hu; cases x <;> simp only [Dt.k, Dk.i.injEq, reduceCtorEq] at hx <;> cases y <;> simp only [Dt.k, Dk.i.injEq, reduceCtorEq] at hy)
    · simp [Op.equalIn, run_underlying hd, Dt.v]; rfl
    · subst hx hy; simp [Op.equalIn, run_underlying hd, Dt.v]; rfl
    · simp [Op.equalIn, run_underlying hd, Dt.v, bs_inj]
theorem single_fk {P : Program} {t : Nat} {k : Dk} (hu : (P.underlying t).bind fkOf = some k) : single P t = true := by
  unfold single
  cases hd : P.underlying t with
  | none => rw [hd] at hu; cases hu
  | some td => rw [hd] at hu; cases td <;> simp [fkOf] at hu ⊢
theorem eqFields_fd {P : Program} {d : Nat} {w : World} {xs ys : Array Value} : ∀ {fs : List Field} {ks : List Dk} {o : Nat} {as bs : List Dt}, flatGs P o fs = some ks → as.map Dt.k = ks → bs.map Dt.k = ks →
    (∀ i u, (as.map Dt.v)[i]? = some u → xs[o + i]? = some u) → (∀ i u, (bs.map Dt.v)[i]? = some u → ys[o + i]? = some u) → (Op.eqFields (d + 1) xs ys fs).run P w = .ok (decide (as = bs)) w
  | [], ks, o, as, bs, hf, ha, hb, _, _ => by
    simp only [flatGs, Option.some.injEq] at hf
    subst hf
    have e1 : as = [] := by simpa using ha
    have e2 : bs = [] := by simpa using hb
    subst e1 e2
    simp [Op.eqFields]
  | f :: fs, ks, o, as, bs, hf, ha, hb, hx, hy => by
    unfold flatGs at hf
    split at hf
    · rename_i k hu
      split at hf
      · rename_i hc
        obtain ⟨hn, ho⟩ := hc
        cases hr : flatGs P (o + 1) fs with
        | none => rw [hr] at hf; cases hf
        | some ks' =>
          rw [hr] at hf
          simp only [Option.map_some, Option.some.injEq] at hf
          subst hf
          match as, bs, ha, hb with
          | a :: as, b :: bs, ha, hb =>
            simp only [List.map_cons, List.cons.injEq] at ha hb
            have h1 := hx 0 a.v (by simp)
            have h2 := hy 0 b.v (by simp)
            have ih := eqFields_fd (P := P) (d := d) (w := w) (xs := xs) (ys := ys) hr ha.2 hb.2
              (fun i u hi => by have := hx (i + 1) u (by simpa using hi); rwa [show o + (i + 1) = o + 1 + i by omega] at this)
              (fun i u hi => by have := hy (i + 1) u (by simpa using hi); rwa [show o + (i + 1) = o + 1 + i by omega] at this)
            have hs := single_fk hu
            have he := run_equal_fd (P := P) (w := w) (d := d) hu ha.1 hb.1
            subst ho
            simp only [Nat.add_zero] at h1 h2
            simp [Op.eqFields, hn, part, single_spec hs, h1, h2, he]
            by_cases hab : a = b
            · subst hab; simp [ih]
            · simp [hab]
      · cases hf
    · cases hf
section
variable {P : Program} {n : Nat} {env : Env} {dst : Option Tmp} {ty : TypeId} {pos : String} {aft : Array Edge} {gd : Option (Nat × Bool)} {t yt : Nat} {x y : Operand} {ks : List Dk} {as bs : List Dt}
theorem run_structEq (hk : flatG P t = some ks) (ha : as.map Dt.k = ks) (hb : bs.map Dt.k = ks) (w : World) :
    (∀ op, (eqGuard op t x y (.agg (as.map Dt.v).toArray) (.agg (bs.map Dt.v).toArray)).run P w = .ok () w) ∧ (Op.equal t (.agg (as.map Dt.v).toArray) (.agg (bs.map Dt.v).toArray)).run P w = .ok (decide (as = bs)) w := by
  unfold flatG at hk
  split at hk
  · cases hk
  · rename_i hno
    simp only [Bool.or_eq_true, not_or, Bool.not_eq_true] at hno
    split at hk
    · rename_i fs hu
      refine ⟨fun op => ?_, ?_⟩
      · unfold eqGuard
        simp [hno.2]
      · have hf : P.fieldsOf t = fs := by unfold Program.fieldsOf; rw [hu]
        have hu' : P.underlying t = some (.struct (P.fieldsOf t)) := by rw [hf]; exact hu
        show (Op.equalIn (9998 + 1 + 1) t _ _).run P w = _
        rw [run_equalIn_struct w (9998 + 1) t _ _ hu' hno.1, hf]
        exact eqFields_fd hk ha hb (fun i u hi => by simpa using hi) (fun i u hi => by simpa using hi)
    · cases hk
theorem P_structNeq (as bs : List Dt) (hk : flatG P t = some ks) (ha : as.map Dt.k = ks) (hb : bs.map Dt.k = ks) (hx : ev env x = some (.agg (as.map Dt.v).toArray)) (hy : ev env y = some (.agg (bs.map Dt.v).toArray)) :
    PureV P n ⟨dst, .binOp .neq t x y yt, ty, pos, aft, gd⟩ env (.bool (decide (¬ as = bs))) := by
  intro a w hag
  obtain ⟨h1, h2⟩ := run_structEq (x := x) (y := y) hk ha hb w
  simp [execOp, hag.eval hx, hag.eval hy, h1, binOp, h2]
end
section
variable {P : Program} {n : Nat} {env : Env} {m : Mp} {L r : List Ent} {dst : Option Tmp} {ty : TypeId} {pos : String} {aft : Array Edge} {gd : Option (Nat × Bool)} {t : TypeId} {x y : Operand} {v : Value}
end
section
variable {P : Program} {n : Nat} {env : Env} {m : Mp} {L r : List Ent} {Q : Post} {p : Prop} {l0 l : List Oper}
end
end Go.Eng

namespace Go.Eng
/-- no deferred call is laid by these operations -/
def noDefer (l : List Oper) : Bool := l.all fun o => match o.op with
  | .defer _ => false
  | _ => true
section
variable {P : Program} {Q : Exit → Act → World → Prop} {next : Act → World → Prop}
end
/-- in a round -/
def TR (P : Program) (n : Nat) (c : Code) (env : Env) (m : Mp) (L : List Ent) (Q : Post) : Prop :=
  ∀ h, HS m L h → ∀ (x : Fx) (d : Nat) (a : Act) (l k : Nat), AgD n x env a → c.wpIn (Fence.wide.inRound l) k P (lift n x Q) a (W x h d)
section
variable {P : Program} {n : Nat} {env : Env} {m : Mp} {L : List Ent} {Q : Post}
/-- no way out of the room -/
def Roomy (Q : Post) : Prop := ∀ env h, ¬ Q .outgrown env h
theorem Roomy.lets {x : Fx} (h : Roomy Q) : ¬ LetsOut (lift n x Q) := fun ⟨_, _, _, _, _, _, _, hq⟩ => h _ _ hq
/-- what a step of code leaves, where it goes on -/
def midQ (m : Mp) (K : Env → List Ent → Prop) (Q : Post) : Post
  | .normal, env, h => ∃ L', HS m L' h ∧ K env L'
  | .ret, env, h => Q .ret env h
  | _, _, _ => False
end
/-! ### code at one world -/
section
variable {P : Program} {n : Nat} {env : Env} {m : Mp} {L : List Ent} {Q : Exit → Act → World → Prop} {x : Fx} {h : Heap} {d : Nat} {a : Act} {K : Env → List Ent → Prop}
def noQ : Post := fun _ _ _ => False
variable {l l0 : List Oper} {o : Oper} {v : Value} {t : Nat} {k : Nat} {w : World}
end
/-! ### a function value asked whether it is nil -/
def isFuncT (P : Program) (t : TypeId) : Bool := if P.eqGuardType P.depth t then false else match P.underlying t with
  | some (.func ..) => true
  | _ => false
/-! ### entries that are cells alone -/
def CellsOnly (e : Ent) : Prop := ∀ (m : Mp) (k : Nat), e.inv m → e.dom k = true → ∃ o : Obj, m k = some o ∧ o.isCells = true
section
variable {m : Mp} {L : List Ent} {h h' : Heap}
theorem HS.grow {row : Option Nat} (hs : HS m L h) (hc : ∀ e ∈ L, CellsOnly e) (hg : ∀ k, k < h.size → some k ≠ row → h'[k]? = h[k]?) (hrow : ∀ r, row = some r → m r = none ∧ ∃ o : Obj, h[r]? = some o ∧ o.isCells = false) : HS m L h' := by
  refine ⟨fun k o hk => ?_, fun e he => ?_, hs.out, hs.apart⟩
  · have h1 := hs.base k o hk
    have hlt : k < h.size := (Array.getElem?_eq_some_iff.1 h1).1
    refine (hg k hlt ?_).trans h1
    intro e
    rw [(hrow k e.symm).1] at hk
    cases hk
  · refine e.loc (fun k hk => ?_) (hs.inv e he)
    obtain ⟨o, h1, h2⟩ := hc e he _ k (hs.inv e he) hk
    have hlt : k < h.size := (Array.getElem?_eq_some_iff.1 h1).1
    refine hg k hlt ?_
    intro e'
    obtain ⟨_, o', g1, g2⟩ := hrow k e'.symm
    rw [show h[k]? = some o from h1] at g1
    cases g1
    rw [h2] at g2
    cases g2
/-- the heap but for the entries' blocks -/
def awayL (L : List Ent) (m : Mp) : Mp := fun k => if L.any (·.dom k) then none else m k
theorem HS.awayL (hs : HS m L h) : HS (awayL L (mp h)) L h := by
  refine ⟨fun k o hk => ?_, hs.inv, fun e he k hk => ?_, hs.apart⟩
  · unfold Eng.awayL at hk
    split at hk
    · cases hk
    · exact hk
  · unfold Eng.awayL
    rw [if_pos (List.any_eq_true.2 ⟨e, he, hk⟩)]
end
end Go.Eng

namespace Go.Eng
/-- one panic -/
def pan (v : Value) : List PanicEntry := [{ v, recovered := false }]
/-- Called in the heap h the function returns a value (R), or panics with one (Rp). -/
def CP (P : Program) (f : FuncId) (args : Array Value) (h : Heap) (R Rp : Value → Heap → Prop) : Prop :=
  ∀ (x : Fx) (d : Nat), Calls P f args (W x h d) fun e w' => ∃ v h' d', w' = W x h' d' ∧ ((e = .returned v ∧ R v h') ∨ (e = .panicked (pan v) ∧ Rp v h'))
theorem CP.of {P : Program} {f : FuncId} {args : Array Value} {h : Heap} {R Rp : Value → Heap → Prop} (hc : C P f args h R) : CP P f args h R Rp := fun x d =>
  (hc x d).mono fun _ _ ⟨v, h', d', h1, h2, h3⟩ => ⟨v, h', d', h2, .inl ⟨h1, h3⟩⟩
/-- what is asked at the end of a body -/
def retP (P : Program) (rs : List ResultVar) (R Rp : Value → Heap → Prop) : Post
  | .normal, env, h => ∃ vs, RvsOk P env h rs vs ∧ R (tup vs) h
  | .ret, env, h => ∃ vs, RvsOk P env h rs vs ∧ R (tup vs) h
  | .panic c, _, h => ∃ v, c = pan v ∧ Rp v h
  | _, _, _ => False
section
variable {P : Program} {n : Nat} {env : Env} {h : Heap} {Q : Post} {K : Env → Heap → Prop} {d : Nat} {ty : TypeId} {pos : String} {aft : Array Edge} {gd : Option (Nat × Bool)}
theorem E_callP {f : FuncId} {args : List Operand} {ats : Array TypeId} {vs : List Value} {R Rp : Value → Heap → Prop} (hcl : callable P f = true) (hx : evs env args = some vs) (hc : CP P f vs.toArray h R Rp) (hn : Nat.blt d n = true)
    (hk : ∀ v h', R v h' → K ((d, v) :: env) h') (hp : ∀ v h', Rp v h' → Q (.panic (pan v)) env h') : Step P n Q ⟨some d, .call ⟨.value (.func f), args.toArray, ats⟩, ty, pos, aft, gd⟩ env h K := by
  intro fx dr a ha
  have h1 := evs_ok ha.toAg hx
  have h2 : (execOp a.eval ⟨some d, .call ⟨.value (.func f), args.toArray, ats⟩, ty, pos, aft, gd⟩).run P (W fx h dr) = .ok (.enter f vs.toArray) (W fx h dr) := by
    simp only [execOp, resolve, h1, Act.eval, Deferred.ofValue, Sem.run_bind, Sem.run_pure, Result.andThen_ok, invoke, Array.empty_append, Array.append_empty]
    exact callable_spec hcl _ _
  unfold Oper.wp
  rw [h2, Oper.upon_enter]
  refine (hc fx dr).mono ?_
  rintro e w' ⟨v, h', d', rfl, ⟨rfl, hr⟩ | ⟨rfl, hr⟩⟩
  · exact ⟨_, h', d', ha.put d v (by simpa [Nat.blt_eq] using hn), rfl, hk v h' hr⟩
  · exact ⟨_, h', d', ha, rfl, hp v h' hr⟩
end
/-! ### what an interface value holds -/
section
variable {P : Program} {n : Nat} {env : Env} {dst : Option Tmp} {ty : TypeId} {pos : String} {aft : Array Edge} {gd : Option (Nat × Bool)} {x : Operand} {t u xt : TypeId} {v zv : Value}
end
/-! ### a method asked of an interface value -/
section
variable {P : Program} {n : Nat} {env : Env} {h : Heap} {m : Mp} {L : List Ent} {Q : Post} {d : Nat} {ty : TypeId} {pos : String} {aft : Array Edge} {gd : Option (Nat × Bool)}
end
/-! ### a read that may come up before or behind a store -/
section
variable {P : Program} {n : Nat} {env : Env} {m : Mp} {L : List Ent} {Q : Post} {l : List Oper} {wild : Nat → Bool} {t : OT} {o : Oper} {v : Value} {d i : Nat}
end
end Go.Eng

namespace Go.Eng
/-! ### a store of what is there already -/
theorem HS.congr {m : Mp} {L : List Ent} {h h' : Heap} (hs : HS m L h) (e : mp h' = mp h) : HS m L h' := ⟨by rw [e]; exact hs.base, by rw [e]; exact hs.inv, hs.out, hs.apart⟩
/-- a cell that reads v and may be stored into -/
def Wc (m : Mp) (a : Addr) (v : Value) : Prop := mc m a = some v ∧ mfr m a = false
theorem Wc.mono {m m' : Mp} (h : Le m m') {a : Addr} {v : Value} (hc : Wc m a v) : Wc m' a v := by
  refine ⟨mc_mono h hc.1, ?_⟩
  obtain ⟨h1, h2⟩ := hc
  unfold mc at h1
  cases hb : m a.block with
  | none => rw [hb] at h1; cases h1
  | some o =>
    unfold mfr at h2 ⊢
    rw [hb] at h2
    rw [h _ _ hb]
    exact h2
theorem Wc.cel {m : Mp} {b i : Nat} {l : List Value} {e : TypeId} {v : Value} (hi : (cel b l e).inv m) (hv : vnth l i = some v) : Wc m ⟨b, i, none⟩ v :=
  ⟨mc_blk hi hv, by have h1 : m b = some (.cells l.toArray e (0, 0)) := hi; simp [mfr, h1]⟩
theorem Wc.own {m : Mp} {e sz k c i : Nat} {A : Option Addr} {xs : List Value} {v : Value} (hi : Own m e sz A k c xs) (hv : xs[i]? = some v) : Wc m ((sa A).add i) v := by
  refine ⟨(Own.rd hi).at_ hv, ?_⟩
  have hs := (Own.rd hi i v hv).1
  obtain ⟨_, _, ⟨rfl, _⟩ | ⟨g, o, cur, rfl, hg, _⟩⟩ := hi
  · cases hs
  · have : (sa (some (⟨g, o, none⟩ : Addr))).add i = ⟨g, o + i, none⟩ := by show (⟨g, o, none⟩ : Addr).add i = _; rw [Addr.add_lit]
    rw [this]
    simp [mfr, hg]
section
variable {P : Program} {n : Nat} {env : Env} {m : Mp} {L r : List Ent} {Q : Post} {K : Env → List Ent → Prop} {d : Nat} {ty : TypeId} {pos : String} {aft : Array Edge} {gd : Option (Nat × Bool)} {t : TypeId} {x y : Operand} {v : Value}
/-! ### a place: an entry by what one cell of it holds -/
structure Plc (a : Addr) (E : Value → Ent) : Prop where
  wc : ∀ {m : Mp} {u : Value}, (E u).inv m → Wc m a u
  set : ∀ {m : Mp} {r : List Ent} {h : Heap} {u v : Value}, HS m (E u :: r) h → HS m (E v :: r) (hset h a v)
theorem dom_blk {b k : Nat} {o : Obj} (hk : (blk b o).dom k = false) : k ≠ b := by rintro rfl; simp [blk] at hk
theorem Plc.cel {b i : Nat} {l : List Value} {e : TypeId} (hi : i < l.length) : Plc ⟨b, i, none⟩ (fun v => cel b (l.set i v) e) where
  wc := fun {m u} h => Wc.cel (l := l.set i u) h (by rw [← vnth_eq]; simp [hi])
  set := fun {m r h u v} hs => by
    refine hs.upd (e' := Eng.cel b (l.set i v) e) (fun k _ hk => mp_hset_ne h _ v (dom_blk hk)) ?_ fun k hk => .inl hk
    have := mp_hset (i := i) h v (l := l.set i u) (e := e) (fr := (0, 0)) hs.head
    show mp _ b = _
    rw [this, List.set_set]
theorem Plc.own {e sz k c i : Nat} {A : Option Addr} {xs : List Value} (hi : i < xs.length) : Plc ((sa A).add i) (fun v => own e sz A k c (xs.set i v)) where
  wc := fun {m u} h => Wc.own (xs := xs.set i u) h (by simp [hi])
  set := fun {m r h u v} hs => by
    have ho : Own (mp h) e sz A k c (xs.set i u) := hs.head
    obtain ⟨hl, hc, ⟨rfl, rfl⟩ | ⟨g, o, cur, rfl, hg, hcm, hcs, htake⟩⟩ := ho
    · simp only [List.length_set] at hl
      have h1 : k = 0 := by omega
      rw [h1] at hl
      omega
    · have hsa : (sa (some (⟨g, o, none⟩ : Addr))).add i = ⟨g, o + i, none⟩ := by show (⟨g, o, none⟩ : Addr).add i = _; rw [Addr.add_lit]
      rw [hsa]
      have hg' : mp h g = some (.cells cur.toList.toArray e (0, 0)) := by simpa using hg
      refine hs.upd (e' := Eng.own e sz (some ⟨g, o, none⟩) k c (xs.set i v)) (fun j _ hj => mp_hset_ne h _ v ?_) ?_ fun j hj => .inl hj
      · intro e
        subst e
        have hj' : inB (some ⟨_, o, none⟩) _ = false := hj
        simp [inB, ownB] at hj'
      · refine ⟨by simpa using hl, hc, .inr ⟨g, o, _, rfl, mp_hset h v hg', hcm, by simpa using hcs, ?_⟩⟩
        simp only [List.length_set] at hl
        rw [show xs.set i v = (xs.set i u).set i v from by rw [List.set_set], ← htake]
        simp only [List.drop_set, Nat.add_sub_cancel_left]
        split
        · omega
        · rw [List.take_set]
/-- a place of several cells -/
structure PlcN (a : Addr) (E : List Value → Ent) (q : Nat) : Prop where
  at_ : ∀ {l : List Value} {i : Nat}, l.length = q → i < q → Plc (a.add i) (fun v => E (l.set i v))
theorem PlcN.cel {b o : Nat} {l : List Value} {e : TypeId} {q : Nat} (hi : o + q ≤ l.length) : PlcN ⟨b, o, none⟩ (fun w => cel b (l.take o ++ w ++ l.drop (o + q)) e) q where
  at_ := fun {w i} hw hiq => by
    rw [Addr.add_lit]
    have := Plc.cel (b := b) (i := o + i) (l := l.take o ++ w ++ l.drop (o + q)) (e := e) (by simp; omega)
    have e1 : (fun v => Eng.cel b ((l.take o ++ w ++ l.drop (o + q)).set (o + i) v) e) = (fun v => Eng.cel b (l.take o ++ w.set i v ++ l.drop (o + q)) e) := by
      funext v
      congr 1
      rw [List.append_assoc, List.set_append_right _ _ (by simp; omega), List.set_append_left _ _ (by simp; omega), List.append_assoc]
      congr 3
      simp
      omega
    rw [e1] at this
    exact this
theorem PlcN.own {e sz k c o : Nat} {A : Option Addr} {xs : List Value} {q : Nat} (hi : o + q ≤ xs.length) : PlcN ((sa A).add o) (fun w => own e sz A k c (xs.take o ++ w ++ xs.drop (o + q))) q where
  at_ := fun {w i} hw hiq => by
    rw [add_add]
    have := Plc.own (e := e) (sz := sz) (k := k) (c := c) (A := A) (i := o + i) (xs := xs.take o ++ w ++ xs.drop (o + q)) (by simp; omega)
    have e1 : (fun v => Eng.own e sz A k c ((xs.take o ++ w ++ xs.drop (o + q)).set (o + i) v)) = (fun v => Eng.own e sz A k c (xs.take o ++ w.set i v ++ xs.drop (o + q))) := by
      funext v
      congr 1
      rw [List.append_assoc, List.set_append_right _ _ (by simp; omega), List.set_append_left _ _ (by simp; omega), List.append_assoc]
      congr 3
      simp
      omega
    rw [e1] at this
    exact this
end
/-! ### a struct stored into a part of a block -/
inductive USetL : List Value → Nat → List Value → List Value → Prop
  | nil {r : List Value} : USetL r 0 [] r
  | cons {u v : Value} {r vs r' : List Value} (h : USetL r 0 vs r') : USetL (u :: r) 0 (v :: vs) (v :: r')
  | there {u : Value} {r vs r' : List Value} {i : Nat} (h : USetL r i vs r') : USetL (u :: r) (i + 1) vs (u :: r')
theorem USetL.eq {l vs l' : List Value} {i : Nat} (h : USetL l i vs l') : i + vs.length ≤ l.length ∧ l' = l.take i ++ vs ++ l.drop (i + vs.length) := by
  induction h with
  | nil => simp
  | cons h ih =>
    obtain ⟨h1, h2⟩ := ih
    simp at h1 h2 ⊢
    exact ⟨h1, h2⟩
  | there h ih =>
    obtain ⟨h1, h2⟩ := ih
    refine ⟨by simp; omega, ?_⟩
    rw [h2]
    simp [Nat.add_right_comm]
section
variable {P : Program} {n : Nat} {env : Env} {h : Heap} {m : Mp} {L : List Ent} {Q : Post} {ty : TypeId} {pos : String} {aft : Array Edge} {gd : Option (Nat × Bool)} {t : TypeId} {x y : Operand}
end
/-! ### several entries as one -/
def pack (L : List Ent) : Ent where
  dom := fun k => L.any fun e => e.dom k
  inv := fun m => (∀ e ∈ L, e.inv m) ∧ L.Pairwise fun (a b : Ent) => ∀ k : Nat, a.dom k = true → b.dom k = false
  loc := fun {m m'} h hi => ⟨fun e he => e.loc (fun k hk => h k (by rw [List.any_eq_true]; exact ⟨e, he, hk⟩)) (hi.1 e he), hi.2⟩
  has := fun {m k} hi hk => by
    rw [List.any_eq_true] at hk
    obtain ⟨e, he, hk⟩ := hk
    exact e.has (hi.1 e he) hk
theorem HS.pack_iff {m : Mp} {L r : List Ent} {h : Heap} : HS m (L ++ r) h ↔ HS m (pack L :: r) h := by
  constructor
  · intro ⟨h1, h2, h3, h4⟩
    rw [List.pairwise_append] at h4
    refine HS.cons_iff.2 ⟨⟨h1, fun e he => h2 e (by simp [he]), fun e he => h3 e (by simp [he]), h4.2.1⟩, ⟨fun e he => h2 e (by simp [he]), h4.1⟩, fun k hk => ?_, fun x hx k hk => ?_⟩
    · have hk' : (L.any fun e => e.dom k) = true := hk
      rw [List.any_eq_true] at hk'
      obtain ⟨e, he, hk'⟩ := hk'
      exact h3 e (by simp [he]) k hk'
    · have hk' : (L.any fun e => e.dom k) = true := hk
      rw [List.any_eq_true] at hk'
      obtain ⟨e, he, hk'⟩ := hk'
      exact h4.2.2 e he x hx k hk'
  · intro hs
    obtain ⟨h1, h2, h3, h4⟩ := HS.cons_iff.1 hs
    have key : ∀ e ∈ L, ∀ k, e.dom k = true → (pack L).dom k = true := fun e he k hk => by
      show (L.any fun e => e.dom k) = true
      rw [List.any_eq_true]; exact ⟨e, he, hk⟩
    refine ⟨h1.base, fun e he => ?_, fun e he k hk => ?_, List.pairwise_append.2 ⟨h2.2, h1.apart, fun a ha b hb k hk => h4 b hb k (key a ha k hk)⟩⟩
    · rcases List.mem_append.1 he with he | he
      · exact h2.1 e he
      · exact h1.inv e he
    · rcases List.mem_append.1 he with he | he
      · exact h3 k (key e he k hk)
      · exact h1.out e he k hk
/-- entries taken out, one behind the other -/
inductive Tks : List Ent → List Ent → List Ent → Prop
  | nil {L : List Ent} : Tks L [] L
  | cons {L r es r' : List Ent} {e : Ent} (h : Tk L e r) (hs : Tks r es r') : Tks L (e :: es) r'
theorem HS.takes {L es r : List Ent} (ht : Tks L es r) : ∀ {m : Mp} {h : Heap}, HS m L h → HS m (es ++ r) h := by
  induction ht with
  | nil => exact fun hs => hs
  | cons h _ ih =>
    intro m h' hs
    have h1 := hs.take h
    obtain ⟨a1, a2, a3, a4⟩ := HS.cons_iff.1 h1
    have h2 := ih a1
    refine HS.cons_iff.2 ⟨h2, a2, a3, fun x hx k hk => ?_⟩
    -- what is taken is of what was there
    have h5 := ih (m := fun j => if (Ent.dom _ j) then mp h' j else m j) (h := h') (by
      refine ⟨fun j o hj => ?_, a1.inv, fun x hx j hj => ?_, a1.apart⟩
      · split at hj
        · exact hj
        · exact a1.base j o hj
      · split
        · rename_i he
          have := a4 x hx j he
          rw [hj] at this
          cases this
        · exact a1.out x hx j hj)
    cases hxk : x.dom k with
    | false => rfl
    | true =>
      have h6 := h5.out x hx k hxk
      simp only [hk, if_true] at h6
      exact absurd h6 (x.has (h2.inv x hx) hxk)
theorem HS.part {m : Mp} {pre r : List Ent} {h : Heap} (hs : HS m (pre ++ r) h) : ∃ m', Le m m' ∧ HE r m' ∧ HS m' pre h ∧ ∀ {h' : Heap} {L' : List Ent}, HS m' L' h' → HS m (L' ++ r) h' := by
  have h0 := HS.pack_iff.1 hs
  obtain ⟨h1, h2, h3⟩ := h0.away
  refine ⟨_, h2, h3, ?_, fun hc => h0.frame1 hc⟩
  have := HS.pack_iff (L := pre) (r := []) (m := Eng.away (pack pre) (mp h)) (h := h)
  rw [List.append_nil] at this
  exact this.2 h1
/-! ### contracts of functions that may panic -/
def CSP (P : Program) (f : FuncId) (args : List Value) (m : Mp) (pre : List Ent) (post ppost : Value → List Ent → Prop) : Prop :=
  ∀ h, HS m pre h → CP P f args.toArray h (postS m post) (postS m ppost)
theorem CS.toP {P : Program} {f : FuncId} {args : List Value} {m : Mp} {pre : List Ent} {post ppost : Value → List Ent → Prop} (hc : CS P f args m pre post) : CSP P f args m pre post ppost := fun h hs => CP.of (hc h hs)
theorem CSP.of {P : Program} {f : FuncId} {args : List Value} {m : Mp} {pre : List Ent} {post ppost : Value → List Ent → Prop} (hc : CS P f args m pre post) : CSP P f args m pre post ppost := hc.toP
section
variable {P : Program} {n : Nat} {env : Env} {m : Mp} {L r : List Ent} {Q : Post} {K : Env → List Ent → Prop} {d : Nat} {ty : TypeId} {pos : String} {aft : Array Edge} {gd : Option (Nat × Bool)}
/-- the same, and it may panic -/
theorem S_callP {f : FuncId} {args : List Operand} {ats : Array TypeId} {vs : List Value} {pre : List Ent} {post ppost : Value → List Ent → Prop} (hcl : callable P f = true) (hx : evs env args = some vs) (hT : Tks L pre r) (hc : ∀ m', Le m m' → HE r m' → CSP P f vs m' pre post ppost) (hn : Nat.blt d n = true)
    (hp : ∀ v L', ppost v L' → QS Q (.panic (pan v)) env m (L' ++ r)) (hk : ∀ v L', post v L' → K ((d, v) :: env) (L' ++ r)) : StepS P n Q ⟨some d, .call ⟨.value (.func f), args.toArray, ats⟩, ty, pos, aft, gd⟩ env m L false K := fun h hs => by
  obtain ⟨m', h1, h2, h3, h4⟩ := (HS.takes hT hs).part
  exact E_callP hcl hx (hc m' h1 h2 h h3) hn (fun v h' ⟨L', g1, g2⟩ => ⟨fun hf => (by cases hf), _, h4 g2, hk v L' g1⟩) fun v h' ⟨L', g1, g2⟩ => hp v L' g1 h' (h4 g2)
end
/-! ### entries that join the base -/
def uni (m n : Mp) : Mp := fun k => (m k).or (n k)
theorem uni_l (m n : Mp) : Le m (uni m n) := fun k o h => by simp [uni, h]
theorem uni_r {m n : Mp} (hd : ∀ k, n k ≠ none → m k = none) : Le n (uni m n) := fun k o h => by
  have := hd k (by rw [h]; exact fun e => by cases e)
  simp [uni, this, h]
/-- what stands there now and stays -/
def snap (ns : Mp) : Ent where
  dom := fun k => (ns k).isSome
  inv := fun m => Le ns m
  loc := fun {m m'} h hi k o hk => by rw [h k (by simp [hk])]; exact hi k o hk
  has := fun {m k} hi hk => by
    obtain ⟨o, ho⟩ := Option.isSome_iff_exists.1 hk
    rw [hi k o ho]
    exact fun e => by cases e
theorem HS.toSnap {m : Mp} {e : Ent} {r : List Ent} {h : Heap} (hs : HS m (e :: r) h) : ∃ ns, e.inv ns ∧ (∀ k, (ns k).isSome = e.dom k) ∧ HS m (snap ns :: r) h := by
  obtain ⟨h1, h2, h3, h4⟩ := HS.cons_iff.1 hs
  have hdom : ∀ k, ((if e.dom k = true then mp h k else none : Option Obj)).isSome = e.dom k := fun k => by
    cases he : e.dom k with
    | false => simp
    | true =>
      simp only [if_true]
      have := e.has h2 he
      cases hm : mp h k with
      | none => exact absurd hm this
      | some o => rfl
  refine ⟨fun k => if e.dom k = true then mp h k else none, e.loc (fun k hk => by simp [hk]) h2, hdom, HS.cons_iff.2 ⟨h1, fun k o hk => ?_, fun k hk => h3 k ?_, fun x hx k hk => h4 x hx k ?_⟩⟩
  · by_cases he : e.dom k = true
    · simpa [he] using hk
    · simp [he] at hk
  · rw [← hdom k]; exact hk
  · rw [← hdom k]; exact hk
theorem HS.absorb {m ns : Mp} {r : List Ent} {h : Heap} (hs : HS m (snap ns :: r) h) : (∀ k, ns k ≠ none → m k = none) ∧ HS (uni m ns) r h := by
  obtain ⟨h1, h2, h3, h4⟩ := HS.cons_iff.1 hs
  refine ⟨fun k hk => h3 k (by cases hn : ns k with | none => exact absurd hn hk | some o => simp [snap, hn]), fun k o hk => ?_, h1.inv, fun x hx k hk => ?_, h1.apart⟩
  · unfold uni at hk
    cases hm : m k with
    | some u => rw [hm] at hk; simp at hk; subst hk; exact h1.base k _ hm
    | none => rw [hm] at hk; simp at hk; exact h2 k o hk
  · unfold uni
    rw [h1.out x hx k hk]
    cases hn : ns k with
    | none => rfl
    | some o => have := h4 x hx k (by simp [snap, hn]); rw [hk] at this; cases this
theorem HS.weaken {m m' : Mp} {L : List Ent} {h : Heap} (hs : HS m' L h) (hl : Le m m') : HS m L h :=
  ⟨hl.trans hs.base, hs.inv, (fun e he k hk => by
    cases hm : m k with
    | none => rfl
    | some o => (have := hs.out e he k hk; rw [hl k o hm] at this; cases this)), hs.apart⟩
section
variable {P : Program} {n : Nat} {env : Env} {m : Mp} {L r : List Ent} {Q : Post}
theorem TS_absorb {c : Code} {e : Ent} (hT : Tk L e r) (hk : ∀ ns, e.inv ns → (∀ k, (ns k).isSome = e.dom k) → (∀ k, ns k ≠ none → m k = none) → TS P n c env (uni m ns) r Q) : TS P n c env m L Q := fun h hs => by
  obtain ⟨ns, h1, h2, h3⟩ := (hs.take hT).toSnap
  obtain ⟨h4, h5⟩ := h3.absorb
  exact hk ns h1 h2 h4 h h5
/-- loops whose base grows -/
def roundM {α : Type} (S : α → Env) (MM : α → Mp) (LL : α → List Ent) (F : α → Prop) (μ : α → Nat) (k : Nat) (Q : Post) : Post := roundQ S (fun y h => F y ∧ HS (MM y) (LL y) h) μ k Q
end
/-! ### a plain region cut in two -/
section
variable {P : Program} {n : Nat} {env : Env} {m : Mp} {L : List Ent} {Q : Post} {l0 l : List Oper}
end
section
variable {P : Program} {n : Nat} {env : Env} {m : Mp} {L : List Ent} {Q : Post}
/-- loops whose state is a number, and a slice of the call's own -/
def round3 (m : Mp) (S : Nat → Option Addr → Nat → Env) (LL : Nat → Option Addr → Nat → List Ent) (F : Nat → Prop) (μ : Nat → Nat) (k : Nat) (Q : Post) : Post := roundS m (fun y : Nat × Option Addr × Nat => S y.1 y.2.1 y.2.2) (fun y => LL y.1 y.2.1 y.2.2) (fun y => F y.1) (fun y => μ y.1) k Q
end
theorem HE0 {e : Ent} {r : List Ent} {m : Mp} (h : HE (e :: r) m) : e.inv m := h e (by simp)
theorem Wc.he {b i : Nat} {l : List Value} {e : TypeId} {r : List Ent} {m : Mp} {v : Value} (h : HE (Eng.cel b l e :: r) m) (hv : vnth l i = some v) : Wc m ⟨b, i, none⟩ v := Wc.cel (HE0 h) hv
section
variable {P : Program} {n : Nat} {env : Env} {m : Mp} {L : List Ent} {Q : Post} {ch : List PanicEntry}
end
section
variable {P : Program} {n : Nat} {env : Env} {h : Heap} {m : Mp} {L r : List Ent} {Q : Post} {d : Nat} {ty : TypeId} {pos : String} {aft : Array Edge} {gd : Option (Nat × Bool)}
theorem E_callPVd {K : Env → Heap → Prop} {f : FuncId} {fv : Operand} {args : List Operand} {ats : Array TypeId} {vs p q : List Value} {R Rp : Value → Heap → Prop} (hcl : callable P f = true) (hf : ev env fv = some (.func (.func f) p.toArray q.toArray)) (hx : evs env args = some vs)
    (hc : CP P f ((p ++ vs) ++ q).toArray h R Rp) (hn : Nat.blt d n = true) (hk : ∀ v h', R v h' → K ((d, v) :: env) h') (hp : ∀ v h', Rp v h' → Q (.panic (pan v)) env h') : Step P n Q ⟨some d, .call ⟨.value fv, args.toArray, ats⟩, ty, pos, aft, gd⟩ env h K := by
  intro fx dr a ha
  have h1 := evs_ok ha.toAg hx
  have h2 : (execOp a.eval ⟨some d, .call ⟨.value fv, args.toArray, ats⟩, ty, pos, aft, gd⟩).run P (W fx h dr) = .ok (.enter f ((p ++ vs) ++ q).toArray) (W fx h dr) := by
    simp only [execOp, resolve, h1, ha.toAg.eval hf, Deferred.ofValue, Sem.run_bind, Sem.run_pure, Result.andThen_ok, invoke, List.append_toArray]
    exact callable_spec hcl _ _
  unfold Oper.wp
  rw [h2, Oper.upon_enter]
  refine (hc fx dr).mono ?_
  rintro e w' ⟨v, h', d', rfl, ⟨rfl, hr⟩ | ⟨rfl, hr⟩⟩
  · exact ⟨_, h', d', ha.put d v (by simpa [Nat.blt_eq] using hn), rfl, hk v h' hr⟩
  · exact ⟨_, h', d', ha, rfl, hp v h' hr⟩
theorem S_callPVd {K : Env → List Ent → Prop} {f : FuncId} {fv : Operand} {args : List Operand} {ats : Array TypeId} {vs p q : List Value} {pre : List Ent} {post ppost : Value → List Ent → Prop} (hcl : callable P f = true) (hf : ev env fv = some (.func (.func f) p.toArray q.toArray)) (hx : evs env args = some vs) (hT : Tks L pre r)
    (hc : ∀ m', Le m m' → HE r m' → CSP P f ((p ++ vs) ++ q) m' pre post ppost) (hn : Nat.blt d n = true) (hp : ∀ v L', ppost v L' → QS Q (.panic (pan v)) env m (L' ++ r)) (hk : ∀ v L', post v L' → K ((d, v) :: env) (L' ++ r)) : StepS P n Q ⟨some d, .call ⟨.value fv, args.toArray, ats⟩, ty, pos, aft, gd⟩ env m L false K := fun h hs => by
  obtain ⟨m', h1, h2, h3, h4⟩ := (HS.takes hT hs).part
  exact E_callPVd (R := postS m' post) (Rp := postS m' ppost) hcl hf hx (hc m' h1 h2 h h3) hn (fun v h' ⟨L', g1, g2⟩ => ⟨fun hf => (by cases hf), _, h4 g2, hk v L' g1⟩) fun v h' ⟨L', g1, g2⟩ => hp v L' g1 h' (h4 g2)
end
/-! ### bytes of a string -/
/-- the row that '[]byte(s)' lays -/
def bstr (b : Nat) (s : List UInt8) (c : Nat) (e : TypeId) : Ent := blk b (.cells (bytesRow (bs s) c) e ((bytesRow (bs s) c).size, (bytesRow (bs s) c).size + 1))
theorem Wc.bstr {m : Mp} {b c e i : Nat} {s : List UInt8} (hi : (Eng.bstr b s c e).inv m) (hlt : i < s.length) : Wc m ((sa (some ⟨b, 0, none⟩)).add i) (byteV s[i]) := by
  have hm : m b = some (.cells (bytesRow (bs s) c) e ((bytesRow (bs s) c).size, (bytesRow (bs s) c).size + 1)) := hi
  have h1 : (sa (some (⟨b, 0, none⟩ : Addr))).add i = ⟨b, 0 + i, none⟩ := by show (⟨b, 0, none⟩ : Addr).add i = _; rw [Addr.add_lit]
  rw [h1, Nat.zero_add]
  have hsz : (bs s).data.size = s.length := by simp [bs]
  constructor
  · unfold mc
    rw [hm]
    simp only [Option.isSome_none, Bool.false_eq_true, if_false]
    unfold bytesRow
    rw [Array.getElem?_append_left (by simp [bs]; exact hlt)]
    simp [bs, hlt, byteV]
  · unfold mfr
    rw [hm]
    simp only [Bool.and_eq_false_imp, decide_eq_true_eq, decide_eq_false_iff_not]
    intro h2
    have : s.length ≤ (bytesRow (bs s) c).size := by unfold bytesRow; simp [bs]
    omega
end Go.Eng

namespace Go.Eng
section
variable {P : Program} {n : Nat} {env : Env} {m : Mp} {L : List Ent} {Q : Exit → Act → World → Prop} {x : Fx} {h : Heap} {d : Nat} {a : Act}
def dfr (fn : Fn) (q : List Value) : Deferred := { target := .fn fn q.toArray, args := #[] }
/-! ### deferred calls that recover -/
/-- what recover hands back, and how the frame goes on -/
inductive Rec : FrameMode → Value → FrameMode → Prop
  | ret : Rec .returning .nilIface .returning
  | pan (v : Value) (older : List PanicEntry) : Rec (.panicking ({ v, recovered := false, goexit := false } :: older)) v (.panicking ({ v, recovered := true } :: older))
end
/-! ### a piece of code that returns, or panics -/
def endQ (m : Mp) (post : Env → List Ent → Prop) (ppost : Env → Value → List Ent → Prop) : Post
  | .normal, env, h => ∃ L', post env L' ∧ HS m L' h
  | .ret, env, h => ∃ L', post env L' ∧ HS m L' h
  | .panic c, env, h => ∃ v L', c = pan v ∧ ppost env v L' ∧ HS m L' h
  | _, _, _ => False
end Go.Eng

namespace Go.Eng
/-- a quiet operation: its value is the same in every world that keeps the base -/
def YB (P : Program) (ops : Array Oper) (m : Mp) (o : Oper) (v : Value) (a : Act) : Prop :=
  (Region.wanted o (yielded ops a.tmps) = true ∧ ∀ w', Le m (mp w'.heap) → (execOp a.eval o).run P w' = .ok (.value v) w') ∨
  (Region.wanted o (yielded ops a.tmps) = false ∧ v = undef)
def opB (P : Program) (ops : Array Oper) (m : Mp) (Q : Exit → Act → World → Prop) (i : Nat) (K : Act → World → Prop) (a : Act) (w : World) : Prop :=
  match ops[i]? with
  | none => K a w
  | some o => if Region.wanted o (yielded ops a.tmps) then o.wp P a w (fun a' w' => Le m (mp w'.heap) ∧ K a' w') Q else K (a.put o.dst undef) w
def anyB (P : Program) (ops : Array Oper) (m : Mp) (Q : Exit → Act → World → Prop) : Nat → Array Bool → Act → World → Prop
  | 0, listed, a, w => Region.ready .any ops listed = [] ∧ Q .normal a w
  | fuel + 1, listed, a, w =>
    (Region.ready .any ops listed = [] → Q .normal a w) ∧
    ∀ i ∈ Region.ready .any ops listed, opB P ops m Q i (anyB P ops m Q fuel (listed.setIfInBounds i true)) a w
section
variable {P : Program} {ops : Array Oper} {m : Mp} {Q : Exit → Act → World → Prop}
theorem YB.opB {i : Nat} {o : Oper} {v : Value} {a : Act} {w : World} (hi : ops[i]? = some o) (hy : YB P ops m o v a) (hle : Le m (mp w.heap)) {K : Act → World → Prop} (h : K (a.put o.dst v) w) : opB P ops m Q i K a w := by
  unfold Eng.opB
  simp only [hi]
  rcases hy with ⟨hw, hv⟩ | ⟨hw, rfl⟩
  · simp only [hw, if_true, Oper.wp, hv w hle, Oper.upon]; exact ⟨hle, h⟩
  · simp only [hw, Bool.false_eq_true, if_false]; exact h
theorem YB.of_same {o : Oper} {v : Value} {a a' : Act} (hy : YB P ops m o v a) (he : execOp a'.eval o = execOp a.eval o) (hw : Region.wanted o (yielded ops a'.tmps) = Region.wanted o (yielded ops a.tmps)) : YB P ops m o v a' := by
  unfold YB at *
  rw [he, hw]
  exact hy
end
inductive OB where
  | done
  | step (i : Nat) (q : Bool) (t : OB)
  | fork (s t : OB)
def headsB : OB → List Nat
  | .done => []
  | .step i _ _ => [i]
  | .fork s t => headsB s ++ headsB t
def freeB (l : List Oper) (listed : Array Bool) (i : Nat) (oi : Oper) : Bool :=
  (fun rs => (List.range l.length).all fun j => j == i || rs.contains j || listed.getD j true || match nth l j with
    | none => true
    | some oj => oi.apart l.toArray oj) (reach l i) &&
  (reach l i).all fun k => !listed.getD k false
def chkB (l : List Oper) : OB → Bool → Nat → Array Bool → Bool
  | .done, b, n, listed => !b && Nat.beq n 0 && (Region.ready .any l.toArray listed).isEmpty
  | .step i q t, b, n, listed => match n with
    | 0 => false
    | k + 1 =>
      (match nth l i with
       | none => false
       | some o => if q then !b && (Region.ready .any l.toArray listed).contains i && freeB l listed i o else b || Region.ready .any l.toArray listed == [i]) &&
      chkB l t false k (listed.setIfInBounds i true)
  | .fork s t, b, n, listed => (b || (!(Region.ready .any l.toArray listed).isEmpty && (Region.ready .any l.toArray listed).all (headsB s ++ headsB t).contains)) && chkB l s true n listed && chkB l t true n listed
def seqB (P : Program) (l : List Oper) (m : Mp) (Q : Exit → Act → World → Prop) : OB → Act → World → Prop
  | .done, a, w => Q .normal a w
  | .step i q t, a, w =>
    if q then ∃ o v, nth l i = some o ∧ YB P l.toArray m o v a ∧ seqB P l m Q t (a.put o.dst v) w
    else opB P l.toArray m Q i (seqB P l m Q t) a w
  | .fork s t, a, w => seqB P l m Q s a w ∧ seqB P l m Q t a w
def checkB (l : List Oper) (t : OB) : Bool := noSel l && chkB l t false l.length (Array.replicate l.length false)
/-- the walk, said of environments and entries -/
def VBS (P : Program) (n : Nat) (l : List Oper) (t : OB) (env : Env) (m : Mp) (L : List Ent) (Q : Post) : Prop :=
  ∀ h, HS m L h → ∀ (x : Fx) (d : Nat) (a : Act), AgD n x env a → seqB P l m (lift n x Q) t a (W x h d)
section
variable {P : Program} {n : Nat} {env : Env} {m : Mp} {L : List Ent} {Q : Post} {l : List Oper} {s t : OB} {o : Oper} {v : Value} {d i : Nat}
end
theorem QS_retW {P : Program} {rs : List ResultVar} {env : Env} {m m2 : Mp} {L : List Ent} {post : Value → List Ent → Prop} (hl : Le m m2) (vs : List Value) (hv : RvsS P env L rs vs) (L' : List Ent) (hp : Pick L L') (hq : post (tup vs) L') : QS (retC P rs (postS m post)) .ret env m2 L :=
  fun h hs => ⟨vs, hv.ok hs, L', hq, (hp m2 h hs).weaken hl⟩
section
variable {P : Program} {n : Nat} {env : Env} {m : Mp} {L : List Ent} {Q : Post} {β : Type}
/-- loops whose state is a number, a slice of the call's own, and something more -/
def round4 (m : Mp) (S : Nat → Option Addr → Nat → β → Env) (LL : Nat → Option Addr → Nat → β → List Ent) (F : Nat → β → Prop) (μ : Nat → Nat) (k : Nat) (Q : Post) : Post := roundS m (fun y : Nat × Option Addr × Nat × β => S y.1 y.2.1 y.2.2.1 y.2.2.2) (fun y => LL y.1 y.2.1 y.2.2.1 y.2.2.2) (fun y => F y.1 y.2.2.2) (fun y => μ y.1) k Q
theorem QS_round4_exit {S : Nat → Option Addr → Nat → β → Env} {LL : Nat → Option Addr → Nat → β → List Ent} {F : Nat → β → Prop} {μ : Nat → Nat} {k i : Nat} (hq : QS Q (.exit i) env m L) {m0 : Mp} : QS (round4 m0 S LL F μ k Q) (.exit i) env m L := hq
theorem QS_round4 {S : Nat → Option Addr → Nat → β → Env} {LL : Nat → Option Addr → Nat → β → List Ent} {F : Nat → β → Prop} {μ : Nat → Nat} {k : Nat} {m0 : Mp} (hl : Le m0 m) (j : Nat) (A : Option Addr) (c : Nat) (b : β) (hs : Sub (S j A c b) env) (hp : Pick L (LL j A c b)) (hF : F j b) (hk : μ j < k) : QS (round4 m0 S LL F μ k Q) .normal env m L :=
  fun h hh => ⟨(j, A, c, b), hs, ⟨hF, (hp m h hh).weaken hl⟩, hk⟩
theorem TS_loop4 {c : Code} (S : Nat → Option Addr → Nat → β → Env) (LL : Nat → Option Addr → Nat → β → List Ent) (F : Nat → β → Prop) (μ : Nat → Nat) (j : Nat) (A : Option Addr) (cc : Nat) (b : β) (hs : Sub (S j A cc b) env) (hp : Pick L (LL j A cc b)) (hF : F j b)
    (hr : ∀ (j : Nat) (A : Option Addr) (cc : Nat) (b : β), F j b → TS P n c (S j A cc b) m (LL j A cc b) (round4 m S LL F μ (μ j) Q)) : TS P n (.loop c) env m L Q :=
  TS_loop (fun y : Nat × Option Addr × Nat × β => S y.1 y.2.1 y.2.2.1 y.2.2.2) (fun y => LL y.1 y.2.1 y.2.2.1 y.2.2.2) (fun y => F y.1 y.2.2.2) (fun y => μ y.1) (j, A, cc, b) hs hp hF fun y hF => hr y.1 y.2.1 y.2.2.1 y.2.2.2 hF
end
/-! ### interface values beside nil -/
section
variable {P : Program} {n : Nat} {env : Env} {dst : Option Tmp} {ty : TypeId} {pos : String} {aft : Array Edge} {gd : Option (Nat × Bool)} {t yt u : TypeId} {x : Operand} {v : Value}
end
end Go.Eng

namespace Go.Eng
open Go.ChangeShapes Go.WideShapes Go.ChangeAt Go.RowKit
/-- what was read: no cell of it is frozen; each piece of it is within the reach -/
def GoodR {H : Type} (P : Program) (w : World) (t : TypeId) (x : DataW H × List MemPlace) : Prop := w.noneFrozen x.2 ∧ ∀ k ∈ DataW.weights P t x.1, k ≤ reachBytes
section
variable {H : Type} {enc : TypeId × Value → H} {P : Program} {w : World} {base : Nat} {spare : Nat → Bool} {held : Bool}
theorem mem_weightsAll {e : TypeId} : ∀ {l : List (DataW H)} {d : DataW H} {k : Nat}, d ∈ l → k ∈ DataW.weights P e d → k ∈ DataW.weightsAll P e l
  | [], _, _, h, _ => by cases h
  | a :: r, d, k, h, hk => by
    simp only [DataW.weightsAll, List.mem_append]
    rcases List.mem_cons.1 h with rfl | h
    · exact .inl hk
    · exact .inr (mem_weightsAll h hk)
theorem fld_inW {t i ft off fuel : Nat} {cs : List Value} {x : DataW H × List MemPlace} (hf : fld P t i = some (ft, off)) (h : DataW.trod enc P w base spare held fuel t cs = some x) (hg : GoodR P w t x) :
    ∃ n y, fuel = n + 1 ∧ cs.length = P.cellsOf t ∧ DataW.trod enc P w base spare held n ft ((cs.drop off).take (P.cellsOf ft)) = some y ∧ GoodR P w ft y := by
  unfold fld at hf
  split at hf
  · rename_i fs hu
    obtain ⟨xs, n, rfl, rfl, hl, hlen, hx⟩ := DataW.trod_struct hu h
    cases hfi : fs[i]? with
    | none => rw [hfi] at hf; cases hf
    | some f =>
      rw [hfi] at hf
      simp only [Option.map_some, Option.some.injEq, Prod.mk.injEq] at hf
      obtain ⟨rfl, rfl⟩ := hf
      have h1 := hx i f hfi
      have hi : i < xs.length := by rw [hlen]; exact (Array.getElem?_eq_some_iff.1 hfi).1
      rw [List.getElem?_eq_getElem hi] at h1
      refine ⟨n, _, rfl, hl, h1, fun b o hm => hg.1 b o (List.mem_flatMap.2 ⟨_, List.getElem_mem hi, hm⟩), fun k hk => hg.2 k ?_⟩
      simp only [DataW.weights, hu]
      exact DataW.weights_mem_each (j := i) (t := f.type) (by simp [hfi]) (by simp [hi]) k hk
  · cases hf
theorem str_inW {t fuel : Nat} {cs : List Value} {x : DataW H × List MemPlace} (ht : isStr P t = true) (h : DataW.trod enc P w base spare held fuel t cs = some x) (hg : GoodR P w t x) : ∃ l : List UInt8, cs = [.string (bs l)] ∧ l.length ≤ 140737488355328 := by
  obtain ⟨s, h1, h3, h2⟩ := DataW.trod_string (isStr_spec ht) h
  refine ⟨s.data.toList, by rw [bs_eta]; exact h1, ?_⟩
  have := hg.2 s.data.toList.length (by rw [h3]; simp [DataW.weights])
  unfold reachBytes at this
  omega
/-- a slice whose cells may be written back -/
theorem cells_inW {t e sz by_ fuel : Nat} {cs : List Value} {x : DataW H × List MemPlace} (ht : sliceT P t e = true) (hc : P.cellsOf e = sz) (hb : P.bytesOf e = by_) (h : DataW.trod enc P w base spare held fuel t cs = some x) (hg : GoodR P w t x) :
    ∃ (A : Option Addr) (len cap : Nat) (vs : List Value) (n : Nat), cs = [.slice A len cap] ∧ (0 < len → A.isSome = true) ∧ len * by_ ≤ reachBytes ∧ (∀ i u, vs[i]? = some u → Wc (mp w.heap) ((sa A).add i) u) ∧ vs.length = len * sz ∧ n ≤ fuel ∧
      ∀ i, i < len → ∃ y, DataW.trod enc P w base spare held n e ((vs.drop (i * sz)).take sz) = some y ∧ GoodR P w e y := by
  rcases DataW.trod_slice (sliceT_spec ht) h with ⟨hcs, _⟩ | ⟨a, len, cap, elems, rest, n, rfl, rfl, rfl, _, hl, hm, hel, hx, _⟩
  · exact ⟨none, 0, 0, [], 0, hcs, (fun h => absurd h (Nat.lt_irrefl 0)), by rw [Nat.zero_mul]; exact Nat.zero_le _, (fun i u h => by simp at h), by rw [Nat.zero_mul]; rfl, Nat.zero_le _, fun i hi => by omega⟩
  · rw [hc] at hx
    have hwt := hg.2
    have hle : len * by_ ≤ reachBytes := by
      have h1 := hwt ((elems.length + rest.length) * P.bytesOf e) (by simp [DataW.weights, sliceT_spec ht])
      rw [hb] at h1
      refine Nat.le_trans (Nat.mul_le_mul_right _ ?_) h1
      omega
    have h1 : ∀ i, i < len → ∃ l : List Value, w.cells? base (a.add (i * sz)) sz = some l ∧ ∃ y, DataW.trod enc P w base spare held n e l = some y ∧ GoodR P w e y := fun i hi => by
      have h2 := hx i hi
      rw [List.getElem?_eq_getElem (by omega)] at h2
      obtain ⟨l, h3, h4⟩ := Option.bind_eq_some_iff.1 h2
      refine ⟨l, h3, _, h4, fun b o hm => hg.1 b o ?_, fun k hk => hwt k ?_⟩
      · exact List.mem_append.2 (.inr (List.mem_flatMap.2 ⟨_, List.mem_append.2 (.inl (List.getElem_mem (by omega))), hm⟩))
      · simp only [DataW.weights, sliceT_spec ht, List.mem_cons, List.mem_append]
        exact .inr (.inl (mem_weightsAll (List.mem_map.2 ⟨_, List.getElem_mem (by omega), rfl⟩) hk))
    obtain ⟨ls, hls, hp⟩ := choose_list h1
    have hlen : ∀ l ∈ ls, l.length = sz := fun l hl => by
      obtain ⟨i, hi, rfl⟩ := List.getElem_of_mem hl
      exact (World.cells?_some (hp i hi).1).2.1
    have key : ∀ (ls : List (List Value)), (∀ l ∈ ls, l.length = sz) → ls.flatten.length = ls.length * sz ∧ ∀ (i j : Nat), j < sz → ls.flatten[i * sz + j]? = (ls[i]?).bind (·[j]?) := by
      intro ls
      induction ls with
      | nil => intro _; exact ⟨by simp, fun i j _ => by simp⟩
      | cons l r ih =>
        intro hl
        obtain ⟨h2, h3⟩ := ih fun x hx => hl x (List.mem_cons_of_mem _ hx)
        have h4 := hl l (by simp)
        refine ⟨by rw [List.flatten_cons, List.length_append, h2, h4, List.length_cons, Nat.add_mul]; omega, fun i j hj => ?_⟩
        rw [List.flatten_cons]
        cases i with
        | zero => rw [List.getElem?_append_left (by omega)]; simp
        | succ i =>
          rw [List.getElem?_append_right (by rw [h4, Nat.add_mul]; omega), h4, show (i + 1) * sz + j - sz = i * sz + j by rw [Nat.add_mul]; omega, h3 i j hj]
          simp
    obtain ⟨k1, k2⟩ := key ls hlen
    refine ⟨some a, len, cap, ls.flatten, n, rfl, fun _ => rfl, hle, fun q u hq => ?_, by rw [k1, hls], Nat.le_succ _, fun i hi => ?_⟩
    · have hq1 : q < ls.length * sz := by rw [← k1]; exact (List.getElem?_eq_some_iff.1 hq).1
      have hsz : 0 < sz := Nat.pos_of_ne_zero (by rintro rfl; simp at hq1)
      have hi : q / sz < ls.length := Nat.div_lt_of_lt_mul (by rw [Nat.mul_comm]; exact hq1)
      have hj : q % sz < sz := Nat.mod_lt _ hsz
      have hqe : q / sz * sz + q % sz = q := by rw [Nat.mul_comm]; exact Nat.div_add_mod q sz
      have h5 := k2 (q / sz) (q % sz) hj
      rw [hqe, List.getElem?_eq_getElem hi] at h5
      have h6 := (World.cells?_some (hp _ hi).1).2.2 _ hj
      rw [hq] at h5
      simp only [Option.bind_some] at h5
      rw [← h5, cell_mc, add_add, hqe] at h6
      have h7 : mc (mp w.heap) ((sa (some a)).add q) = some u := h6
      refine ⟨h7, ?_⟩
      have hsp := World.cell?_spot (w := w) (a := (sa (some a)).add q) h7
      have ha : (sa (some a)).add q = ⟨a.block, a.off + q, none⟩ := by
        have e : (sa (some a)).add q = a.add q := rfl
        rw [e] at hsp ⊢
        unfold Addr.add at hsp ⊢
        split
        · rename_i h0
          rw [if_pos h0] at hsp
          subst h0
          obtain ⟨b, o, s⟩ := a
          simp only at hsp
          subst hsp
          rfl
        · rfl
      rw [ha, ← frozen_mfr]
      refine hg.1 _ _ ?_
      refine List.mem_append.2 (.inl (List.mem_map.2 ⟨q, ?_, rfl⟩))
      rw [List.mem_range, hc]
      have h8 : len * sz ≤ (elems.length + rest.length) * sz := Nat.mul_le_mul_right _ (by omega)
      rw [hls] at hq1
      omega
    · have hi' : i < ls.length := by omega
      have : (ls.flatten.drop (i * sz)).take sz = ls[i] := by
        apply List.ext_getElem?
        intro j
        rw [List.getElem?_take, List.getElem?_drop]
        split
        · rename_i hj
          rw [k2 i j hj, List.getElem?_eq_getElem hi']
          rfl
        · rw [List.getElem?_eq_none]
          have := hlen _ (List.getElem_mem hi')
          omega
      rw [this]
      exact (hp i hi').2
end
end Go.Eng

namespace Go.Eng
section
variable {P : Program} {n : Nat} {env : Env} {x : Operand} {t yt : TypeId} {dst : Option Tmp} {ty : TypeId} {pos : String} {aft : Array Edge} {gd : Option (Nat × Bool)}
theorem eqGuard_slice {op : BinOp} {t : TypeId} {x y : Operand} {A : Option Addr} {m c : Nat} {v : Value} : eqGuard op t x y (.slice A m c) v = pure () := by cases op <;> rfl
theorem P_slnil {A : Option Addr} {m c : Nat} (ht : isSlice P t = true) (hx : ev env x = some (.slice A m c)) : PureV P n ⟨dst, .binOp .eql t x (.const (.slice none 0 0)) yt, ty, pos, aft, gd⟩ env (.bool A.isNone) := by
  intro a' w ha
  obtain ⟨e, he⟩ := slice_of ht
  simp only [execOp, ha.eval hx, ha.eval (rfl : ev env (.const (.slice none 0 0)) = some (.slice none 0 0)), eqGuard_slice]
  simp [Go.run_eql_slice_nil w t e A m c he]
end
end Go.Eng
namespace Go.Eng
theorem Tk.mid {x : Ent} : ∀ {a b : List Ent}, Tk (a ++ x :: b) x (a ++ b)
  | [], _ => .here
  | _ :: _, _ => .there Tk.mid
theorem HS.unpackAt {m : Mp} {a b r : List Ent} {x : Ent} {h : Heap} (hs : HS m (pack (a ++ x :: b) :: r) h) : HS m (x :: pack (a ++ b) :: r) h := by
  have h1 : HS m ((a ++ x :: b) ++ r) h := HS.pack_iff.2 hs
  rw [List.append_assoc, List.cons_append] at h1
  have h2 : HS m (x :: (a ++ (b ++ r))) h := h1.take Tk.mid
  rw [← List.append_assoc] at h2
  have h3 : HS m ((a ++ b) ++ x :: r) h := HS.untake (Tk.mid (a := a ++ b) (b := r)) h2
  exact (HS.pack_iff.1 h3).take (.there .here)
theorem HS.repackAt {m : Mp} {a b r : List Ent} {x : Ent} {h : Heap} (hs : HS m (x :: pack (a ++ b) :: r) h) : HS m (pack (a ++ x :: b) :: r) h := by
  have h1 : HS m (pack (a ++ b) :: x :: r) h := HS.untake (L := pack (a ++ b) :: x :: r) (.there .here) hs
  have h2 : HS m ((a ++ b) ++ x :: r) h := HS.pack_iff.2 h1
  have h3 : HS m (x :: ((a ++ b) ++ r)) h := h2.take (Tk.mid (a := a ++ b) (b := r))
  rw [List.append_assoc] at h3
  have h4 : HS m (a ++ x :: (b ++ r)) h := HS.untake (Tk.mid (a := a) (b := b ++ r)) h3
  rw [show a ++ x :: (b ++ r) = (a ++ x :: b) ++ r by simp] at h4
  exact HS.pack_iff.1 h4
theorem Pick.repackAt {a b r : List Ent} {x : Ent} : Pick (x :: pack (a ++ b) :: r) (pack (a ++ x :: b) :: r) := fun _ _ hs => hs.repackAt
theorem Pick.tr {L1 L2 L3 : List Ent} (h1 : Pick L1 L2) (h2 : Pick L2 L3) : Pick L1 L3 := fun m h hs => h2 m h (h1 m h hs)
theorem Pick.packSnoc {os r : List Ent} {o : Ent} : Pick (pack os :: o :: r) (pack (os ++ [o]) :: r) := fun m h hs => by
  have h1 : HS m (os ++ o :: r) h := HS.pack_iff.2 hs
  rw [show os ++ o :: r = (os ++ [o]) ++ r by simp] at h1
  exact HS.pack_iff.1 h1
section
variable {P : Program} {n : Nat} {env : Env} {m : Mp} {L r : List Ent} {Q : Post}
theorem Pick.unpackAt {a b r : List Ent} {x : Ent} : Pick (pack (a ++ x :: b) :: r) (x :: pack (a ++ b) :: r) := fun _ _ hs => hs.unpackAt
theorem TS_packNil {c : Code} (ht : TS P n c env m (pack [] :: L) Q) : TS P n c env m L Q := fun h hs => ht h (HS.pack_iff.1 (show HS m ([] ++ L) h from hs))
end
end Go.Eng
namespace Go.Eng
section
variable {P : Program} {n : Nat} {env : Env} {m : Mp} {L r : List Ent} {Q : Post} {ty : TypeId} {pos : String} {aft : Array Edge} {gd : Option (Nat × Bool)} {d : Nat}
theorem S_callVL {K : Env → List Ent → Prop} {f : FuncId} {fv : Operand} {args : List Operand} {ats : Array TypeId} {vs p q : List Value} {pre : List Ent} {post : Value → List Ent → Prop} (hcl : callable P f = true) (hf : ev env fv = some (.func (.func f) p.toArray q.toArray)) (hx : evs env args = some vs) (hT : Tks L pre r)
    (hc : ∀ m', Le m m' → HE r m' → CS P f ((p ++ vs) ++ q) m' pre post) (hn : Nat.blt d n = true) (hk : ∀ v L', post v L' → K ((d, v) :: env) (L' ++ r)) : StepS P n Q ⟨some d, .call ⟨.value fv, args.toArray, ats⟩, ty, pos, aft, gd⟩ env m L false K :=
  S_callPVd (ppost := fun _ _ => False) hcl hf hx hT (fun m' h1 h2 => (hc m' h1 h2).toP) hn (fun _ _ h => h.elim) hk
end
end Go.Eng
