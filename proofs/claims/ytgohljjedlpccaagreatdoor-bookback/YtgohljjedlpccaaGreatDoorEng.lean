/- A Hoare logic over heaps for the model's code, and its lemmas, one an operation: all are proved here. No condition. -/
import Derived.KernelRfl
import Derived.Calls
import Derived.Tactics
import Derived.Below
import Derived.Scope
import Derived.Orders
import Derived.WalkKit
import Derived.Maps.AppendAt
import Derived.ProofKit
import Derived.OpenShut
import Derived.ShutString
import Derived.ChangeOld
import Derived.SliceStrings
import Derived.Deep.Slices
import Derived.Laws.Cover1
import Derived.Laws.StructEq
import Derived.Laws.BitsLemmas
import Derived.RangeFuncNested
import Derived.RangeFuncLeaves
import Derived.Recover
import Derived.Laws.IdiomStrings
import Derived.ScopeJumps
import Derived.SizedLaws
import Derived.Lib.LazyBuf
import Derived.Lib.AppendStr
import Derived.Lib.UnsafeStr
abbrev Bt := List UInt8
theorem km {p : Prop} (h : p := by simp only [List.length_append, List.length_cons, List.length_nil]; omega) : p := h
theorem VY {p : Prop} (h : p := by first | omega | (simp only [List.length_append, List.length_cons, List.length_nil]; omega)) : p := h
theorem fN {p : Prop} (h : p := by first | assumption | omega | decide | exact fun hx => hx (by assumption)) : p := h
theorem vN {p : Prop} (h : p := by first | assumption | rfl | omega | decide) : p := h
theorem yV {p : Prop} (h : p := by dsimp only; omega) : p := h
theorem xz {p : Prop} (h : p := by simp <;> omega) : p := h
theorem xi {p : Prop} (h : p := by assumption) : p := h
theorem za {p : Prop} (h : p := by omega) : p := h
theorem zb {p : Prop} (h : p := by decide) : p := h
theorem zi {p : Prop} (h : p := by kernel_rfl) : p := h
theorem zt {p : Prop} (h : p := by decide +kernel) : p := h
theorem yA {p : Prop} (h : p := by simp) : p := h
theorem zj {αa : Type} {a : αa} : a = a ∧ True := ⟨rfl, trivial⟩
theorem vv {αa αb : Type} {a : αa} {b : αb} : a = a ∧ b = b ∧ True := ⟨rfl, rfl, trivial⟩
theorem YV {αa αb αc : Type} {a : αa} {b : αb} {c : αc} : a = a ∧ b = b ∧ c = c ∧ True := ⟨rfl, rfl, rfl, trivial⟩
theorem de {αa αb αc αd : Type} {a : αa} {b : αb} {c : αc} {d : αd} : a = a ∧ b = b ∧ c = c ∧ d = d ∧ True := ⟨rfl, rfl, rfl, rfl, trivial⟩
theorem vX {αa αb αc αd αe : Type} {a : αa} {b : αb} {c : αc} {d : αd} {e : αe} : a = a ∧ b = b ∧ c = c ∧ d = d ∧ e = e ∧ True := ⟨rfl, rfl, rfl, rfl, rfl, trivial⟩
theorem gB {αa αb αc αd αe αf : Type} {a : αa} {b : αb} {c : αc} {d : αd} {e : αe} {f : αf} : a = a ∧ b = b ∧ c = c ∧ d = d ∧ e = e ∧ f = f ∧ True := ⟨rfl, rfl, rfl, rfl, rfl, rfl, trivial⟩
theorem VX {αa αb αc αd αe αf αg : Type} {a : αa} {b : αb} {c : αc} {d : αd} {e : αe} {f : αf} {g : αg} : a = a ∧ b = b ∧ c = c ∧ d = d ∧ e = e ∧ f = f ∧ g = g ∧ True := ⟨rfl, rfl, rfl, rfl, rfl, rfl, rfl, trivial⟩
theorem C4 {αa αb αc αd αe αf αg αh : Type} {a : αa} {b : αb} {c : αc} {d : αd} {e : αe} {f : αf} {g : αg} {h : αh} : a = a ∧ b = b ∧ c = c ∧ d = d ∧ e = e ∧ f = f ∧ g = g ∧ h = h ∧ True := ⟨rfl, rfl, rfl, rfl, rfl, rfl, rfl, rfl, trivial⟩
theorem F1 {αa αb αc αd αe αf αg αh αi : Type} {a : αa} {b : αb} {c : αc} {d : αd} {e : αe} {f : αf} {g : αg} {h : αh} {i : αi} : a = a ∧ b = b ∧ c = c ∧ d = d ∧ e = e ∧ f = f ∧ g = g ∧ h = h ∧ i = i ∧ True := ⟨rfl, rfl, rfl, rfl, rfl, rfl, rfl, rfl, rfl, trivial⟩
theorem XY {αa αb αc αd αe αf αg αh αi αj : Type} {a : αa} {b : αb} {c : αc} {d : αd} {e : αe} {f : αf} {g : αg} {h : αh} {i : αi} {j : αj} : a = a ∧ b = b ∧ c = c ∧ d = d ∧ e = e ∧ f = f ∧ g = g ∧ h = h ∧ i = i ∧ j = j ∧ True := ⟨rfl, rfl, rfl, rfl, rfl, rfl, rfl, rfl, rfl, rfl, trivial⟩
theorem DX {αa αb αc αd αe αf αg αh αi αj αk : Type} {a : αa} {b : αb} {c : αc} {d : αd} {e : αe} {f : αf} {g : αg} {h : αh} {i : αi} {j : αj} {k : αk} : a = a ∧ b = b ∧ c = c ∧ d = d ∧ e = e ∧ f = f ∧ g = g ∧ h = h ∧ i = i ∧ j = j ∧ k = k ∧ True := ⟨rfl, rfl, rfl, rfl, rfl, rfl, rfl, rfl, rfl, rfl, rfl, trivial⟩
theorem SZ {αa αb αc αd αe αf αg αh αi αj αk αl : Type} {a : αa} {b : αb} {c : αc} {d : αd} {e : αe} {f : αf} {g : αg} {h : αh} {i : αi} {j : αj} {k : αk} {l : αl} : a = a ∧ b = b ∧ c = c ∧ d = d ∧ e = e ∧ f = f ∧ g = g ∧ h = h ∧ i = i ∧ j = j ∧ k = k ∧ l = l ∧ True := ⟨rfl, rfl, rfl, rfl, rfl, rfl, rfl, rfl, rfl, rfl, rfl, rfl, trivial⟩
theorem DW {αa αb αc αd αe αf αg αh αi αj αk αl αm : Type} {a : αa} {b : αb} {c : αc} {d : αd} {e : αe} {f : αf} {g : αg} {h : αh} {i : αi} {j : αj} {k : αk} {l : αl} {m : αm} : a = a ∧ b = b ∧ c = c ∧ d = d ∧ e = e ∧ f = f ∧ g = g ∧ h = h ∧ i = i ∧ j = j ∧ k = k ∧ l = l ∧ m = m ∧ True := ⟨rfl, rfl, rfl, rfl, rfl, rfl, rfl, rfl, rfl, rfl, rfl, rfl, rfl, trivial⟩
theorem SY {αa αb αc αd αe αf αg αh αi αj αk αl αm αn : Type} {a : αa} {b : αb} {c : αc} {d : αd} {e : αe} {f : αf} {g : αg} {h : αh} {i : αi} {j : αj} {k : αk} {l : αl} {m : αm} {n : αn} : a = a ∧ b = b ∧ c = c ∧ d = d ∧ e = e ∧ f = f ∧ g = g ∧ h = h ∧ i = i ∧ j = j ∧ k = k ∧ l = l ∧ m = m ∧ n = n ∧ True := ⟨rfl, rfl, rfl, rfl, rfl, rfl, rfl, rfl, rfl, rfl, rfl, rfl, rfl, rfl, trivial⟩
namespace Go.Eng
abbrev Oa := Option Addr
abbrev Lv := List Value
abbrev yB := Array Obj
abbrev yW := List (Nat × Value)
structure Fx where
 tape : Nat -> Question -> Nat
 os : Os
 out : Array (Nat × ByteArray)
 /-- the calls that the frame has put off -/
 ds : List Deferred
def W (x : Fx) (h : yB) (d : Nat) : World := ⟨h, x.tape, d, x.os, x.out⟩
theorem Rz (w : World) : w = W ⟨w.tape, w.os, w.output, []⟩ w.heap w.drawn := rfl
def lk : yW -> Nat -> Option Value
 | [], _ => none
 | (d, v) :: r, t => match Nat.beq d t with
   | true => some v
   | false => lk r t
theorem YL {d t : Nat} (h : d ≠ t) : Nat.beq d t = false := by
 cases hb : Nat.beq d t
 ·rfl
 ·exact absurd (Nat.eq_of_beq_eq_true hb) h
theorem aI (env : yW) (d : Nat) (v : Value) : lk ((d, v) :: env) d = some v := by simp [lk]
theorem Yi (env : yW) (d t : Nat) (v : Value) (h : d ≠ t) : lk ((d, v) :: env) t = lk env t := by
 have : Nat.beq d t = false := YL h
 simp [lk, this]
structure Ag (n : Nat) (env : yW) (a : Act) : Prop where
 size : a.tmps.size = n
 at_ : ∀ t v, lk env t = some v -> a.tmps[t]? = some v
variable {a : Act} {env : yW} {n : Nat}
theorem Ag.put (h : Ag n env a) (d : Nat) (v : Value) (hd : d < n) : Ag n ((d, v) :: env) (a.put (some d) v) := by
 refine ⟨by simp [Act.put, h.size], fun t u ht => ?_⟩;by_cases hdt : d = t
 ·subst hdt;rw [aI] at ht
  injection ht with ht
  subst ht
  simp [Act.put, h.size, hd]
 ·rw [Yi _ _ _ _ hdt] at ht;simp only [Act.put];rw [Array.getElem?_setIfInBounds_ne hdt];exact h.at_ t u ht
def ev (env : yW) : Operand -> Option Value
 | .tmp t => lk env t
 | .const v => some v
 | .global g => some (.pointer (some ⟨g, 0, none⟩))
 | .func f => some (.func (.func f) #[] #[])
theorem Ag.eval (h : Ag n env a) {x : Operand} {v : Value} (hx : ev env x = some v) : a.eval x = v := by
 cases x with
 | tmp t =>
   have := h.at_ t v hx
   simp [Act.eval, this]
 | _ => simpa [ev, Act.eval] using hx
def ba : yW -> yW -> Prop
 | [], _ => True
 | (d, v) :: r, env => lk env d = some v /\ ba r env
variable {r : yW}
theorem ba.lk (h : ba r env) (t : Nat) (v : Value) (ht : Eng.lk r t = some v) : Eng.lk env t = some v := by
 induction r with
 | nil => simp [Eng.lk] at ht
 | cons p r ih =>
   obtain ⟨d, u⟩ := p;obtain ⟨h2, h3⟩ := h;by_cases hd : d = t
   ·subst hd; rw [aI] at ht; rw [<- ht]; exact h2
   ·rw [Yi _ _ _ _ hd] at ht;exact ih h3 ht
theorem Ag.sub (h : Ag n env a) (hs : ba r env) : Ag n r a :=
 ⟨h.size, fun t v ht => h.at_ t v (hs.lk t v ht)⟩
structure dB (n : Nat) (x : Fx) (env : yW) (a : Act) : Prop extends Ag n env a where
 defers : a.defers = x.ds
instance {n : Nat} {x : Fx} {env : yW} {a : Act} : CoeOut (dB n x env a) (Ag n env a) := ⟨dB.toAg⟩
variable {x : Fx}
theorem dB.put (h : dB n x env a) (d : Nat) (v : Value) (hd : d < n) : dB n x ((d, v) :: env) (a.put (some d) v) := ⟨h.toAg.put d v hd, h.defers⟩
theorem dB.sub (h : dB n x env a) (hs : ba r env) : dB n x r a := ⟨h.toAg.sub hs, h.defers⟩
def C (P : Program) (f : FuncId) (args : Array Value) (h : yB) (R : Value -> yB -> Prop) : Prop :=
 ∀ (x : Fx) (d : Nat), Calls P f args (W x h d) fun e w' => ∃ v h' d', e = .returned v /\ w' = W x h' d' /\ R v h'
theorem C.mono {P : Program} {f : FuncId} {args : Array Value} {h : yB} {R R' : Value -> yB -> Prop} (hc : C P f args h R) (hr : ∀ v h', R v h' -> R' v h') : C P f args h R' :=
 fun x d => (hc x d).mono fun _ _ ⟨v, h', d', h1, h2, h3⟩ => ⟨v, h', d', h1, h2, hr v h' h3⟩
abbrev yR := Exit -> yW -> yB -> Prop
def ZA (n : Nat) (x : Fx) (Q : yR) : Exit -> Act -> World -> Prop :=
 fun e a w => ∃ env h d, dB n x env a /\ w = W x h d /\ Q e env h
def T (P : Program) (n : Nat) (c : Code) (env : yW) (h : yB) (Q : yR) : Prop :=
 ∀ (x : Fx) (d : Nat) (a : Act), dB n x env a -> c.wp P (ZA n x Q) a (W x h d)
def uT (P : Program) (n : Nat) (c : Code) (Q : yR) : yR
 | .normal, env, h => T P n c env h Q
 | e, env, h => Q e env h
def qf (id : Nat) (Q : yR) : yR
 | .exit i, env, h => if i = id then Q .normal env h else Q (.exit i) env h
 | e, env, h => Q e env h
section
variable {P : Program} {n : Nat} {env : yW} {h : yB} {Q : yR}
variable {a b : Code}
theorem zy (ht : T P n a env h (uT P n b Q)) : T P n (.seq a b) env h Q := by
 intro x d act hag;refine wp_seq (wp_mono (ht x d act hag) ?_);rintro e a' w' ⟨env', h', d', hag', rfl, hq⟩;cases e with
 | normal => exact hq x d' a' hag'
 | _ => exact ⟨env', h', d', hag', rfl, hq⟩
variable {c : Code}
theorem zc (ht : T P n c env h Q) : uT P n c Q .normal env h := ht
variable {i : Nat}
theorem ku (hq : Q (.exit i) env h) : uT P n c Q (.exit i) env h := hq
theorem wh (hq : Q .ret env h) : uT P n c Q .ret env h := hq
variable {id : Nat}
theorem uO (ht : T P n c env h (qf id Q)) : T P n (.block id c) env h Q := by
 intro x d act hag;refine wp_block (wp_mono (ht x d act hag) ?_);rintro e a' w' ⟨env', h', d', hag', rfl, hq⟩;cases e with
 | exit i =>
   simp only [Exit.inBlock];simp only [qf] at hq
   split
   ·rename_i hi; rw [if_pos hi] at hq; exact ⟨env', h', d', hag', rfl, hq⟩
   ·rename_i hi; rw [if_neg hi] at hq; exact ⟨env', h', d', hag', rfl, hq⟩
 | _ => exact ⟨env', h', d', hag', rfl, hq⟩
theorem wn (hq : Q .normal env h) : qf id Q .normal env h := hq
theorem jQ (hq : Q .normal env h) : qf id Q (.exit id) env h := by simp only [qf, if_true]; exact hq
theorem G9 (hne : Nat.beq i id = false) (hq : Q (.exit i) env h) : qf id Q (.exit i) env h := by
 have : i ≠ id := by intro e; subst e; simp at hne
 simp only [qf, if_neg this]; exact hq
theorem vf (hq : Q .ret env h) : qf id Q .ret env h := hq
theorem jC (hq : Q .normal env h) : T P n .skip env h Q := fun _ d _ hag => wp_skip ⟨env, h, d, hag, rfl, hq⟩
theorem RH {l : Nat} (hq : Q .normal env h) : T P n (.label l) env h Q := fun _ d _ hag => wp_label ⟨env, h, d, hag, rfl, hq⟩
theorem YP (hq : Q (.exit id) env h) : T P n (.exit id) env h Q := fun _ d _ hag => wp_exit ⟨env, h, d, hag, rfl, hq⟩
theorem wr (hq : Q .ret env h) : T P n .ret env h Q := fun _ d _ hag => wp_ret ⟨env, h, d, hag, rfl, hq⟩
theorem wX {c : Operand} (hc : ev env c = some (.bool true)) (ht : T P n a env h Q) : T P n (.cond c a b) env h Q :=
 fun x d act hag => wp_cond_true (hag.eval hc) (ht x d act hag)
theorem vL {c : Operand} (hc : ev env c = some (.bool false)) (ht : T P n b env h Q) : T P n (.cond c a b) env h Q :=
 fun x d act hag => wp_cond_false (hag.eval hc) (ht x d act hag)
theorem YN {Q' : yR} (ht : T P n c env h Q) (hq : ∀ e env h, Q e env h -> Q' e env h) : T P n c env h Q' :=
 fun x d a hag => wp_mono (ht x d a hag) fun _ _ _ ⟨env, h, d, h1, h2, h3⟩ => ⟨env, h, d, h1, h2, hq _ _ _ h3⟩
theorem Vh (r : yW) (hs : ba r env) (ht : T P n c r h Q) : T P n c env h Q :=
 fun x d a hag => ht x d a (hag.sub hs)
def Wh {α : Type} (S : α -> yW) (H : α -> yB -> Prop) (μ : α -> Nat) (m : Nat) (Q : yR) : yR
 | .normal, env, h => ∃ y, ba (S y) env /\ H y h /\ μ y < m
 | e, env, h => Q e env h
variable {α : Type} {H : α -> yB -> Prop} {S : α -> yW} {m : Nat} {μ : α -> Nat}
theorem jH (hq : Q (.exit i) env h) : Wh S H μ m Q (.exit i) env h := hq
theorem fb (hq : Q .ret env h) : Wh S H μ m Q .ret env h := hq
theorem YO (S : α -> yW) (H : α -> yB -> Prop) (μ : α -> Nat) (y : α) (hs : ba (S y) env) (hH : H y h) (hr : ∀ (y : α) (h : yB), H y h -> T P n c (S y) h (Wh S H μ (μ y) Q)) : T P n (.loop c) env h Q := by
 intro x d a hag b k cs
 have key : ∀ (m : Nat) (y : α) (h : yB) (d : Nat) (a : Act), μ y = m -> dB n x (S y) a -> H y h ->
   ∃ e a' w', ZA n x Q e a' w' /\ Arrives P (lone (b.at a (.code c :: .inLoop c :: k)) cs (W x h d)) b k cs e a' w' := by
  intro m
  induction m using Nat.strongRecOn with
  | _ m ih =>
    intro y h d a hm hag hH;obtain ⟨e, a₁, w₁, hq, harr⟩ := hr y h hH x d a hag b (.inLoop c :: k) cs;obtain ⟨env₁, h₁, d₁, hag₁, rfl, hq⟩ := hq;cases e with
    | normal =>
      obtain ⟨y₁, hs₁, hH₁, hlt⟩ := hq;obtain ⟨e₂, a₂, w₂, hq₂, harr₂⟩ := ih (μ y₁) (hm ▸ hlt) y₁ h₁ d₁ a₁ rfl (hag₁.sub hs₁) hH₁;exact ⟨e₂, a₂, w₂, hq₂, .of_steps (Steps.trans harr (.one step_inLoop)) harr₂⟩
    | exit id => exact ⟨.exit id, a₁, _, ⟨env₁, h₁, d₁, hag₁, rfl, hq⟩, .pass (x := .inLoop c) rfl (fun _ _ => .inl (by simp)) harr⟩
    | goto l => exact ⟨.goto l, a₁, _, ⟨env₁, h₁, d₁, hag₁, rfl, hq⟩, .pass (x := .inLoop c) rfl (fun _ _ => .inl (by simp)) harr⟩
    | ret => exact ⟨.ret, a₁, _, ⟨env₁, h₁, d₁, hag₁, rfl, hq⟩, .pass (x := .inLoop c) rfl (fun _ _ => .inl (by simp)) harr⟩
    | panic ch => exact ⟨.panic ch, a₁, _, ⟨env₁, h₁, d₁, hag₁, rfl, hq⟩, .pass (x := .inLoop c) rfl (fun _ _ => .inl (by simp)) harr⟩
    | outgrown => exact ⟨.outgrown, a₁, _, ⟨env₁, h₁, d₁, hag₁, rfl, hq⟩, .pass (x := .inLoop c) rfl (fun _ _ => .inl (by simp)) harr⟩
 obtain ⟨e, a', w', hq, harr⟩ := key _ y h d a rfl (hag.sub hs) hH;exact ⟨e, a', w', hq, .of_steps (.one step_loop) harr⟩
end
end Go.Eng
namespace Go.Eng
abbrev Mp := Nat -> Option Obj
def mp (h : yB) : Mp := fun b => h[b]?
def Le (m m' : Mp) : Prop := ∀ b o, m b = some o -> m' b = some o
theorem Le.refl (m : Mp) : Le m m := fun _ _ h => h
theorem Le.trans {a b c : Mp} (h : Le a b) (k : Le b c) : Le a c := fun x o hx => k x o (h x o hx)
def yz (P : Program) (n : Nat) (o : Oper) (env : yW) (v : Value) : Prop :=
 ∀ a w, Ag n env a -> (execOp a.eval o).run P w = .ok (.value v) w
def vj (P : Program) (n : Nat) (o : Oper) (env : yW) (h : yB) (v : Value) : Prop :=
 ∀ a w, Ag n env a -> Le (mp h) (mp w.heap) -> (execOp a.eval o).run P w = .ok (.value v) w
variable {P : Program} {env : yW} {h : yB} {n : Nat} {o : Oper}
theorem yz.read {v : Value} (hp : yz P n o env v) : vj P n o env h v := fun a w ha _ => hp a w ha
def gj (P : Program) (n : Nat) (Q : yR) (o : Oper) (env : yW) (h : yB) (K : yW -> yB -> Prop) : Prop :=
 ∀ (x : Fx) (d : Nat) (a : Act), dB n x env a ->
  o.wp P a (W x h d) (fun a' w' => ∃ env' h' d', dB n x env' a' /\ w' = W x h' d' /\ K env' h') (ZA n x Q)
theorem gj.mono {Q : yR} {K K' : yW -> yB -> Prop} (hs : gj P n Q o env h K) (hk : ∀ e h, K e h -> K' e h) : gj P n Q o env h K' :=
 fun x d a ha => Oper.wp_mono (fun _ _ ⟨e, h, d, h1, h2, h3⟩ => ⟨e, h, d, h1, h2, hk _ _ h3⟩) (hs x d a ha)
def fe : List Oper -> Nat -> Option Oper
 | [], _ => none
 | o :: _, 0 => some o
 | _ :: r, i + 1 => fe r i
theorem qw (l : List Oper) (i : Nat) : l.toArray[i]? = fe l i := by
 induction l generalizing i with
 | nil => simp [fe]
 | cons o r ih =>
   cases i with
   | zero => simp [fe]
   | succ i => have := ih i; simp only [List.getElem?_toArray] at this ⊢; simpa [fe] using this
def Gk (l : List Oper) (j : Nat) : Option Nat := (fe l j).bind (·.dst)
def wanted (l : List Oper) (env : yW) (o : Oper) : Option Bool :=
 match o.guard with
 | none => some true
 | some (j, want) =>
   match Gk l j with
   | none => none
   | some t => match lk env t with
     | some (.bool b) => some (b == want)
     | some (.tuple _) => some false
     | _ => none
theorem wg {l : List Oper} {a : Act} {b : Bool} (ha : Ag n env a) (h : wanted l env o = some b) :
  Region.wanted o (yielded l.toArray a.tmps) = b := by
 unfold wanted at h;unfold Region.wanted
 split at h
 ·rename_i hg; rw [hg]; simpa using h
 ·rename_i j want hg
  rw [hg];simp only
  split at h
  ·cases h
  ·rename_i t ht
   split at h
   ·rename_i b' hb
    have h1 := ha.at_ t _ hb
    have h2 : yielded l.toArray a.tmps j = some b' := by
     unfold yielded;rw [qw];unfold Gk at ht;rw [ht]
     simp [h1]
    rw [h2];simp only [Option.some.injEq] at h;subst h
    rfl
   ·rename_i vs hb
    have h1 := ha.at_ t _ hb
    have h2 : yielded l.toArray a.tmps j = none := by
     unfold yielded;rw [qw];unfold Gk at ht;rw [ht]
     simp [h1]
    rw [h2];simp only [Option.some.injEq] at h;subst h
    rfl
   ·cases h
def V (P : Program) (n : Nat) (l0 : List Oper) (l : List Oper) (env : yW) (h : yB) (Q : yR) : Prop :=
 ∀ (x : Fx) (d : Nat) (a : Act), dB n x env a -> wpList P l0.toArray (ZA n x Q) l a (W x h d)
section
variable {P : Program} {n : Nat} {env : yW} {h : yB} {Q : yR} {l0 l : List Oper} {o : Oper} {v : Value} {d : Nat}
theorem zh {id : Nat} (hv : V P n l0 l0 env h Q) : T P n (.region id l0.toArray false) env h Q :=
 fun x d a hag => wp_region_lit (hv x d a hag)
theorem zE (hq : Q .normal env h) : V P n l0 [] env h Q := fun _ d _ hag => wpList_nil ⟨env, h, d, hag, rfl, hq⟩
theorem yh (hs : gj P n Q o env h fun env' h' => V P n l0 l env' h' Q) (hw : wanted l0 env o = some true) : V P n l0 (o :: l) env h Q := by
 intro x d a hag;unfold wpList;rw [if_pos (wg hag.toAg hw)];refine .inl (Oper.wp_mono ?_ (hs x d a hag));rintro a' w' ⟨env', h', d', hag', rfl, hv⟩;exact hv x d' a' hag'
theorem vj.step {K : yW -> yB -> Prop} (hr : vj P n o env h v) (hd : o.dst = some d) (hn : Nat.blt d n = true) (hk : K ((d, v) :: env) h) : gj P n Q o env h K := by
 intro x dr a hag;unfold Oper.wp;rw [hr a (W x h dr) hag (Le.refl _), Oper.upon_value, hd];exact ⟨_, h, dr, hag.put d v (by simpa [Nat.blt_eq] using hn), rfl, hk⟩
theorem zJ (hr : vj P n o env h v) (hd : o.dst = some d) (hn : Nat.blt d n = true) (hw : wanted l0 env o = some true) (hk : V P n l0 l ((d, v) :: env) h Q) : V P n l0 (o :: l) env h Q :=
 yh (hr.step hd hn hk) hw
theorem zd (hr : yz P n o env v) (hd : o.dst = some d) (hn : Nat.blt d n = true) (hw : wanted l0 env o = some true) (hk : V P n l0 l ((d, v) :: env) h Q) : V P n l0 (o :: l) env h Q :=
 zJ hr.read hd hn hw hk
theorem ab (hw : wanted l0 env o = some false) (hd : o.dst = some d) (hn : Nat.blt d n = true) (hk : V P n l0 l ((d, undef) :: env) h Q) : V P n l0 (o :: l) env h Q := by
 intro x dr a hag;unfold wpList;rw [if_neg (by rw [wg hag.toAg hw]; simp), hd];exact hk x dr _ (hag.put d undef (by simpa [Nat.blt_eq] using hn))
end
def Yl (P : Program) (ops : Array Oper) (pure : Bool) (o : Oper) (v : Value) (a : Act) (w : World) : Prop :=
 (Region.wanted o (yielded ops a.tmps) = true /\ ∀ w', (pure = true \/ Le (mp w.heap) (mp w'.heap)) -> (execOp a.eval o).run P w' = .ok (.value v) w') \/
 (Region.wanted o (yielded ops a.tmps) = false /\ v = undef)
def opE (P : Program) (ops : Array Oper) (wild : Nat -> Bool) (Q : Exit -> Act -> World -> Prop) (i : Nat) (K : Act -> World -> Prop) (a : Act) (w : World) : Prop :=
 match ops[i]? with
 | none => K a w
 | some o => if Region.wanted o (yielded ops a.tmps) then o.wp P a w (fun a' w' => (wild i = true \/ Le (mp w.heap) (mp w'.heap)) /\ K a' w') Q else K (a.put o.dst undef) w
def YM (P : Program) (ops : Array Oper) (wild : Nat -> Bool) (Q : Exit -> Act -> World -> Prop) : Nat -> Array Bool -> Act -> World -> Prop
 | 0, listed, a, w => Region.ready .any ops listed = [] /\ Q .normal a w
 | fuel + 1, listed, a, w =>
   (Region.ready .any ops listed = [] -> Q .normal a w) /\
   ∀ i ∈ Region.ready .any ops listed, opE P ops wild Q i (YM P ops wild Q fuel (listed.setIfInBounds i true)) a w
section
variable {P : Program} {ops : Array Oper} {wild : Nat -> Bool} {Q : Exit -> Act -> World -> Prop}
variable {K K' : Act -> World -> Prop} {a : Act} {i : Nat} {w : World}
theorem Zs (h : ∀ a w, K a w -> K' a w) (hh : opE P ops wild Q i K a w) : opE P ops wild Q i K' a w := by
 unfold opE at *
 split
 ·rename_i ho; simp only [ho] at hh; exact h _ _ hh
 ·rename_i o ho
  simp only [ho] at hh
  split
  ·rename_i hw; simp only [hw, if_true] at hh; exact Oper.wp_mono (fun _ _ k => ⟨k.1, h _ _ k.2⟩) hh
  ·rename_i hw; simp only [hw] at hh; exact h _ _ hh
theorem Jo (h : ∀ a w, K a w -> K' a w) (hh : opE P ops wild Q i K a w) : wpOp P ops Q i K' a w := by
 unfold opE at hh;unfold wpOp
 split
 ·rename_i ho; simp only [ho] at hh; exact h _ _ hh
 ·rename_i o ho
  simp only [ho] at hh
  split
  ·rename_i hw; simp only [hw, if_true] at hh; exact .inl (Oper.wp_mono (fun _ _ k => h _ _ k.2) hh)
  ·rename_i hw; simp only [hw] at hh; exact h _ _ hh
theorem kN : ∀ (fuel : Nat) (listed : Array Bool) (a : Act) (w : World), YM P ops wild Q fuel listed a w -> wpAny P .any ops Q fuel listed a w
 | 0, _, _, _, h => h
 | fuel + 1, _, _, _, h => ⟨h.1, fun i hi => Jo (fun a w => kN fuel _ a w) (h.2 i hi)⟩
variable {o : Oper} {p : Bool} {v : Value}
theorem Yl.opE (hi : ops[i]? = some o) (hy : Yl P ops p o v a w) (h : K (a.put o.dst v) w) : opE P ops wild Q i K a w := by
 unfold Eng.opE;simp only [hi];rcases hy with ⟨hw, hv⟩ | ⟨hw, rfl⟩
 ·simp only [hw, if_true, Oper.wp, hv w (.inr (Le.refl _)), Oper.upon]; exact ⟨.inr (Le.refl _), h⟩
 ·simp only [hw, Bool.false_eq_true, if_false]; exact h
theorem Yl.of_same {a' : Act} {w' : World} (hy : Yl P ops p o v a w) (he : execOp a'.eval o = execOp a.eval o) (hw : Region.wanted o (yielded ops a'.tmps) = Region.wanted o (yielded ops a.tmps)) (hl : p = true \/ Le (mp w.heap) (mp w'.heap)) : Yl P ops p o v a' w' := by
 unfold Yl at *;rw [he, hw];rcases hy with ⟨h1, h2⟩ | h
 ·refine .inl ⟨h1, fun w'' h3 => h2 w'' ?_⟩;rcases hl with hl | hl
  ·exact .inl hl
  ·rcases h3 with h3 | h3
   ·exact .inl h3
   ·exact .inr (hl.trans h3)
 ·exact .inr h
variable {oi : Oper}
theorem PJ {j : Nat} {oj : Oper} (hj : ops[j]? = some oj) (hap : oi.apart ops oj = true) (hsi : ∀ cs b, oi.op ≠ .select cs b) (hsj : ∀ cs b, oj.op ≠ .select cs b) (hwl : p = true \/ wild j = false) (hQ : ∀ c a w, Q (.panic c) (a.put oi.dst v) w -> Q (.panic c) a w) (hy : Yl P ops p oi v a w) (h : opE P ops wild Q j K (a.put oi.dst v) w) :
  opE P ops wild Q j (fun a' w' => Yl P ops p oi v a' w' /\ K (a'.put oi.dst v) w') a w := by
 obtain ⟨h1, h2, h3⟩ := Oper.apart_spec hap
 have keep : ∀ (a : Act) (w w' : World), (p = true \/ Le (mp w.heap) (mp w'.heap)) -> Yl P ops p oi v a w -> ∀ u, Yl P ops p oi v (a.put oj.dst u) w' := fun a w w' hl hy u =>
  hy.of_same (execOp_put oi hsi a oj.dst u h3) (wanted_put oi a oj.dst u h3) hl
 have keepD : ∀ d, Yl P ops p oi v { a with defers := d :: a.defers } w := fun d => hy.of_same rfl rfl (.inr (Le.refl _))
 have lets : ∀ w' : World, (wild j = true \/ Le (mp w.heap) (mp w'.heap)) -> (p = true \/ Le (mp w.heap) (mp w'.heap)) := fun w' hh => by
  rcases hwl with hp | hp
  ·exact .inl hp
  ·rcases hh with hh | hh
   ·rw [hp] at hh; cases hh
   ·exact .inr hh
 unfold opE at *;simp only [hj] at *;rw [wanted_put oj a oi.dst v h1] at h
 split
 ·rename_i hw
  simp only [hw, if_true] at h;unfold Oper.wp at *;rw [execOp_put oj hsj a oi.dst v h1] at h;generalize (execOp a.eval oj).run P w = r at *;cases r with
  | ok n w' =>
    cases n <;> simp only [Oper.upon] at h ⊢
    case value u => exact ⟨h.1, keep a w w' (lets _ h.1) hy u, by rw [<- Act.put_comm a v u h2]; exact h.2⟩
    case skip => exact ⟨h.1, keep a w w' (lets _ h.1) hy _, by rw [<- Act.put_comm a v undef h2]; exact h.2⟩
    case defer d =>
     refine ⟨h.1, keep _ w w' (lets _ h.1) (keepD d) _, ?_⟩;have := h.2;rw [<- Act.put_comm _ v undef h2, <- Act.put_defers];exact this
    case enter f args =>
     refine Calls.mono h fun e w'' he => ?_;cases e with
     | returned u => exact ⟨he.1, keep a w w'' (lets _ he.1) hy u, by rw [<- Act.put_comm a v u h2]; exact he.2⟩
     | panicked c => exact hQ _ _ _ he
     | outgrown => exact he
    case row row args => exact Rows.mono h fun u w'' he => ⟨he.1, keep a w w'' (lets _ he.1) hy u, by rw [<- Act.put_comm a v u h2]; exact he.2⟩
  | halt x w' =>
    cases x <;> simp only [Oper.upon] at h ⊢
    case panic u => exact hQ _ _ _ h
 ·rename_i hw
  simp only [hw] at h;exact ⟨keep a w w (.inr (Le.refl _)) hy _, by rw [<- Act.put_comm a v undef h2]; exact h⟩
def cM (i : Nat) : List Oper -> Nat -> List Nat -> List Nat
 | [], _, acc => acc
 | o :: r, k, acc => cM i r (k + 1) (if o.after.any (fun e => Region.binds .any e && (e.on == i || acc.contains e.on)) then k :: acc else acc)
theorem Y8 (i : Nat) : ∀ (l : List Oper) (k : Nat) (acc : List Nat), ∀ x ∈ acc, x ∈ cM i l k acc
 | [], _, _, _, h => h
 | o :: r, k, acc, x, h => by
   unfold cM;refine Y8 i r (k + 1) _ x ?_
   split
   ·exact List.mem_cons_of_mem _ h
   ·exact h
theorem Zq (i : Nat) : ∀ (l : List Oper) (k : Nat) (acc : List Nat), ∀ x ∈ cM i l k acc, x ∈ acc \/
  ∃ o, k <= x /\ l[x - k]? = some o /\ ∃ e ∈ o.after, Region.binds .any e = true /\ (e.on = i \/ e.on ∈ cM i l k acc)
 | [], _, _, _, h => .inl h
 | o :: r, k, acc, x, h => by
   unfold cM at h;have ih := Zq i r (k + 1) _ x h;rcases ih with ih | ⟨o', h1, h2, e, he, hb, h3⟩
   ·split at ih
    ·rename_i hany
     rcases List.mem_cons.1 ih with rfl | ih
     ·refine .inr ⟨o, Nat.le_refl _, by simp, ?_⟩;rw [Array.any_eq_true'] at hany;obtain ⟨e, he, h4⟩ := hany;simp only [Bool.and_eq_true, Bool.or_eq_true, beq_iff_eq, List.contains_iff_mem] at h4;refine ⟨e, he, h4.1, h4.2.imp id fun h5 => ?_⟩;exact Y8 i (o :: r) x acc _ h5
     ·exact .inl ih
    ·exact .inl ih
   ·refine .inr ⟨o', by omega, ?_, e, he, hb, h3⟩;have : x - k = (x - (k + 1)) + 1 := by omega
    rw [this, List.getElem?_cons_succ];exact h2
def uz (l : List Oper) (i : Nat) : List Nat := cM i l 0 []
variable {l : List Oper}
theorem Wi {x : Nat} (h : x ∈ uz l i) : ∃ o, l.toArray[x]? = some o /\ ∃ e ∈ o.after, Region.binds .any e = true /\ (e.on = i \/ e.on ∈ uz l i) := by
 rcases Zq i l 0 [] x h with h | ⟨o, _, h2, h3⟩
 ·cases h
 ·exact ⟨o, by rw [List.getElem?_toArray]; simpa using h2, h3⟩
theorem d5 (hops : ops = l.toArray) (hi : ops[i]? = some oi) (hsel : ∀ (j : Nat) (o : Oper) cs b, ops[j]? = some o -> o.op ≠ .select cs b) (hQ : ∀ c a w, Q (.panic c) (a.put oi.dst v) w -> Q (.panic c) a w) :
  ∀ (fuel : Nat) (listed : Array Bool) (a : Act) (w : World),
   (∀ j oj, ops[j]? = some oj -> j ≠ i -> listed.getD j true = false -> j ∉ uz l i -> oi.apart ops oj = true /\ (p = true \/ wild j = false)) ->
   (∀ k, listed.getD k false = true -> k ∉ uz l i) ->
   i ∈ Region.ready .any ops listed -> Yl P ops p oi v a w ->
   YM P ops wild Q fuel (listed.setIfInBounds i true) (a.put oi.dst v) w -> YM P ops wild Q (fuel + 1) listed a w := by
 intro fuel
 induction fuel with
 | zero =>
   intro listed a w _ _ hr hy H;refine ⟨fun h => (by rw [h] at hr; cases hr), fun j hj => ?_⟩;by_cases hji : j = i
   ·subst hji; exact hy.opE hi H
   ·have := ready_mono hj hji;rw [H.1] at this;cases this
 | succ fuel ih =>
   intro listed a w hfree hinv hr hy H;refine ⟨fun h => (by rw [h] at hr; cases hr), fun j hj => ?_⟩;by_cases hji : j = i
   ·subst hji; exact hy.opE hi H
   ·have h1 := H.2 j (ready_mono hj hji);obtain ⟨hjun, oj, hoj, hall⟩ := mem_ready.1 hj
    have hnot : j ∉ uz l i := fun hmem => by
     obtain ⟨o, ho, e, he, hb, h3⟩ := Wi hmem;rw [<- hops, hoj] at ho
     injection ho with ho
     subst ho;have h1 := hall e he hb;rcases h3 with heq | h3
     ·have h0 := (mem_ready.1 hr).1;rw [heq] at h1;rcases Nat.lt_or_ge i listed.size with h' | h'
      ·simp [h'] at h0 h1; rw [h0] at h1; cases h1
      ·simp [Array.getElem?_eq_none h'] at h1
     ·exact hinv _ h1 h3
    obtain ⟨hf1, hf2⟩ := hfree j oj hoj hji hjun hnot;have h2 := PJ hoj hf1 (fun cs b => hsel i oi cs b hi) (fun cs b => hsel j oj cs b hoj) hf2 hQ hy h1
    have hfree' : ∀ k ok, ops[k]? = some ok -> k ≠ i -> (listed.setIfInBounds j true).getD k true = false ->
      k ∉ uz l i -> oi.apart ops ok = true /\ (p = true \/ wild k = false) := fun k ok hk hki hun hno => by
     refine hfree k ok hk hki ?_ hno;by_cases hjk : j = k
     ·subst hjk; exact hjun
     ·rw [getD_set_ne true hjk] at hun; exact hun
    have hinv' : ∀ k, (listed.setIfInBounds j true).getD k false = true -> k ∉ uz l i := fun k hk => by
     by_cases hjk : j = k
     ·subst hjk; exact hnot
     ·rw [getD_set_ne false hjk] at hk; exact hinv k hk
    refine Zs (fun a' w' h3 => ih (listed.setIfInBounds j true) a' w' hfree' hinv' (ready_mono hr (Ne.symm hji)) h3.1 ?_) h2;rw [Array.setIfInBounds_comm _ _ hji];exact h3.2
end
inductive Kd where
 | pure | read | kept | wild
def Kd.quiet : Kd -> Bool
 | .pure => true
 | .read => true
 | _ => false
def Kd.isPure : Kd -> Bool
 | .pure => true
 | _ => false
def Kd.isWild : Kd -> Bool
 | .wild => true
 | _ => false
def UT : List (Nat × Kd) -> Nat -> Bool
 | [], _ => false
 | (i, k) :: r, j => (Nat.beq i j && k.isWild) || UT r j
def NL (l : List Oper) (wild : Nat -> Bool) (listed : Array Bool) (i : Nat) (oi : Oper) (p : Bool) : Bool :=
 (fun rs => (List.range l.length).all fun j => j == i || rs.contains j || listed.getD j true || match fe l j with
  | none => true
  | some oj => oi.apart l.toArray oj && (p || !wild j)) (uz l i) &&
 (uz l i).all fun k => !listed.getD k false
def chk (l : List Oper) (wild : Nat -> Bool) : List (Nat × Kd) -> Array Bool -> Bool
 | [], listed => (Region.ready .any l.toArray listed).isEmpty
 | (i, k) :: r, listed =>
   (match fe l i with
    | none => false
    | some o => if k.quiet then (Region.ready .any l.toArray listed).contains i && NL l wild listed i o k.isPure else Region.ready .any l.toArray listed == [i]) &&
   chk l wild r (listed.setIfInBounds i true)
def ak (l : List Oper) : Bool := l.all fun o => match o.op with
 | .select .. => false
 | _ => true
def SD (l : List Oper) (L : List (Nat × Kd)) : Bool :=
 ak l && (L.length == l.length) && chk l (UT L) L (Array.replicate l.length false)
def JC (P : Program) (l : List Oper) (wild : Nat -> Bool) (Q : Exit -> Act -> World -> Prop) : List (Nat × Kd) -> Act -> World -> Prop
 | [], a, w => Q .normal a w
 | (i, k) :: r, a, w =>
   if k.quiet then ∃ o v, fe l i = some o /\ Yl P l.toArray k.isPure o v a w /\ JC P l wild Q r (a.put o.dst v) w
   else opE P l.toArray wild Q i (JC P l wild Q r) a w
variable {l : List Oper}
theorem ff (h : ak l = true) : ∀ (j : Nat) (o : Oper) cs b, l.toArray[j]? = some o -> o.op ≠ .select cs b := by
 intro j o cs b hj he;unfold ak at h;rw [List.all_eq_true] at h
 have hm : o ∈ l := by
  rw [List.getElem?_toArray] at hj;exact List.mem_of_getElem? hj
 have := h o hm;rw [he] at this;cases this
theorem QW {P : Program} {wild : Nat -> Bool} {Q : Exit -> Act -> World -> Prop} (hsel : ak l = true) (hQ : ∀ c a a' w, a'.tmps.size = a.tmps.size -> a'.defers = a.defers -> Q (.panic c) a' w -> Q (.panic c) a w) :
  ∀ (L : List (Nat × Kd)) (listed : Array Bool) (a : Act) (w : World), chk l wild L listed = true -> JC P l wild Q L a w -> YM P l.toArray wild Q L.length listed a w := by
 intro L
 induction L with
 | nil =>
   intro listed a w hc hs;unfold chk at hc;exact ⟨by simpa using hc, hs⟩
 | cons x r ih =>
   obtain ⟨i, k⟩ := x;intro listed a w hc hs;unfold chk at hc;rw [Bool.and_eq_true] at hc;obtain ⟨hc, hc'⟩ := hc;unfold JC at hs;cases hk : k.quiet with
   | true =>
     rw [if_pos hk] at hs;obtain ⟨o, v, ho, hy, hs⟩ := hs;rw [ho] at hc;simp only [hk, if_true, Bool.and_eq_true] at hc;obtain ⟨hr, hf⟩ := hc;have hi : l.toArray[i]? = some o := by rw [qw]; exact ho
     unfold NL at hf;rw [Bool.and_eq_true] at hf;obtain ⟨hf, hf2⟩ := hf;refine d5 rfl hi (ff hsel) (fun c a w h => hQ c a _ w ?_ ?_ h) r.length listed a w ?_ ?_ (by simpa using hr) hy (ih _ _ _ hc' hs)
     ·cases o.dst <;> simp [Act.put]
     ·cases o.dst <;> simp [Act.put]
     ·intro j oj hj hji hun hno;rw [List.all_eq_true] at hf
      have hlt : j < l.length := by
       have := (Array.getElem?_eq_some_iff.1 hj).1
       simpa using this
      have := hf j (List.mem_range.2 hlt);rw [qw] at hj;rw [hj] at this
      have hno' : (uz l i).contains j = false := by
       cases hcn : (uz l i).contains j with
       | false => rfl
       | true => exact absurd (List.contains_iff_mem.1 hcn) hno
      simp only [hun, hno', beq_eq_false_iff_ne.2 hji, Bool.false_or, Bool.and_eq_true] at this;exact ⟨this.1, by cases hw : wild j <;> simp [hw] at this ⊢ <;> simp [this]⟩
     ·intro k hk hmem;rw [List.all_eq_true] at hf2;have := hf2 k hmem;rw [hk] at this;cases this
   | false =>
     rw [if_neg (by rw [hk]; simp)] at hs
     have hrd : Region.ready .any l.toArray listed = [i] := by
      split at hc
      ·cases hc
      ·simp only [hk, Bool.false_eq_true, if_false] at hc
       simpa using hc
     refine ⟨(fun h => by rw [hrd] at h; cases h), fun j hj => ?_⟩;rw [hrd] at hj;have : j = i := by simpa using hj
     subst this;exact Zs (fun a w hs => ih _ a w hc' hs) hs
def VD (P : Program) (n : Nat) (l : List Oper) (wild : Nat -> Bool) (L : List (Nat × Kd)) (env : yW) (h : yB) (Q : yR) : Prop :=
 ∀ (x : Fx) (d : Nat) (a : Act), dB n x env a -> JC P l wild (ZA n x Q) L a (W x h d)
section
variable {P : Program} {n : Nat} {env : yW} {h : yB} {Q : yR} {l : List Oper} {wild : Nat -> Bool} {L : List (Nat × Kd)} {o : Oper} {v : Value} {d i : Nat}
theorem Ig {id : Nat} (L : List (Nat × Kd)) (hm : P.follows .mixedOrders = true) (hck : SD l L = true) (hQ : ∀ c env env' h, Q (.panic c) env h -> Q (.panic c) env' h)
  (hv : VD P n l (UT L) L env h Q) : T P n (.region id l.toArray true) env h Q := by
 intro x d a hag;unfold SD at hck;simp only [Bool.and_eq_true, beq_iff_eq] at hck;obtain ⟨⟨h1, h2⟩, h3⟩ := hck;have hs := hv x (d + 1) a hag
 have := QW h1 (Q := ZA n x Q) (by
  rintro c a a' w hsz hdf ⟨env, h, d, hag, rfl, hq⟩
  refine ⟨[], h, d, ⟨⟨by rw [<- hsz]; exact hag.size, fun t v ht => by simp [lk] at ht⟩, by rw [<- hdf]; exact hag.defers⟩, rfl, hQ _ _ _ _ hq⟩) L _ a _ h3 hs
 rw [h2] at this;refine wp_region_any hm (kN (wild := UT L) _ _ _ _ ?_);rw [List.size_toArray];exact this
theorem If (hq : Q .normal env h) : VD P n l wild [] env h Q := fun _ d _ hag => ⟨env, h, d, hag, rfl, hq⟩
theorem jq (ho : fe l i = some o) (hr : yz P n o env v) (hd : o.dst = some d) (hn : Nat.blt d n = true) (hw : wanted l env o = some true) (hk : VD P n l wild L ((d, v) :: env) h Q) :
  VD P n l wild ((i, .pure) :: L) env h Q := by
 intro x dr a hag;unfold JC;rw [if_pos (show Kd.quiet _ = true from rfl)];refine ⟨o, v, ho, .inl ⟨wg hag.toAg hw, fun w' _ => hr a w' hag⟩, ?_⟩;rw [hd];exact hk x dr _ (hag.put d v (by simpa [Nat.blt_eq] using hn))
theorem XR (ho : fe l i = some o) (hr : vj P n o env h v) (hd : o.dst = some d) (hn : Nat.blt d n = true) (hw : wanted l env o = some true) (hk : VD P n l wild L ((d, v) :: env) h Q) :
  VD P n l wild ((i, .read) :: L) env h Q := by
 intro x dr a hag;unfold JC;rw [if_pos (show Kd.quiet _ = true from rfl)];refine ⟨o, v, ho, .inl ⟨wg hag.toAg hw, fun w' hw' => hr a w' hag ?_⟩, ?_⟩
 ·rcases hw' with h0 | h0
  ·cases h0
  ·exact h0
 ·rw [hd];exact hk x dr _ (hag.put d v (by simpa [Nat.blt_eq] using hn))
theorem f9 (ho : fe l i = some o) (hs : gj P n Q o env h fun env' h' => Le (mp h) (mp h') /\ VD P n l wild L env' h' Q) (hw : wanted l env o = some true) :
  VD P n l wild ((i, .kept) :: L) env h Q := by
 intro x dr a hag;unfold JC;rw [if_neg (by simp [Kd.quiet])];unfold opE;rw [qw, ho];simp only;rw [if_pos (wg hag.toAg hw)];refine Oper.wp_mono ?_ (hs x dr a hag);rintro a' w' ⟨env', h', d', hag', rfl, hle, hv⟩;exact ⟨.inr hle, hv x d' a' hag'⟩
end
end Go.Eng
namespace Go.Eng
def cF : Lv -> Nat -> Option Value
 | [], _ => none
 | v :: _, 0 => some v
 | _ :: r, i + 1 => cF r i
theorem cE (l : Lv) (i : Nat) : l[i]? = cF l i := by
 induction l generalizing i with
 | nil => simp [cF]
 | cons o r ih => cases i <;> simp [cF, ih]
def Zb (env : yW) : List Operand -> Option Lv
 | [] => some []
 | x :: r => match ev env x with
   | none => none
   | some v => match Zb env r with
     | none => none
     | some vs => some (v :: vs)
variable {a : Act} {env : yW}
theorem aR {n : Nat} (ha : Ag n env a) : ∀ {l : List Operand} {vs : Lv}, Zb env l = some vs -> l.toArray.map a.eval = vs.toArray
 | [], vs, h => by simp [Zb] at h; simp [<- h]
 | x :: r, vs, h => by
   unfold Zb at h
   split at h
   ·cases h
   ·rename_i v hv
    split at h
    ·cases h
    ·rename_i ws hws
     have ih := aR ha hws
     injection h with h
     subst h;have h1 := ha.eval hv;simp only [List.map_toArray] at ih ⊢;rw [List.map_cons, h1]
     simpa using ih
def P8 (env : yW) : List (Nat × Operand) -> Option (List (Nat × Value))
 | [] => some []
 | (i, x) :: r => match ev env x with
   | none => none
   | some v => match P8 env r with
     | none => none
     | some vs => some ((i, v) :: vs)
theorem Qy {n : Nat} (ha : Ag n env a) : ∀ {l : List (Nat × Operand)} {vs : List (Nat × Value)}, P8 env l = some vs -> l.toArray.map (fun (i, x) => (i, a.eval x)) = vs.toArray
 | [], vs, h => by simp [P8] at h; simp [<- h]
 | (i, x) :: r, vs, h => by
   unfold P8 at h
   split at h
   ·cases h
   ·rename_i v hv
    split at h
    ·cases h
    ·rename_i ws hws
     have ih := Qy ha hws
     injection h with h
     subst h;have h1 := ha.eval hv;simp only [List.map_toArray] at ih ⊢;rw [List.map_cons];simp only [h1]
     simpa using ih
def Uo (P : Program) (t : TypeId) : Option Nat := match P.underlying t with
 | some (.slice e) => (P.info? e).map (·.size)
 | _ => none
def single (P : Program) (t : TypeId) : Bool := match P.underlying t with
 | some (.struct _) => false
 | some (.array _ _) => false
 | some _ => true
 | none => false
def foff (P : Program) (s f : Nat) : Option Nat := match P.underlying s with
 | some (.struct fs) => match fs[f]? with
   | some g => match P.info? g.type with
     | some i => if i.size = 0 then none else some g.offset
     | none => none
   | none => none
 | _ => none
def j6 (P : Program) (t : TypeId) : Bool := match P.underlying t with
 | some (.slice _) => true
 | _ => false
def gE (P : Program) (t : TypeId) : Bool := match P.underlying t with
 | some .string => true
 | _ => false
def uJ (P : Program) (t : TypeId) : Bool := match P.underlying t with
 | some (.interface _) => true
 | _ => false
def aN (P : Program) (t : TypeId) (k : IntKind) : Bool := match P.underlying t with
 | some (.int j) => decide (j = k)
 | _ => false
def bI (P : Program) (t : TypeId) : Bool := match P.underlying t with
 | some .bool => true
 | _ => false
def bs (l : Bt) : ByteArray := ⟨l.toArray⟩
theorem jp (l : Bt) : (bs l).size = l.length := by simp [bs, ByteArray.size]
theorem UE (l : Bt) : (bs l).toList = l := ByteArray.toList_mk l
theorem G8 (s : ByteArray) : bs s.data.toList = s := by simp [bs]
def vI (b : UInt8) : Value := .int .u8 b.toNat
variable {n : Int}
theorem fK (h1 : -9223372036854775808 <= n) (h2 : n <= 9223372036854775807) : IntKind.i64.wrap n = n := IntWalk.i64_in n ⟨h1, h2⟩
theorem DI (h1 : -2147483648 <= n) (h2 : n <= 2147483647) : IntKind.i32.wrap n = n := IntWalk.i32_in n ⟨h1, h2⟩
theorem w8 (h1 : -128 <= n) (h2 : n <= 127) : IntKind.i8.wrap n = n := IntWalk.i8_in n ⟨h1, h2⟩
theorem DG (h1 : 0 <= n) (h2 : n <= 255) : IntKind.u8.wrap n = n := IntWalk.u8_in n ⟨h1, h2⟩
section
variable {P : Program} {n : Nat} {env : yW} {h : yB} {dst : Option Tmp} {ty : TypeId} {pos : String} {aft : Array Edge} {gd : Option (Nat × Bool)}
variable {v : Value}
theorem z7 {x : Operand} (hx : ev env x = some v) : yz P n ⟨dst, .move x, ty, pos, aft, gd⟩ env v := by
 intro a w ha; simp [execOp, ha.eval hx]
theorem zr {x : Operand} (hx : ev env x = some v) : yz P n ⟨dst, .assign x, ty, pos, aft, gd⟩ env v := by
 intro a w ha; simp [execOp, ha.eval hx]
theorem wG {c x y : Operand} (hc : ev env c = some (.bool true)) (hx : ev env x = some v) : yz P n ⟨dst, .pick c x y, ty, pos, aft, gd⟩ env v := by
 intro a w ha; simp [execOp, ha.eval hx, ha.eval hc, asBool]
theorem jm {c x y : Operand} (hc : ev env c = some (.bool false)) (hy : ev env y = some v) : yz P n ⟨dst, .pick c x y, ty, pos, aft, gd⟩ env v := by
 intro a w ha; simp [execOp, ha.eval hy, ha.eval hc, asBool]
theorem Il {x : Operand} {b : Addr} (hx : ev env x = some (.pointer (some b))) : yz P n ⟨dst, .nilCheck x, ty, pos, aft, gd⟩ env (.pointer (some b)) := by
 intro a w ha; simp [execOp, ha.eval hx]
-- numbers
variable {t yt : TypeId} {x y : Operand} {k : IntKind} {a b r : Int}
theorem wO (hx : ev env x = some (.int k a)) (hy : ev env y = some (.int k b)) (hr : k.wrap (a + b) = r) : yz P n ⟨dst, .binOp .add t x y yt, ty, pos, aft, gd⟩ env (.int k r) := by
 intro a w ha; simp [execOp, ha.eval hx, ha.eval hy, eqGuard_add, binOp, Op.intArith, hr]
theorem bd (hx : ev env x = some (.int k a)) (hy : ev env y = some (.int k b)) (hr : k.wrap (a - b) = r) : yz P n ⟨dst, .binOp .sub t x y yt, ty, pos, aft, gd⟩ env (.int k r) := by
 intro a w ha; simp [execOp, ha.eval hx, ha.eval hy, eqGuard_sub, binOp, Op.intArith, hr]
theorem Dy (hx : ev env x = some (.int k a)) (hy : ev env y = some (.int k b)) (hr : k.wrap (a * b) = r) : yz P n ⟨dst, .binOp .mul t x y yt, ty, pos, aft, gd⟩ env (.int k r) := by
 intro a w ha; simp [execOp, ha.eval hx, ha.eval hy, eqGuard_mul, binOp, Op.intArith, hr]
theorem qj (hx : ev env x = some (.int k a)) (hy : ev env y = some (.int k b)) : yz P n ⟨dst, .binOp .lss t x y yt, ty, pos, aft, gd⟩ env (.bool (decide (a < b))) := by
 intro a w ha; simp [execOp, ha.eval hx, ha.eval hy, eqGuard_lss, binOp_lss]
theorem Xn (hx : ev env x = some (.int k a)) (hy : ev env y = some (.int k b)) : yz P n ⟨dst, .binOp .leq t x y yt, ty, pos, aft, gd⟩ env (.bool (decide (a <= b))) := by
 intro a w ha; simp [execOp, ha.eval hx, ha.eval hy, eqGuard_leq, binOp_leq]
theorem dy (hx : ev env x = some (.int k a)) (hy : ev env y = some (.int k b)) : yz P n ⟨dst, .binOp .gtr t x y yt, ty, pos, aft, gd⟩ env (.bool (decide (b < a))) := by
 intro a w ha; simp [execOp, ha.eval hx, ha.eval hy, eqGuard_gtr, binOp_gtr]
theorem kh (hx : ev env x = some (.int k a)) (hy : ev env y = some (.int k b)) : yz P n ⟨dst, .binOp .geq t x y yt, ty, pos, aft, gd⟩ env (.bool (decide (b <= a))) := by
 intro a w ha; simp [execOp, ha.eval hx, ha.eval hy, eqGuard_geq, binOp_geq]
theorem y3 (hx : ev env x = some (.int k a)) (hy : ev env y = some (.int k b)) : yz P n ⟨dst, .binOp .eql t x y yt, ty, pos, aft, gd⟩ env (.bool (decide (a = b))) := by
 intro a w ha; simp only [execOp, ha.eval hx, ha.eval hy, eqGuard_at_int, binOp_eql]; simp; rfl
theorem K5 (hx : ev env x = some (.int k a)) (hy : ev env y = some (.int k b)) : yz P n ⟨dst, .binOp .neq t x y yt, ty, pos, aft, gd⟩ env (.bool (decide (¬ a = b))) := by
 intro a' w ha; simp only [execOp, ha.eval hx, ha.eval hy, eqGuard_at_int, binOp_neq]; simp [bne];by_cases hab : a = b <;> simp [hab]
-- strings
variable {s u : Bt}
theorem YR (hx : ev env x = some (.string (bs s))) (hy : ev env y = some (.string (bs u))) : yz P n ⟨dst, .binOp .eql t x y yt, ty, pos, aft, gd⟩ env (.bool (decide (s = u))) := by
 intro a' w ha; simp only [execOp, ha.eval hx, ha.eval hy, eqGuard_at_string, binOp_string_eql, UE]; simp;by_cases hab : s = u <;> simp [hab]
theorem Ij (hx : ev env x = some (.string (bs s))) (hy : ev env y = some (.string (bs u))) : yz P n ⟨dst, .binOp .neq t x y yt, ty, pos, aft, gd⟩ env (.bool (decide (¬ s = u))) := by
 intro a' w ha; simp only [execOp, ha.eval hx, ha.eval hy, eqGuard_at_string, binOp_string_neq, UE]; simp;by_cases hab : s = u <;> simp [hab]
theorem Ik (hx : ev env x = some (.string (bs s))) (hy : ev env y = some (.string (bs u))) (hb : s.length + u.length <= 9223372036854775807) : yz P n ⟨dst, .binOp .add t x y yt, ty, pos, aft, gd⟩ env (.string (bs (s ++ u))) := by
 intro a' w ha;have h1 : ¬ (((bs s).size + (bs u).size : Nat) : Int) > IntKind.i64.max := by rw [IntKind.max_i64, jp, jp]; omega
 simp only [execOp, ha.eval hx, ha.eval hy, eqGuard_add, binOp_string_add, Op.stringOp, if_neg h1]
 simp
 rw [<- G8 (bs s ++ bs u)]
 simp [bs]
theorem yT (hx : ev env x = some (.string (bs s))) (ht : gE P t = true) : yz P n ⟨dst, .call ⟨.builtin .len, #[x], #[t]⟩, ty, pos, aft, gd⟩ env (.int .i64 s.length) := by
 intro a' w ha;unfold gE at ht;have hu : P.underlying t = some .string := by split at ht <;> simp_all
 simp [execOp, resolve, invoke, builtin, Builtin.len_, ha.eval hx, run_underlying hu, goInt, jp]
variable {i : Int}
theorem OY (hx : ev env x = some (.string (bs s))) (hy : ev env y = some (.int k i)) (ht : gE P t = true) (h0 : 0 <= i) (h1 : i < s.length) :
  yz P n ⟨dst, .index t x y, ty, pos, aft, gd⟩ env (vI (s.getD i.toNat 0)) := by
 intro a' w ha;unfold gE at ht;have hu : P.underlying t = some .string := by split at ht <;> simp_all
 have h2 : i.toNat < s.length := by omega
 have h3 : (bs s)[i.toNat]? = some (s.getD i.toNat 0) := by
  rw [ByteArray.getElem?_lt' _ _ (by rw [jp]; exact h2)]
  congr 1
  show (bs s).data[i.toNat] = _
  simp [bs, h2]
 simp [execOp, Instr.index, ha.eval hx, ha.eval hy, asIntOf, run_underlying hu, h0, h3, vI]
-- dv, pointers, nil
theorem kg {b : Bool} (hx : ev env x = some (.bool b)) : yz P n ⟨dst, .unOp .not t x, ty, pos, aft, gd⟩ env (.bool (!b)) := by
 intro a' w ha; simp [execOp, ha.eval hx, Op.unary]
-- conversions
theorem ww {src dk : TypeId} {k' : IntKind} (hs : (P.underlying src).isSome = true) (hd : aN P dk k' = true) (hx : ev env x = some (.int k a)) (hr : k'.wrap a = r) : yz P n ⟨dst, .convert src dk x, ty, pos, aft, gd⟩ env (.int k' r) := by
 intro a' w ha;obtain ⟨ds, hds⟩ := Option.isSome_iff_exists.1 hs
 have hu : P.underlying dk = some (.int k') := by
  unfold aN at hd
  split at hd
  ·simp at hd; subst hd; assumption
  ·cases hd
 simp [execOp, convert, ha.eval hx, run_underlying hds, run_underlying hu, Conv.intToInt, hr]
-- addresses
variable {f o : Nat}
theorem Uk {s : Nat} (hf : foff P s f = some o) : ∃ fs g i, P.underlying s = some (.struct fs) /\ fs[f]? = some g /\ P.info? g.type = some i /\ i.size ≠ 0 /\ g.offset = o := by
 unfold foff at hf
 split at hf
 ·rename_i fs hs
  split at hf
  ·rename_i g hg
   split at hf
   ·rename_i i hi
    split at hf
    ·cases hf
    ·rename_i hz; injection hf with hf; exact ⟨fs, g, i, hs, hg, hi, hz, hf⟩
   ·cases hf
  ·cases hf
 ·cases hf
theorem Xo {s : Nat} {b : Addr} (hf : foff P s f = some o) (hx : ev env x = some (.pointer (some b))) : yz P n ⟨dst, .fieldAddr s x f, ty, pos, aft, gd⟩ env (.pointer (some (b.add o))) := by
 obtain ⟨fs, g, i, h1, h2, h3, h4, h5⟩ := Uk hf;intro a' w ha
 simp [execOp, Instr.fieldAt, ha.eval hx, run_underlying h1, h2, Instr.sureAddr, fieldPlace, sizeOf, typeInfo, h3, h4, h5]
theorem zn {s : Nat} {b p : Nat} (hf : foff P s f = some o) (hx : ev env x = some (.pointer (some ⟨b, p, none⟩))) : yz P n ⟨dst, .fieldAddr s x f, ty, pos, aft, gd⟩ env (.pointer (some ⟨b, p + o, none⟩)) := by
 have := Xo (P := P) (n := n) (dst := dst) (ty := ty) (pos := pos) (aft := aft) (gd := gd) hf hx;rwa [Addr.add_lit] at this
def sa (A : Oa) : Addr := A.getD default
variable {sz : Nat}
theorem Km {t : Nat} (ht : Uo P t = some sz) : ∃ e i, P.underlying t = some (.slice e) /\ P.info? e = some i /\ i.size = sz := by
 unfold Uo at ht
 split at ht
 ·rename_i e he
  cases hi : P.info? e with
  | none => rw [hi] at ht; cases ht
  | some i => rw [hi] at ht; injection ht with ht; exact ⟨e, i, he, hi, ht⟩
 ·cases ht
variable {A : Oa} {c m : Nat}
theorem zQ (ht : Uo P t = some sz) (hx : ev env x = some (.slice A m c)) (hy : ev env y = some (.int k i)) (hA : A.isSome = true) (h0 : 0 <= i) (h1 : i < m) :
  yz P n ⟨dst, .indexAddr t x y, ty, pos, aft, gd⟩ env (.pointer (some ((sa A).add (i.toNat * sz)))) := by
 obtain ⟨e, inf, h2, h3, h4⟩ := Km ht;obtain ⟨ad, rfl⟩ := Option.isSome_iff_exists.1 hA;intro a' w ha
 simp [execOp, Instr.indexAt, ha.eval hx, ha.eval hy, asIntOf, run_underlying h2, h0, h1, sizeOf, typeInfo, h3, h4, sa]
theorem uQ (ht : Uo P t = some 1) (hx : ev env x = some (.slice A m c)) (hy : ev env y = some (.int k i)) (hA : A.isSome = true) (h0 : 0 <= i) (h1 : i < m) :
  yz P n ⟨dst, .indexAddr t x y, ty, pos, aft, gd⟩ env (.pointer (some ((sa A).add i.toNat))) := by
 have := zQ (P := P) (n := n) (dst := dst) (ty := ty) (pos := pos) (aft := aft) (gd := gd) ht hx hy hA h0 h1;rwa [Nat.mul_one] at this
-- len, cap
theorem Jz {t : TypeId} (ht : j6 P t = true) : ∃ e, P.underlying t = some (.slice e) := by
 unfold j6 at ht
 split at ht
 ·exact ⟨_, by assumption⟩
 ·cases ht
theorem UN (ht : j6 P t = true) (hx : ev env x = some (.slice A m c)) : yz P n ⟨dst, .call ⟨.builtin .len, #[x], #[t]⟩, ty, pos, aft, gd⟩ env (.int .i64 m) := by
 obtain ⟨e, he⟩ := Jz ht;intro a' w ha
 simp [execOp, resolve, invoke, builtin, Builtin.len_, ha.eval hx, run_underlying he, goInt]
theorem Fz {ts : Array TypeId} (hx : ev env x = some (.int k a)) (hy : ev env y = some (.int k b)) : yz P n ⟨dst, .call ⟨.builtin .min, #[x, y], ts⟩, ty, pos, aft, gd⟩ env (.int k (min a b)) := by
 intro a' w ha
 simp [execOp, resolve, invoke, builtin, ha.eval hx, ha.eval hy, run_min_int2]
 split <;> omega
-- functions, interfaces, tuples
theorem y0 {fn : Fn} {fi ca : List Operand} {p q : Lv} (hf : Zb env fi = some p) (hc : Zb env ca = some q) : yz P n ⟨dst, .makeFunc fn fi.toArray ca.toArray, ty, pos, aft, gd⟩ env (.func fn p.toArray q.toArray) := by
 intro a' w ha;have h1 := aR ha hf;have h2 := aR ha hc;simp only [execOp, Instr.makeFunc, h1, h2]; rfl
theorem vW (ht : uJ P t = false) (hs : (P.underlying t).isSome = true) (hx : ev env x = some v) : yz P n ⟨dst, .makeInterface t x, ty, pos, aft, gd⟩ env (.iface t v) := by
 intro a' w ha;obtain ⟨ds, hds⟩ := Option.isSome_iff_exists.1 hs;simp only [execOp, Instr.makeInterface, ha.eval hx];unfold uJ at ht;rw [hds] at ht
 simp [run_underlying hds]
 split
 ·simp at ht
 ·simp
theorem LS {l : Lv} {i : Nat} (hx : ev env x = some (.tuple l.toArray)) (hi : cF l i = some v) : yz P n ⟨dst, .extract x i, ty, pos, aft, gd⟩ env v := by
 intro a' w ha;rw [<- cE] at hi
 simp [execOp, Instr.extract, ha.eval hx, hi]
end
end Go.Eng
namespace Go.Eng
def mc (m : Mp) (a : Addr) : Option Value := match m a.block with
 | some (.cells c _ _) => if a.spot.isSome then none else c[a.off]?
 | _ => none
variable {m m' : Mp} {v : Value}
theorem xv (h : Le m m') {a : Addr} (hc : mc m a = some v) : mc m' a = some v := by
 unfold mc at hc ⊢;cases hb : m a.block with
 | none => rw [hb] at hc; cases hc
 | some o => rw [h _ _ hb]; rw [hb] at hc; exact hc
theorem gO (w : World) (a : Addr) : w.cell? a = mc (mp w.heap) a := rfl
variable {b : Nat} {fr : Nat × Nat} {i : Nat} {l : Lv} {t : TypeId}
theorem zZ (hb : m b = some (.cells l.toArray t fr)) (hi : cF l i = some v) : mc m ⟨b, i, none⟩ = some v := by
 simp [mc, hb, cE, hi]
theorem Yh {o : Nat} : mc m ((⟨b, o, none⟩ : Addr).add i) = mc m ⟨b, o + i, none⟩ := by rw [Addr.add_lit]
variable {h : yB} {o : Obj}
theorem qN (hb : mp h b = some o) : b < h.size := by
 unfold mp at hb;exact (Array.getElem?_eq_some_iff.1 hb).1
theorem fT (h : yB) (o : Obj) : Le (mp h) (mp (h.push o)) := fun b u hb => by
 have := qN hb;unfold mp at hb ⊢;rw [Array.getElem?_push, if_neg (by omega)];exact hb
theorem uA (h : yB) (o : Obj) : mp (h.push o) h.size = some o := by simp [mp]
theorem bG (h : yB) : mp h h.size = none := by simp [mp]
theorem IL {h' : yB} (hl : Le (mp h) (mp h')) : h.size <= h'.size := by
 rcases Nat.lt_or_ge h'.size h.size with hlt | hge
 ·exfalso
  have h1 : mp h h'.size = some h[h'.size] := by simp [mp, hlt]
  have := qN (hl _ _ h1);omega
 ·exact hge
theorem Nd {c : Nat} (hb : m b = some o) (hc : m c = none) : b ≠ c := by
 rintro rfl;rw [hb] at hc;cases hc
def Rd (m : Mp) (A : Oa) (vs : Lv) : Prop := ∀ i u, vs[i]? = some u -> A.isSome = true /\ mc m ((sa A).add i) = some u
variable {A : Oa} {vs : Lv}
theorem Rd.mono (hr : Rd m A vs) (h : Le m m') : Rd m' A vs := fun i u hi => ⟨(hr i u hi).1, xv h (hr i u hi).2⟩
theorem Rd.nil (m : Mp) (A : Oa) : Rd m A [] := fun i u hi => by simp at hi
theorem Rd.isSome (hr : Rd m A vs) (h : 0 < vs.length) : A.isSome = true := (hr 0 vs[0] (List.getElem?_eq_getElem h)).1
theorem Rd.at_ (hr : Rd m A vs) {u : Value} (hi : vs[i]? = some u) : mc m ((sa A).add i) = some u := (hr i u hi).2
theorem Rd.map {α : Type} {f : α -> Value} {xs : List α} (hr : Rd m A (xs.map f)) (hi : i < xs.length) : mc m ((sa A).add i) = some (f xs[i]) :=
 hr.at_ (by simp [List.getElem?_map, List.getElem?_eq_getElem hi])
theorem Rd.take (hr : Rd m A vs) (k : Nat) : Rd m A (vs.take k) := fun i u hi => hr i u (by
 rw [List.getElem?_take] at hi
 split at hi
 ·exact hi
 ·cases hi)
theorem Rd.blk (hb : m b = some (.cells l.toArray t fr)) : Rd m (some ⟨b, 0, none⟩) l := fun i u hi => by
 refine ⟨rfl, ?_⟩;show mc m ((⟨b, 0, none⟩ : Addr).add i) = some u;rw [Yh]
 simp [mc, hb, hi]
theorem XP (a : Addr) (i j : Nat) : (a.add i).add j = a.add (i + j) := by
 unfold Addr.add;by_cases hi : i = 0 <;> by_cases hj : j = 0 <;> simp [hi, hj, Nat.add_assoc]
theorem S4 (A : Oa) (k : Nat) (h : A.isSome = true) : sa (A.map (·.add k)) = (sa A).add k := by
 obtain ⟨a, rfl⟩ := Option.isSome_iff_exists.1 h
 rfl
def Xz (A : Oa) (l m sz : Nat) : Oa := if m = l then A else A.map (·.add (l * sz))
theorem Rd.cut (hr : Rd m A vs) {l mm sz : Nat} (k : Nat) (hk : l + k <= mm) : Rd m (Xz A l mm sz) ((vs.drop (l * sz)).take (k * sz)) := by
 intro i u hi;rw [List.getElem?_take] at hi
 split at hi
 ·rename_i hlt
  rw [List.getElem?_drop] at hi;have h1 := hr _ u hi
  have hne : mm ≠ l := by
   intro e;have : k = 0 := by omega
   subst this
   simp at hlt
  unfold Xz;rw [if_neg hne, S4 _ _ h1.1, XP];exact ⟨by simpa using h1.1, h1.2⟩
 ·cases hi
section
variable {P : Program} {n : Nat} {env : yW} {h : yB} {dst : Option Tmp} {ty : TypeId} {pos : String} {aft : Array Edge} {gd : Option (Nat × Bool)}
variable {t : TypeId} {x y : Operand}
theorem kY (ht : single P t = true) (w : World) : (isAgg t).run P w = .ok false w := by
 unfold single at ht;unfold isAgg
 split at ht <;> try cases ht
 rename_i d h1 h2 hd
 simp only [Sem.run_bind, run_underlying hd, Result.andThen_ok];cases d <;> first | rfl | exact (h1 _ rfl).elim | exact (h2 _ _ rfl).elim
variable {a : Addr}
theorem yo {v : Value} (ht : single P t = true) (hx : ev env x = some (.pointer (some a))) (hc : mc (mp h) a = some v) : vj P n ⟨dst, .load t x, ty, pos, aft, gd⟩ env h v := by
 intro act w ha hl;have h1 : w.cell? a = some v := by rw [gO]; exact xv hl hc
 simp only [execOp, Instr.loadAt, ha.eval hx, Instr.sureAddr, loadVar]
 simp [kY ht, h1]
def vq (P : Program) (t : TypeId) : Option Nat := match P.underlying t with
 | some (.struct _) => (P.info? t).map (·.size)
 | some (.array _ _) => (P.info? t).map (·.size)
 | _ => none
variable {k : Nat}
theorem ke {t : Nat} (ht : vq P t = some k) : (∀ w, (isAgg t).run P w = .ok true w) /\ ∃ i, P.info? t = some i /\ i.size = k := by
 unfold vq at ht
 split at ht
 ·rename_i fs hd
  refine ⟨fun w => by unfold isAgg; simp [run_underlying hd], ?_⟩;cases hi : P.info? t with
  | none => rw [hi] at ht; cases ht
  | some i => rw [hi] at ht; injection ht with ht; exact ⟨i, rfl, ht⟩
 ·rename_i c e hd
  refine ⟨fun w => by unfold isAgg; simp [run_underlying hd], ?_⟩;cases hi : P.info? t with
  | none => rw [hi] at ht; cases ht
  | some i => rw [hi] at ht; injection ht with ht; exact ⟨i, rfl, ht⟩
 ·cases ht
theorem LQ {l : Lv} (ht : vq P t = some k) (hx : ev env x = some (.pointer (some a))) (hl : l.length = k) (hc : ∀ i u, l[i]? = some u -> mc (mp h) (a.add i) = some u) :
  vj P n ⟨dst, .load t x, ty, pos, aft, gd⟩ env h (.agg l.toArray) := by
 obtain ⟨h1, i, hi, hs⟩ := ke ht;intro act w ha hle;have h2 : (loadCells a l.length).run P w = .ok l.toArray w := run_loadCells_list w a l fun j v hj => by rw [gO]; exact xv hle (hc j v hj)
 simp only [execOp, Instr.loadAt, ha.eval hx, Instr.sureAddr, loadVar];rw [hl] at h2
 simp [h1, sizeOf, typeInfo, hi, hs, h2]
-- cuts
theorem Gl {t sz : Nat} (ht : Uo P t = some sz) : P.underlying t = some (.slice (P.elem t)) /\ ∀ w, (sizeOf (P.elem t)).run P w = .ok sz w := by
 obtain ⟨e, i, h1, h2, h3⟩ := Km ht;have he : P.elem t = e := by unfold Program.elem; rw [h1]
 refine ⟨by rw [he]; exact h1, fun w => ?_⟩;rw [he]
 simp [sizeOf, typeInfo, h2, h3]
variable {A : Oa} {m c sz : Nat} {lo hi mx : Operand} {k1 k2 k3 : IntKind} {l1 l2 l3 : Int}
theorem LR (ln : Nat) (ht : Uo P t = some sz) (hx : ev env x = some (.slice A m c)) (h1 : ev env lo = some (.int k1 l1)) (e1 : l1 = ln) (g1 : ln <= m) : yz P n ⟨dst, .slice t x (some lo) none none, ty, pos, aft, gd⟩ env (.slice (Xz A ln c sz) (m - ln) (c - ln)) := by
 obtain ⟨hu, hs⟩ := Gl ht;subst e1;intro a w ha;simp only [execOp, ha.eval hx, Option.map_some, Option.map_none, ha.eval h1, Sem.run_bind, run_sliceAt_slice w t _ _ _ _ hu];rw [run_slice_l w t A m c hu k1 ln (by omega) (by omega), hs]
 simp [sliced, Xz]
variable {s : Bt}
theorem dG (ht : gE P t = true) : P.underlying t = some .string := by
 unfold gE at ht; split at ht <;> simp_all
theorem d4 (s : Bt) (a b : Nat) : (bs s).extract a b = bs ((s.drop a).take (b - a)) := by
 rw [<- G8 ((bs s).extract a b)]
 simp [bs, ByteArray.extract, ByteArray.copySlice]
theorem K4 (ln hn : Nat) (ht : gE P t = true) (hx : ev env x = some (.string (bs s))) (h1 : ev env lo = some (.int k1 l1)) (h2 : ev env hi = some (.int k2 l2)) (e1 : l1 = ln) (e2 : l2 = hn) (g1 : ln <= hn) (g2 : hn <= s.length) : yz P n ⟨dst, .slice t x (some lo) (some hi) none, ty, pos, aft, gd⟩ env (.string (bs ((s.drop ln).take (hn - ln)))) := by
 subst e1 e2;intro a w ha;simp only [execOp, ha.eval hx, Option.map_some, Option.map_none, ha.eval h1, ha.eval h2, Sem.run_bind, run_sliceAt_string w t _ _ _ _ (dG ht)];have h3 : ((hn : Int)) <= ((bs s).size : Int) := by rw [jp]; omega
 simp [Instr.slice, run_underlying (dG ht), Instr.sliceBounds, run_sliceBound w k2 hn (bs s).size _ (by omega) h3, run_sliceBound w k1 ln hn _ (by omega) (by omega), d4]
theorem ae (ln : Nat) (ht : gE P t = true) (hx : ev env x = some (.string (bs s))) (h1 : ev env lo = some (.int k1 l1)) (e1 : l1 = ln) (g1 : ln <= s.length) : yz P n ⟨dst, .slice t x (some lo) none none, ty, pos, aft, gd⟩ env (.string (bs (s.drop ln))) := by
 subst e1;intro a w ha;simp only [execOp, ha.eval hx, Option.map_some, Option.map_none, ha.eval h1, Sem.run_bind, run_sliceAt_string w t _ _ _ _ (dG ht)];have h3 : ((ln : Int)) <= (s.length : Int) := by omega
 simp [Instr.slice, run_underlying (dG ht), Instr.sliceBounds, run_sliceBound w k1 ln s.length _ (by omega) h3, d4, jp]
 rw [List.take_of_length_le (by simp)]
theorem Ii (hn : Nat) (ht : gE P t = true) (hx : ev env x = some (.string (bs s))) (h2 : ev env hi = some (.int k2 l2)) (e2 : l2 = hn) (g2 : hn <= s.length) : yz P n ⟨dst, .slice t x none (some hi) none, ty, pos, aft, gd⟩ env (.string (bs (s.take hn))) := by
 subst e2;intro a w ha;simp only [execOp, ha.eval hx, Option.map_some, Option.map_none, ha.eval h2, Sem.run_bind, run_sliceAt_string w t _ _ _ _ (dG ht)];have h3 : ((hn : Int)) <= ((bs s).size : Int) := by rw [jp]; omega
 simp [Instr.slice, run_underlying (dG ht), Instr.sliceBounds, run_sliceBound w k2 hn (bs s).size _ (by omega) h3, d4]
-- structs by value, struct literals
def wz (P : Program) (t : TypeId) : Option Lv := match P.info? t with
 | some i => i.zero.map fun z => z.cells.toList
 | none => none
def vZ (P : Program) (t : TypeId) : Option (List (Nat × Nat)) := match P.underlying t with
 | some (.struct fs) => fs.toList.mapM fun f => match P.info? f.type with
   | some i => some (f.offset, i.size)
   | none => none
 | _ => none
def Gt : Lv -> Nat -> Lv -> Lv
 | l, _, [] => l
 | l, i, v :: r => Gt (l.set i v) (i + 1) r
def MZ : List (Nat × Nat) -> Nat -> Option (Nat × Nat)
 | [], _ => none
 | p :: _, 0 => some p
 | _ :: r, i + 1 => MZ r i
def Kk (pl : List (Nat × Nat)) : Lv -> List (Nat × Value) -> Option Lv
 | cs, [] => some cs
 | cs, (i, v) :: r => match MZ pl i with
   | none => none
   | some (off, k) => match Nat.beq v.cells.toList.length k && Nat.ble (off + v.cells.toList.length) cs.length with
     | true => Kk pl (Gt cs off v.cells.toList) r
     | false => none
end
end Go.Eng
namespace Go.Eng
section
variable {P : Program} {n : Nat} {env : yW} {h : yB} {Q : yR} {K : yW -> yB -> Prop} {dst : Option Tmp} {d : Nat} {ty : TypeId} {pos : String} {aft : Array Edge} {gd : Option (Nat × Bool)}
variable {t : TypeId} {x y : Operand}
variable {o : Oper} {v : Value}
theorem qp (hd : o.dst = some d) (hn : Nat.blt d n = true) (hr : ∀ (x : Fx) (dr : Nat) (a : Act), dB n x env a -> ∃ h' dr', (execOp a.eval o).run P (W x h dr) = .ok (.value v) (W x h' dr') /\ K ((d, v) :: env) h') : gj P n Q o env h K := by
 intro x dr a hag;obtain ⟨h', dr', h1, h2⟩ := hr x dr a hag;unfold Oper.wp;rw [h1, Oper.upon_value, hd];exact ⟨_, h', dr', hag.put d v (by simpa [Nat.blt_eq] using hn), rfl, h2⟩
theorem gI (hd : o.dst = none) (hr : ∀ (x : Fx) (dr : Nat) (a : Act), dB n x env a -> ∃ h' dr', (execOp a.eval o).run P (W x h dr) = .ok .skip (W x h' dr') /\ K env h') : gj P n Q o env h K := by
 intro x dr a hag;obtain ⟨h', dr', h1, h2⟩ := hr x dr a hag;unfold Oper.wp;rw [h1, Oper.upon_skip, hd];exact ⟨_, h', dr', hag, rfl, h2⟩
variable {z : Lv}
theorem dC (hz : wz P t = some z) : ∀ w, ∃ v, (zeroValue t).run P w = .ok v w /\ v.cells = z.toArray := by
 intro w;unfold wz at hz
 split at hz
 ·rename_i i hi
  cases hzz : i.zero with
  | none => rw [hzz] at hz; cases hz
  | some v =>
    rw [hzz] at hz;simp only [Option.map_some, Option.some.injEq] at hz;refine ⟨v, by simp [zeroValue, typeInfo, hi, hzz], by rw [<- hz]⟩
 ·cases hz
theorem IC (cs vs : Lv) (off : Nat) : (vs.toArray.zipIdx.foldl (fun cs (c, j) => cs.setIfInBounds (off + j) c) cs.toArray) = (Gt cs off vs).toArray := by
 have key : ∀ (vs : Lv) (k : Nat) (cs : Lv), ((vs.zipIdx k).foldl (fun (cs : Array Value) (p : Value × Nat) => cs.setIfInBounds (off + p.2) p.1) cs.toArray) = (Gt cs (off + k) vs).toArray := by
  intro vs
  induction vs with
  | nil => intro k cs; simp [Gt]
  | cons v r ih =>
    intro k cs;simp only [List.zipIdx_cons, List.foldl_cons, Gt];have h1 : cs.toArray.setIfInBounds (off + k) v = (cs.set (off + k) v).toArray := by simp
    rw [h1, ih, Nat.add_assoc]
 have := key vs 0 cs;simp only [Nat.add_zero] at this;rw [<- this]
 simp
theorem PG (l : List (Nat × Nat)) (i : Nat) : l[i]? = MZ l i := by
 induction l generalizing i with
 | nil => simp [MZ]
 | cons o r ih => cases i <;> simp [MZ, ih]
variable {pl : List (Nat × Nat)}
theorem WR : ∀ {ps : List (Nat × Value)} {z cs : Lv}, Kk pl z ps = some cs -> Instr.fill (pl.toArray[·]?) z.toArray ps = some cs.toArray
 | [], z, cs, hf => by simp only [Kk, Option.some.injEq] at hf; simp [Instr.fill, hf]
 | (i, v) :: r, z, cs, hf => by
   unfold Kk at hf
   split at hf
   ·cases hf
   ·rename_i off k hp
    split at hf
    ·rename_i hb
     simp only [Bool.and_eq_true, Nat.ble_eq] at hb;obtain ⟨hb1, hb2⟩ := hb;have hb1 := Nat.eq_of_beq_eq_true hb1;have ih := WR hf;unfold Instr.fill;have hpl : pl.toArray[i]? = some (off, k) := by rw [List.getElem?_toArray, PG, hp]
     simp only [hpl];have e1 : v.cells.size = k := by rw [<- hb1]; simp
     have e2 : off + v.cells.size <= z.length := by simpa using hb2
     rw [if_neg (by simp [e1]; omega)];have := IC z v.cells.toList off;simp only [Array.toArray_toList] at this;rw [this];exact ih
    ·cases hf
theorem U9 (hp : vZ P t = some pl) :
  ∃ fs, P.underlying t = some (.struct fs) /\ ∀ w, (fs.mapM fun f => (do pure (f.offset, <- sizeOf f.type) : Sem (Nat × Nat))).run P w = .ok pl.toArray w := by
 unfold vZ at hp
 split at hp
 ·rename_i fs hu
  refine ⟨fs, hu, fun w => ?_⟩
  have key : ∀ (l : List Field) (pl : List (Nat × Nat)), l.mapM (fun f => match P.info? f.type with
    | some i => some (f.offset, i.size)
    | none => none) = some pl -> (l.mapM fun f => (do pure (f.offset, <- sizeOf f.type) : Sem (Nat × Nat))).run P w = .ok pl w := by
   intro l
   induction l with
   | nil => intro pl hp; simp at hp; subst hp; simp
   | cons f r ih =>
     intro pl hp;rw [List.mapM_cons] at hp ⊢;cases hi : P.info? f.type with
     | none => rw [hi] at hp; simp at hp
     | some i =>
       rw [hi] at hp;simp only [Option.bind_eq_bind, Option.bind_some] at hp
       cases hr : (r.mapM fun f => match P.info? f.type with
        | some i => some (f.offset, i.size)
        | none => none) with
       | none => rw [hr] at hp; simp at hp
       | some rl =>
         rw [hr] at hp
         simp at hp
         subst hp;have := ih rl hr;simp only [Sem.run_bind, sizeOf, typeInfo, run_program, Result.andThen_ok, hi, Sem.run_pure] at this ⊢;rw [this]
         simp
  have := key fs.toList pl hp;rw [<- Array.toArray_toList (xs := fs), List.mapM_toArray, Sem.run_map, this]
  rfl
 ·cases hp
theorem zA {parts : List (Nat × Operand)} {ps : List (Nat × Value)} {cs : Lv} (hz : wz P t = some z) (hp : vZ P t = some pl) (hx : P8 env parts = some ps) (hf : Kk pl z ps = some cs) : yz P n ⟨dst, .build t parts.toArray, ty, pos, aft, gd⟩ env (.agg cs.toArray) := by
 intro a w ha;obtain ⟨zv, hz1, hz2⟩ := dC hz w;obtain ⟨fs, hu, hm⟩ := U9 hp;have h1 := Qy ha hx;have h2 := WR hf;simp only [execOp, h1, Instr.build, Sem.run_bind, hz1, Result.andThen_ok, run_underlying hu, hm, hz2, h2]
 simp
def Ys (P : Program) (t f : Nat) : Option TypeId := match P.underlying t with
 | some (.struct fs) => (fs[f]?).map (·.type)
 | _ => none
variable {l : Lv}
theorem O0 {f o : Nat} {ft : TypeId} (hf : foff P t f = some o) (hft : Ys P t f = some ft) (hs : single P ft = true) (hx : ev env x = some (.agg l.toArray)) (hv : cF l o = some v) : yz P n ⟨dst, .field t x f, ty, pos, aft, gd⟩ env v := by
 obtain ⟨fs, g, i, h1, h2, h3, h4, h5⟩ := Uk hf;intro a w ha;unfold Ys at hft;rw [h1] at hft;simp only [h2, Option.map_some, Option.some.injEq] at hft;subst hft;rw [<- cE] at hv
 simp [execOp, Instr.field, ha.eval hx, run_underlying h1, h2, asAgg, part, kY hs, h5, hv]
theorem uE {elem : TypeId} (hx : ev env x = some v) (hn : Nat.blt d n = true) (hk : ∀ b h', mp h b = none -> mp h' b = some (.cells v.cells elem (0, 0)) -> Le (mp h) (mp h') -> K ((d, .pointer (some ⟨b, 0, none⟩)) :: env) h') : gj P n Q ⟨some d, .box elem x, ty, pos, aft, gd⟩ env h K :=
 qp rfl hn fun fx dr a ha => ⟨h.push (.cells v.cells elem), dr, by simp [execOp, Instr.box, newVar, newRow, ha.eval hx]; exact ⟨rfl, rfl⟩, hk h.size _ (bG h) (uA h _) (fT h _)⟩
theorem jt {elem : TypeId} (hz : wz P elem = some z) (hn : Nat.blt d n = true) (hk : ∀ b h', mp h b = none -> mp h' b = some (.cells z.toArray elem (0, 0)) -> Le (mp h) (mp h') -> K ((d, .pointer (some ⟨b, 0, none⟩)) :: env) h') : gj P n Q ⟨some d, .alloc elem, ty, pos, aft, gd⟩ env h K :=
 qp rfl hn fun fx dr a _ => by
  obtain ⟨zv, hz1, hz2⟩ := dC hz (W fx h dr);exact ⟨h.push (.cells z.toArray elem), dr, by simp [execOp, Instr.alloc, newVar, newRow, hz1, hz2]; exact ⟨rfl, rfl⟩, hk h.size _ (bG h) (uA h _) (fT h _)⟩
def VE (h : yB) (a : Addr) (v : Value) : yB := h.modify a.block fun
 | .cells c elem fr => .cells (if a.spot.isSome then c else c.setIfInBounds a.off v) elem fr
 | o => o
variable {b : Nat}
theorem cQ (h : yB) (a : Addr) (v : Value) (hb : b ≠ a.block) : mp (VE h a v) b = mp h b := by
 unfold mp VE;rw [Array.getElem?_modify, if_neg (by omega)]
variable {e : TypeId} {i : Nat}
theorem XG (h : yB) {fr : Nat × Nat} (v : Value) (hb : mp h b = some (.cells l.toArray e fr)) : mp (VE h ⟨b, i, none⟩ v) b = some (.cells (l.set i v).toArray e fr) := by
 unfold mp at hb;unfold mp VE
 simp [Array.getElem?_modify, hb]
def aD : Value -> Bool
 | .agg _ => false
 | .tuple _ => false
 | _ => true
theorem Wn (hv : aD v = true) : v.cells = #[v] /\ v.oneCell' = true := by cases v <;> first | exact ⟨rfl, rfl⟩ | cases hv
def dZ (P : Program) (t : TypeId) : Bool := match P.info? t with
 | some i => Nat.beq i.size 1
 | none => false
theorem KF (ht : dZ P t = true) (w : World) : (sizeOf t).run P w = .ok 1 w := by
 unfold dZ at ht
 split at ht
 ·rename_i i hi
  have := Nat.eq_of_beq_eq_true ht
  simp [sizeOf, typeInfo, hi, this]
 ·cases ht
def Tm (m : Mp) (a : Addr) : Bool := match m a.block with
 | some (.cells _ _ (lo, hi)) => lo <= a.off && a.off < hi
 | _ => false
theorem LY {a : Addr} {u : Value} (ht : dZ P t = true) (hx : ev env x = some (.pointer (some a))) (hy : ev env y = some v) (hv : aD v = true) (hc : mc (mp h) a = some u) (hf : Tm (mp h) a = false) (hk : K env (VE h a v)) : gj P n Q ⟨none, .store t x y, ty, pos, aft, gd⟩ env h K :=
 gI rfl fun fx dr act ha => by
  obtain ⟨h1, h2⟩ := Wn hv;refine ⟨VE h a v, dr, ?_, hk⟩;have h3 : (W fx h dr).cell? a = some u := hc;have h4 : (W fx h dr).frozen? a = false := hf
  have h5 : (store (a.add 0) v).run P (W fx h dr) = .ok () (W fx (VE h a v) dr) := by
   rw [run_store _ _ _ _ _ h2, Addr.add_zero', h3];simp only [h4]
   rfl
  simp only [execOp, Instr.storeAt, ha.eval hx, ha.eval hy, Instr.sureAddr, storeVar, h1]
  simp [KF ht, storeCells, h5]
theorem RW (ht : dZ P t = true) (hx : ev env x = some (.pointer (some ⟨b, i, none⟩))) (hy : ev env y = some v) (hv : aD v = true) (hb : mp h b = some (.cells l.toArray e (0, 0))) (hi : Nat.blt i l.length = true) (hk : ∀ h', mp h' b = some (.cells (l.set i v).toArray e (0, 0)) -> (∀ k, k ≠ b -> mp h' k = mp h k) -> h'.size = h.size -> K env h') : gj P n Q ⟨none, .store t x y, ty, pos, aft, gd⟩ env h K := by
 have hi' : i < l.length := by simpa [Nat.blt_eq] using hi
 have hc : mc (mp h) ⟨b, i, none⟩ = some l[i] := by simp [mc, hb, hi']
 have hf : Tm (mp h) ⟨b, i, none⟩ = false := by simp [Tm, hb]
 exact LY ht hx hy hv hc hf (hk _ (XG h v hb) (fun k hk => cQ h _ v hk) (by simp [VE]))
def Xd (sz : Nat) : Lv -> List (Nat × Value) -> Option Lv
 | cs, [] => some cs
 | cs, (i, v) :: r => match Nat.beq v.cells.toList.length sz && Nat.ble (i * sz + v.cells.toList.length) cs.length with
   | true => Xd sz (Gt cs (i * sz) v.cells.toList) r
   | false => none
theorem dX {sz : Nat} : ∀ {ps : List (Nat × Value)} {z cs : Lv}, Xd sz z ps = some cs -> Instr.fill (fun i => some (i * sz, sz)) z.toArray ps = some cs.toArray
 | [], z, cs, hf => by simp only [Xd, Option.some.injEq] at hf; simp [Instr.fill, hf]
 | (i, v) :: r, z, cs, hf => by
   unfold Xd at hf
   split at hf
   ·rename_i hb
    simp only [Bool.and_eq_true, Nat.ble_eq] at hb;obtain ⟨hb1, hb2⟩ := hb;have hb1 := Nat.eq_of_beq_eq_true hb1;have ih := dX hf;unfold Instr.fill;have e1 : v.cells.size = sz := by rw [<- hb1]; simp
    have e2 : i * sz + v.cells.size <= z.length := by simpa using hb2
    simp only;rw [if_neg (by simp [e1]; omega)];have := IC z v.cells.toList (i * sz);simp only [Array.toArray_toList] at this;rw [this];exact ih
   ·cases hf
end
end Go.Eng
namespace Go.Eng
def WJ (m : Mp) (S : Nat -> Bool) : Mp := fun b => if S b then none else m b
variable {S : Nat -> Bool} {b : Nat} {m : Mp} {o : Obj}
theorem WI (hb : WJ m S b = some o) : m b = some o /\ S b = false := by
 unfold WJ at hb
 split at hb
 ·cases hb
 ·rename_i hs; exact ⟨hb, by simpa using hs⟩
theorem Ke (hb : m b = some o) (hs : S b = false) : WJ m S b = some o := by
 unfold WJ;rw [if_neg (by rw [hs]; simp)];exact hb
def Own (m : Mp) (e sz : Nat) (A : Oa) (n c : Nat) (xs : Lv) : Prop :=
 xs.length = n * sz /\ n <= c /\ ((A = none /\ c = 0) \/
  ∃ g o cur, A = some ⟨g, o, none⟩ /\ m g = some (.cells cur e (0, 0)) /\ c <= maxLen /\ o + c * sz <= cur.size /\ (cur.toList.drop o).take (n * sz) = xs)
def ap (A : Oa) : Option Nat := A.map (·.block)
def aP (A : Oa) : Nat -> Bool := fun b => ap A == some b
def IZ (m : Mp) (A : Oa) : Mp := WJ m (aP A)
variable {A : Oa} {c e : Nat} {m' : Mp} {n sz : Nat} {xs : Lv}
theorem Own.mono (h : Own m e sz A n c xs) (hl : Le m m') : Own m' e sz A n c xs := by
 obtain ⟨h1, h0, h2⟩ := h;refine ⟨h1, h0, ?_⟩;rcases h2 with h2 | ⟨g, o, cur, a, b, r⟩
 ·exact .inl h2
 ·exact .inr ⟨g, o, cur, a, hl _ _ b, r⟩
theorem Own.nil (m : Mp) (e sz : Nat) : Own m e sz none 0 0 [] := ⟨by simp, Nat.le_refl _, .inl ⟨rfl, rfl⟩⟩
theorem Own.rd (h : Own m e sz A n c xs) : Rd m A xs := by
 obtain ⟨h1, h0, ⟨rfl, rfl⟩ | ⟨g, o, cur, rfl, hg, _, _, ht⟩⟩ := h
 ·have : xs = [] := List.eq_nil_of_length_eq_zero (by rw [h1, Nat.le_zero.1 h0, Nat.zero_mul]);subst this;exact Rd.nil _ _
 ·intro i u hi;refine ⟨rfl, ?_⟩;rw [<- ht, List.getElem?_take] at hi
  split at hi
  ·have : sa (some (⟨g, o, none⟩ : Addr)) = ⟨g, o, none⟩ := rfl;rw [this, Yh];simp only [mc, hg];rw [List.getElem?_drop] at hi
   simpa using hi
  ·cases hi
theorem Own.len (h : Own m e sz A n c xs) : xs.length = n * sz := h.1
theorem Own.le (h : Own m e sz A n c xs) : n <= c := h.2.1
theorem Own.none_cap (h : Own m e sz A n c xs) (hA : A = none) : c = 0 := by
 obtain ⟨_, _, ⟨_, h⟩ | ⟨_, _, _, h, _⟩⟩ := h
 ·exact h
 ·rw [hA] at h; cases h
variable {g : Nat}
theorem Own.at_ (ho : Own m e sz A n c xs) (hg : aP A g = true) : ∃ cur, m g = some (.cells cur e (0, 0)) := by
 obtain ⟨_, _, ⟨rfl, _⟩ | ⟨g', o, cur, rfl, hm, _⟩⟩ := ho
 ·simp [aP, ap] at hg
 ·simp [aP, ap] at hg
  subst hg;exact ⟨cur, hm⟩
variable {h : yB}
theorem Own.lt (ho : Own (mp h) e sz A n c xs) (hg : aP A g = true) : g < h.size := by
 obtain ⟨cur, hm⟩ := ho.at_ hg;exact qN hm
variable {cs : Array Value} {fr : Nat × Nat} {t : Nat}
theorem Own.apart (ho : Own m e sz A n c xs) (hb : m g = some (.cells cs t fr)) (hne : e ≠ t) : aP A g = false := by
 cases hi : aP A g with
 | false => rfl
 | true =>
   obtain ⟨cur, hm⟩ := ho.at_ hi;rw [hm] at hb
   injection hb with hb
   injection hb with _ hb
   exact absurd hb hne
theorem Own.new {l : Lv} (hb : m b = some (.cells l.toArray e (0, 0))) (hl : l.length = n * sz) (hm : n <= maxLen) : Own m e sz (some ⟨b, 0, none⟩) n n l :=
 ⟨hl, Nat.le_refl _, .inr ⟨b, 0, l.toArray, rfl, hb, hm, by simp [hl], by simp [<- hl]⟩⟩
theorem Own.cut {l k mm : Nat} (h : Own m e sz A n c xs) (h1 : l + k <= n) (h2 : l + k <= mm) (h3 : mm <= c) : Own m e sz (Xz A l mm sz) k (mm - l) ((xs.drop (l * sz)).take (k * sz)) := by
 obtain ⟨hx, hn, hr⟩ := h;refine ⟨?_, by omega, ?_⟩
 ·rw [List.length_take, List.length_drop, hx];have : k * sz <= n * sz - l * sz := by rw [<- Nat.sub_mul]; exact Nat.mul_le_mul_right _ (by omega)
  omega
 ·rcases hr with ⟨rfl, rfl⟩ | ⟨g, o, cur, rfl, hg, hm, hc, ht⟩
  ·exact .inl ⟨by unfold Xz; split <;> rfl, by omega⟩
  ·by_cases hml : mm = l
   ·subst hml;have hk : k = 0 := by omega
    subst hk;refine .inr ⟨g, o, cur, by simp [Xz], hg, by omega, ?_, by simp⟩;simp only [Nat.sub_self, Nat.zero_mul, Nat.add_zero];omega
   ·refine .inr ⟨g, o + l * sz, cur, ?_, hg, by omega, ?_, ?_⟩
    ·unfold Xz; rw [if_neg hml]; simp [Addr.add_lit]
    ·have h4 : o + l * sz + (mm - l) * sz = o + mm * sz := by rw [Nat.add_assoc, <- Nat.add_mul]; congr 2; omega
     have h5 : mm * sz <= c * sz := Nat.mul_le_mul_right _ h3;omega
    ·rw [<- ht, <- List.drop_drop];rw [List.drop_take, List.take_take]
     congr 1
     have : k * sz <= n * sz - l * sz := by rw [<- Nat.sub_mul]; exact Nat.mul_le_mul_right _ (by omega)
     omega
structure Vk (h : yB) (A : Oa) (h' : yB) (A' : Oa) : Prop where
 rest : Le (IZ (mp h) A) (IZ (mp h') A')
 at_ : ap A' = ap A \/ ap A' = some h.size
 size : h.size <= h'.size
 other : ∀ k, k < h.size -> some k ≠ ap A -> mp h' k = mp h k
variable {A' : Oa} {h' : yB}
theorem Vk.le (hg : Vk h A h' A') (hm : Le m (IZ (mp h) A)) : Le m (IZ (mp h') A') := hm.trans hg.rest
structure Io (S : Nat -> Bool) (h h' : yB) (S' : Nat -> Bool) : Prop where
 keep : ∀ k o, mp h k = some o -> S k = false -> mp h' k = some o /\ S' k = false
 size : h.size <= h'.size
theorem Io.refl (S : Nat -> Bool) (h : yB) : Io S h h S := ⟨fun _ _ a b => ⟨a, b⟩, Nat.le_refl _⟩
variable {h1 h2 : yB}
theorem Io.trans {S1 S2 : Nat -> Bool} (a : Io S h h1 S1) (b : Io S1 h1 h2 S2) : Io S h h2 S2 :=
 ⟨fun k o x y => let ⟨p, q⟩ := a.keep k o x y; b.keep k o p q, Nat.le_trans a.size b.size⟩
theorem Io.le (hl : Le (mp h) (mp h')) : Io S h h' S := ⟨fun k o a b => ⟨hl k o a, b⟩, IL hl⟩
theorem Io.store (ho : ∀ k, k ≠ g -> mp h' k = mp h k) (hg : S g = true) (hs : h'.size = h.size) : Io S h h' S :=
 ⟨fun k o a b => ⟨by rw [ho k (by rintro rfl; rw [hg] at b; cases b)]; exact a, b⟩, by omega⟩
variable {S' : Nat -> Bool}
theorem Io.view (hc : Io S h h' S') : Le (WJ (mp h) S) (WJ (mp h') S') := fun b o hb => by
 obtain ⟨h1, h2⟩ := WI hb;obtain ⟨h3, h4⟩ := hc.keep b o h1 h2;exact Ke h3 h4
theorem Io.sub {T : Nat -> Bool} (hc : Io S h h' S') (hT : ∀ k, S k = true -> T k = true) : Io T h h' S' :=
 ⟨fun k o a b => hc.keep k o a (by cases hs : S k with | false => rfl | true => rw [hT k hs] at b; cases b), hc.size⟩
theorem Own.of_eq (h : Own m e sz A n c xs) (he : ∀ k, aP A k = true -> m' k = m k) : Own m' e sz A n c xs := by
 obtain ⟨h1, h0, h2⟩ := h;refine ⟨h1, h0, ?_⟩;rcases h2 with h2 | ⟨g, o, cur, rfl, b, r⟩
 ·exact .inl h2
 ·exact .inr ⟨g, o, cur, rfl, by rw [he g (by simp [aP, ap])]; exact b, r⟩
theorem Own.stored {E : Oa} (he : Own (mp h) e sz E n c xs) (hl : ∀ k, k ≠ g -> mp h' k = mp h k) (hb : mp h g = some (.cells cs t fr)) (hne : e ≠ t) : Own (mp h') e sz E n c xs :=
 he.of_eq fun k hk => hl k (by intro e; rw [e, he.apart hb hne] at hk; exact Bool.noConfusion hk)
def qV (p : Prop) : Prop := p
variable {p : Prop}
theorem qV.mk (h : p) : qV p := h
theorem qV.out (h : qV p) : p := h
theorem M4 {α : Type} {f : α -> Value} (hf : ∀ x, aD (f x) = true) (l : List α) : ∀ u ∈ l.map f, aD u = true := by
 intro u hu;obtain ⟨x, _, rfl⟩ := List.mem_map.1 hu;exact hf x
theorem GK (l : Bt) : ∀ u ∈ l.map vI, aD u = true := M4 (fun _ => rfl) l
theorem Vk.fresh {a : Addr} (hg : Vk h1 (some a) h2 A') (hl : Le (mp h) (mp h1)) (hb : mp h b = none) (ha : a.block = b) : Le (mp h) (mp h2) /\ ∀ k o, mp h k = some o -> aP A' k = false := by
 subst ha;have key : ∀ k o, mp h k = some o -> k ≠ a.block /\ mp h1 k = some o := fun k o hk => ⟨Nd hk hb, hl k o hk⟩;refine ⟨fun k o hk => ?_, fun k o hk => ?_⟩
 ·obtain ⟨h3, h4⟩ := key k o hk;rw [hg.other k (qN h4) (by simp [ap]; exact h3)];exact h4
 ·obtain ⟨h3, h4⟩ := key k o hk;have hlt := qN h4;cases hi : aP A' k with
  | false => rfl
  | true =>
    exfalso
    simp only [aP, beq_iff_eq] at hi;rcases hg.at_ with e | e
    ·rw [e] at hi; simp [ap] at hi; exact h3 hi.symm
    ·rw [e] at hi; injection hi with hi; omega
theorem Vk.nil (hg : Vk h none h2 A') : Le (mp h) (mp h2) /\ ∀ k o, mp h k = some o -> aP A' k = false := by
 refine ⟨fun k o hk => by rw [hg.other k (qN hk) (by simp [ap])]; exact hk, fun k o hk => ?_⟩;have hlt := qN hk;cases hi : aP A' k with
 | false => rfl
 | true =>
   exfalso
   simp only [aP, beq_iff_eq] at hi;rcases hg.at_ with e | e
   ·rw [e] at hi; cases hi
   ·rw [e] at hi; injection hi with hi; omega
def vD (P : Program) (t : TypeId) : Option (Nat × Nat × Nat × Lv) := match P.underlying t with
 | some (.slice e) => match P.info? e with
   | some i => i.zero.map fun z => (e, i.size, i.bytes, z.cells.toList)
   | none => none
 | _ => none
theorem av {P : Program} {xI : Nat} {z : Lv} (h : vD P t = some (e, sz, xI, z)) :
  ∃ i zv, P.underlying t = some (.slice e) /\ P.info? e = some i /\ i.zero = some zv /\ i.size = sz /\ i.bytes = xI /\ zv.cells = z.toArray := by
 unfold vD at h
 split at h
 ·rename_i e' he
  split at h
  ·rename_i i hi
   cases hz : i.zero with
   | none => rw [hz] at h; cases h
   | some zv =>
     rw [hz] at h;simp only [Option.map_some, Option.some.injEq, Prod.mk.injEq] at h;obtain ⟨rfl, h2, h3, h4⟩ := h;exact ⟨i, zv, he, hi, hz, h2, h3, by rw [<- h4]⟩
  ·cases h
 ·cases h
section
variable {P : Program} {n : Nat} {env : yW} {h : yB} {Q : yR} {K : yW -> yB -> Prop} {dst : Option Tmp} {d : Nat} {ty : TypeId} {pos : String} {aft : Array Edge} {gd : Option (Nat × Bool)}
variable {t : TypeId} {x y : Operand}
theorem cN {u : Value} (h : aD u = true) : u.oneCell' = true := (Wn h).2
variable {A : Oa} {c e : Nat}
theorem Zl {w : World} {c' : Nat} {i : TypeInfo} (hu : P.underlying t = some (.slice e)) (hi : P.info? e = some i) (hn : n <= c) (hA : A = none -> c = 0) :
  (Builtin.append_ #[t, t] ty #[.slice A n c, .slice none 0 c']).run P w = .ok (.slice A n c) w := by
 cases A with
 | none =>
   have := hA rfl;subst this;have : n = 0 := by omega
   subst this
   simp [Builtin.append_, run_underlying hu, sizeOf, typeInfo, hi, Builtin.lenOf, Builtin.firstCells]
 | some a => simp [Builtin.append_, run_underlying hu, sizeOf, typeInfo, hi, Builtin.lenOf, Builtin.firstCells, hn, storeCells]
theorem step_of_run' {o : Oper} (hd : o.dst = some d) (hn : Nat.blt d n = true) (hr : ∀ (x : Fx) (dr : Nat) (a : Act), dB n x env a -> ∃ v h' dr', (execOp a.eval o).run P (W x h dr) = .ok (.value v) (W x h' dr') /\ K ((d, v) :: env) h') : gj P n Q o env h K := by
 intro x dr a hag;obtain ⟨v, h', dr', h1, h2⟩ := hr x dr a hag;unfold Oper.wp;rw [h1, Oper.upon_value, hd];exact ⟨_, h', dr', hag.put d v (by simpa [Nat.blt_eq] using hn), rfl, h2⟩
theorem XK {h' : yB} {A' : Oa} (hat : ap A' = ap A \/ ap A' = some h.size) (hsz : h.size <= h'.size) (ho : ∀ k, k < h.size -> some k ≠ ap A -> mp h' k = mp h k) : Vk h A h' A' := by
 refine ⟨fun b o hb => ?_, hat, hsz, ho⟩;obtain ⟨hb0, hS⟩ := WI hb;have hlt := qN hb0
 have hne : some b ≠ ap A := by
  intro e
  simp [aP, <- e] at hS
 refine Ke (by rw [ho b hlt hne]; exact hb0) ?_;cases hi : aP A' b with
 | false => rfl
 | true =>
   exfalso
   simp only [aP, beq_iff_eq] at hi;rcases hat with e | e
   ·rw [e] at hi; exact hne hi.symm
   ·rw [e] at hi; injection hi with hi; omega
theorem bD (fx : Fx) (h : yB) (dr g : Nat) (cs : Array Value) : ∃ h', (W fx h dr).setRow g cs = W fx h' dr /\ h'.size = h.size /\ (∀ k, k ≠ g -> mp h' k = mp h k) := by
 refine ⟨((W fx h dr).setRow g cs).heap, rfl, by simp [World.setRow, W], fun k hk => ?_⟩;exact setRow_other (W fx h dr) g k cs hk
variable {xI sz : Nat} {z : Lv}
theorem Pf {A A2 : Oa} {k m c2 : Nat} {xs news : Lv} (hs : vD P t = some (e, sz, xI, z)) (hsz : Nat.blt 0 sz = true) (hzl : z.length = sz) (hx : ev env x = some (.slice A k c)) (hy : ev env y = some (.slice A2 m c2)) (hown : Own (mp h) e sz A k c xs) (hr : Rd (mp h) A2 news) (hl : news.length = m * sz) (h1 : ∀ u ∈ news, aD u = true) (hm : k + m <= maxLen) (hb : (k + m) * xI <= 140737488355328) (hn : Nat.blt d n = true) (hk : ∀ A' c' h', Own (mp h') e sz A' (k + m) c' (xs ++ news) -> Vk h A h' A' -> K ((d, .slice A' (k + m) c') :: env) h') :
  gj P n Q ⟨some d, .call ⟨.builtin .append, #[x, y], #[t, t]⟩, ty, pos, aft, gd⟩ env h K := by
 refine step_of_run' rfl hn fun fx dr a ha => ?_;obtain ⟨i, zv, hu, hi, hz, hsi, hby, hzc⟩ := av hs;have hsz' : 0 < sz := by simpa [Nat.blt_eq] using hsz
 have hexec : ∀ r w', (Builtin.append_ #[t, t] ty #[.slice A k c, .slice A2 m c2]).run P (W fx h dr) = .ok r w' ->
   (execOp a.eval ⟨some d, .call ⟨.builtin .append, #[x, y], #[t, t]⟩, ty, pos, aft, gd⟩).run P (W fx h dr) = .ok (.value r) w' := by
  intro r w' hrun;simp only [execOp, resolve, invoke, builtin, List.map_toArray, List.map_cons, List.map_nil, ha.eval hx, ha.eval hy, Sem.run_bind, Sem.run_pure, Result.andThen_ok, hrun]
 cases A2 with
 | none =>
   have hnews : news = [] := by
    cases news with
    | nil => rfl
    | cons u r => have := (hr 0 u (by simp)).1; cases this
   subst hnews
   have hm0 : m = 0 := by
    have h0 : m * sz = 0 := by simpa using hl.symm
    rcases Nat.mul_eq_zero.1 h0 with h0 | h0
    ·exact h0
    ·omega
   subst hm0;have hrun := Zl (P := P) (t := t) (ty := ty) (w := W fx h dr) (c' := c2) (A := A) hu hi hown.le hown.none_cap;refine ⟨_, h, dr, hexec _ _ hrun, ?_⟩;exact hk A c h (by simpa using hown) ⟨Le.refl _, .inl rfl, Nat.le_refl _, fun _ _ _ => rfl⟩
 | some ad =>
   have hnews : ∀ j u, news[j]? = some u -> (W fx h dr).cell? (ad.add j) = some u := fun j u hj => (hr j u hj).2;have hlen : (xs ++ news).length = (k + m) * sz := by rw [List.length_append, hown.1, hl, Nat.add_mul]
   have hsmall : k + m <= 9223372036854775807 := by simp only [maxLen] at hm; omega
   subst hsi
   -- what the growing arm leaves
   have grown : ∀ (old : Nat) (dr' : Nat), old < k + m -> ∃ A' c' h', (some (⟨h.size, 0, none⟩ : Addr)) = A' /\ grownCap (W fx h dr) (k + m) old e = c' /\
     ((W fx h dr).drew.alloc (.cells (xs.toArray ++ news.toArray ++ Builtin.zeroCells zv.cells (grownCap (W fx h dr) (k + m) old e - (k + m))) e)) = W fx h' (dr + 1) /\
     Own (mp h') e i.size A' (k + m) c' (xs ++ news) /\ Vk h A h' A' := by
    intro old _ ho;have hge := grownCap_ge (W fx h dr) (k + m) old e;have hcm : grownCap (W fx h dr) (k + m) old e <= maxLen := grownCap_le_maxLen (W fx h dr) (k + m) old e hm;refine ⟨_, _, h.push _, rfl, rfl, rfl, ⟨hlen, hge, .inr ⟨h.size, 0, _, rfl, uA h _, hcm, ?_, ?_⟩⟩, XK (.inr rfl) (by simp) fun j hj _ => ?_⟩
    ·simp only [Array.size_append, List.size_toArray, size_zeroCells, hzc, hzl, hown.1, hl, <- Nat.add_mul, Nat.zero_add]
     apply Nat.le_of_eq
     congr 1
     omega
    ·simp only [Array.toList_append, List.append_assoc, List.drop_zero];rw [<- List.append_assoc, <- hlen];exact List.take_left
    ·unfold mp; rw [Array.getElem?_push, if_neg (by omega)]
   obtain ⟨hxl, hkc, ⟨rfl, rfl⟩ | ⟨g, o, cur, rfl, hg, hcm, hcs, htake⟩⟩ := hown
   ·have hk0 : k = 0 := by omega
    subst hk0;have hx : xs = [] := List.eq_nil_of_length_eq_zero (by simpa using hxl);subst hx;by_cases hm0 : m = 0
    ·subst hm0;have hn : news = [] := List.eq_nil_of_length_eq_zero (by simpa using hl);subst hn;refine ⟨.slice none 0 0, h, dr, hexec _ _ ?_, hk none 0 h (Own.nil _ _ _) ⟨Le.refl _, .inl rfl, Nat.le_refl _, fun _ _ _ => rfl⟩⟩
     simp [Builtin.append_, run_underlying hu, sizeOf, typeInfo, hi, Builtin.lenOf, Builtin.firstCells, loadCells, loadCellsFrom]
    ·have hrun := run_append_nil (P := P) (W fx h dr) t ty e i zv hu hi hz ad m c2 news hl hnews (by omega) (by omega) (by rw [<- hby] at hb; simp only [Nat.zero_add] at hb; omega);obtain ⟨A', c', h', rfl, rfl, hw, h5, h6⟩ := grown 0 0 (by omega);simp only [Nat.zero_add, List.nil_append, Array.empty_append] at hw h5;refine ⟨_, h', dr + 1, ?_, hk _ _ h' (by simpa using h5) h6⟩;rw [<- hw]
     simp only [Nat.zero_add];exact hexec _ _ hrun
   ·by_cases hroom : k + m <= c
    ·have hfit : (o + k * i.size) + news.length <= cur.size := by
      rw [hl];have : (k + m) * i.size <= c * i.size := Nat.mul_le_mul_right _ hroom;rw [Nat.add_mul] at this;omega
     have hf := run_firstCells_some (P := P) (W fx h dr) i.size m ad m c2 news hl hnews;have hst := run_storeCells_at P g (o + k * i.size) e news 0 cur (W fx h dr) hg (by simpa using hfit) (fun u hu => cN (h1 u hu));simp only [Nat.add_zero] at hst
     have hrun : (Builtin.append_ #[t, t] ty #[.slice (some ⟨g, o, none⟩) k c, .slice (some ad) m c2]).run P (W fx h dr) =
       .ok (.slice (some ⟨g, o, none⟩) (k + m) c) ((W fx h dr).setRow g (cur.toList.take (o + k * i.size) ++ news ++ cur.toList.drop (o + k * i.size + news.length)).toArray) := by
      simp [Builtin.append_, run_underlying hu, sizeOf, typeInfo, hi, Builtin.lenOf, hroom, hf, Addr.add_lit, hst]
     obtain ⟨h', hw, hsz2, hoth⟩ := bD fx h dr g (cur.toList.take (o + k * i.size) ++ news ++ cur.toList.drop (o + k * i.size + news.length)).toArray
     have hg' : mp h' g = some (.cells (cur.toList.take (o + k * i.size) ++ news ++ cur.toList.drop (o + k * i.size + news.length)).toArray e (0, 0)) := by
      have := setRow_heap (W fx h dr) g cur (cur.toList.take (o + k * i.size) ++ news ++ cur.toList.drop (o + k * i.size + news.length)).toArray e (0, 0) hg;rw [hw] at this;exact this
     rw [hw] at hrun;refine ⟨_, h', dr, hexec _ _ hrun, hk _ _ h' ⟨hlen, hroom, .inr ⟨g, o, _, rfl, hg', hcm, ?_, ?_⟩⟩ (XK (.inl rfl) (by omega) fun j hj hne => hoth j (fun e => hne (by subst e; rfl)))⟩
     ·simp only [List.size_toArray, List.length_append, List.length_take, List.length_drop, Array.length_toList];omega
     ·have e1 : (cur.toList.take (o + k * i.size)).drop o = xs := by
       rw [List.drop_take];have : o + k * i.size - o = k * i.size := by omega
       rw [this];exact htake
      simp only [List.append_assoc];rw [List.drop_append_of_le_length (by rw [List.length_take, Array.length_toList]; omega), e1, <- List.append_assoc, <- hlen];exact List.take_left
    ·have holds : ∀ j u, xs[j]? = some u -> (W fx h dr).cell? ((⟨g, o, none⟩ : Addr).add j) = some u := by
      intro j u hj;rw [<- htake, List.getElem?_take] at hj
      split at hj
      ·rw [gO, Yh];simp only [mc];have hg2 : mp (W fx h dr).heap g = some (.cells cur e (0, 0)) := hg;rw [hg2];rw [List.getElem?_drop] at hj
       simpa using hj
      ·cases hj
     have hrun := run_append_grow (P := P) (W fx h dr) t ty e i zv hu hi hz ⟨g, o, none⟩ k c xs hxl holds ad m c2 news hl hnews (by omega) (by omega) (growslice_fits (by omega) (by rw [hby]; exact hb));obtain ⟨A', c', h', rfl, rfl, hw, h5, h6⟩ := grown c 0 (by omega);refine ⟨_, h', dr + 1, ?_, hk _ _ h' h5 h6⟩;rw [<- hw];exact hexec _ _ hrun
def Gr (z : Lv) (k : Nat) : Lv := (List.range k).map fun i => z.toArray[i % z.length]!
theorem Je {len : Nat} {cs : Lv} {parts : List (Nat × Operand)} {ps : List (Nat × Value)} (hs : vD P t = some (e, sz, xI, z)) (hx : P8 env parts = some ps) (hsmall : Nat.ble (len * sz) 16777216 = true) (hf : Xd sz (Gr (if len * sz = 0 then [] else z) (len * sz)) ps = some cs) (hn : Nat.blt d n = true) (hk : ∀ b h', mp h b = none -> mp h' b = some (.cells cs.toArray e (0, 0)) -> Le (mp h) (mp h') -> K ((d, .slice (some ⟨b, 0, none⟩) len len) :: env) h') :
  gj P n Q ⟨some d, .buildSlice t len parts.toArray, ty, pos, aft, gd⟩ env h K := by
 refine qp rfl hn fun fx dr a ha => ⟨h.push (.cells cs.toArray e), dr, ?_, hk h.size _ (bG h) (uA h _) (fT h _)⟩;obtain ⟨i, zv, hu, hi, hz, hsi, hby, hzc⟩ := av hs;have hsm : ¬ len * sz > 16777216 := by have := Nat.le_of_ble_eq_true hsmall; omega
 have h1 := Qy ha.toAg hx;have h2 := dX hf;have hsz : (sizeOf e).run P (W fx h dr) = .ok sz (W fx h dr) := by simp [sizeOf, typeInfo, hi, hsi]
 have hzv : (zeroValue e).run P (W fx h dr) = .ok zv (W fx h dr) := by simp [zeroValue, typeInfo, hi, hz]
 simp only [execOp, h1, Instr.buildSlice, Sem.run_bind, run_underlying hu, Result.andThen_ok, hsz];have hlit : (2 : Nat) ^ 24 = 16777216 := by decide
 rw [hlit, if_neg hsm];by_cases h0 : len * sz = 0
 ·rw [if_pos h0] at h2
  have h3 : (Array.range (len * sz)).map (fun i => (#[] : Array Value)[i % (#[] : Array Value).size]!) = (Gr [] (len * sz)).toArray := by
   rw [h0]; simp [Gr]
  rw [if_pos h0];simp only [Sem.run_bind, Sem.run_pure, Result.andThen_ok];rw [h3, h2]
  simp [newRow]
  exact ⟨rfl, rfl⟩
 ·rw [if_neg h0] at h2
  have h3 : (Array.range (len * sz)).map (fun i => zv.cells[i % zv.cells.size]!) = (Gr z (len * sz)).toArray := by
   rw [hzc]
   apply Array.ext'
   simp [Gr]
  rw [if_neg h0];simp only [Sem.run_bind, hzv, Sem.run_pure, Result.andThen_ok];rw [h3, h2]
  simp [newRow]
  exact ⟨rfl, rfl⟩
def yX (P : Program) (f : FuncId) : Bool := match P.funcs[f]? with
 | some fn => fn.body.isSome && !(fn.name == "runtime.NumGoroutine")
 | none => false
variable {f : FuncId}
theorem jj (h : yX P f = true) (args : Array Value) (w : World) : (callFunc f args).run P w = .ok (.enter f args) w := by
 unfold yX at h
 split at h
 ·rename_i fn hf
  simp only [Bool.and_eq_true, Bool.not_eq_true'] at h;obtain ⟨h1, h2⟩ := h;have h1' : fn.body ≠ none := by cases hb : fn.body <;> simp_all
  have h2' : fn.name ≠ "runtime.NumGoroutine" := by simpa using h2
  simp [callFunc, hf, h1', h2']
 ·cases h
variable {R : Value -> yB -> Prop} {args : List Operand} {ats : Array TypeId} {vs : Lv}
theorem xW (hcl : yX P f = true) (hx : Zb env args = some vs) (hc : C P f vs.toArray h R) (hn : Nat.blt d n = true) (hk : ∀ v h', R v h' -> K ((d, v) :: env) h') : gj P n Q ⟨some d, .call ⟨.value (.func f), args.toArray, ats⟩, ty, pos, aft, gd⟩ env h K := by
 intro fx dr a ha;have h1 := aR ha.toAg hx
 have h2 : (execOp a.eval ⟨some d, .call ⟨.value (.func f), args.toArray, ats⟩, ty, pos, aft, gd⟩).run P (W fx h dr) = .ok (.enter f vs.toArray) (W fx h dr) := by
  simp only [execOp, resolve, h1, Act.eval, Deferred.ofValue, Sem.run_bind, Sem.run_pure, Result.andThen_ok, invoke, Array.empty_append, Array.append_empty];exact jj hcl _ _
 unfold Oper.wp;rw [h2, Oper.upon_enter];refine (hc fx dr).mono ?_;rintro e w' ⟨v, h', d', rfl, rfl, hr⟩;exact ⟨_, h', d', ha.put d v (by simpa [Nat.blt_eq] using hn), rfl, hk v h' hr⟩
theorem qW {fv : Operand} {p q : Lv} (hcl : yX P f = true) (hf : ev env fv = some (.func (.func f) p.toArray q.toArray)) (hx : Zb env args = some vs) (hc : C P f ((p ++ vs) ++ q).toArray h R) (hn : Nat.blt d n = true) (hk : ∀ v h', R v h' -> K ((d, v) :: env) h') : gj P n Q ⟨some d, .call ⟨.value fv, args.toArray, ats⟩, ty, pos, aft, gd⟩ env h K := by
 intro fx dr a ha;have h1 := aR ha.toAg hx
 have h2 : (execOp a.eval ⟨some d, .call ⟨.value fv, args.toArray, ats⟩, ty, pos, aft, gd⟩).run P (W fx h dr) = .ok (.enter f ((p ++ vs) ++ q).toArray) (W fx h dr) := by
  simp only [execOp, resolve, h1, ha.eval hf, Deferred.ofValue, Sem.run_bind, Sem.run_pure, Result.andThen_ok, invoke, List.append_toArray];exact jj hcl _ _
 unfold Oper.wp;rw [h2, Oper.upon_enter];refine (hc fx dr).mono ?_;rintro e w' ⟨v, h', d', rfl, rfl, hr⟩;exact ⟨_, h', d', ha.put d v (by simpa [Nat.blt_eq] using hn), rfl, hk v h' hr⟩
end
def WT : Lv -> Nat -> yW
 | [], _ => []
 | v :: r, i => (i, v) :: WT r (i + 1)
theorem XN : ∀ (l : Lv) (i t : Nat), lk (WT l i) t = if i <= t then l[t - i]? else none
 | [], i, t => by simp [WT, lk]
 | v :: r, i, t => by
   unfold WT;by_cases h : i = t
   ·subst h; rw [aI]; simp
   ·rw [Yi _ _ _ _ h, XN r (i + 1) t];by_cases h1 : i <= t
    ·rw [if_pos h1, if_pos (by omega), show t - i = (t - (i + 1)) + 1 by omega]
     simp
    ·rw [if_neg h1, if_neg (by omega)]
def FH (env : yW) : List Nat -> Option Lv
 | [] => some []
 | t :: r => match lk env t with
   | none => none
   | some v => match FH env r with
     | none => none
     | some vs => some (v :: vs)
def ao : Lv -> Value
 | [v] => v
 | vs => .tuple vs.toArray
def MS (env : yW) (rs : List Nat) : Option Value := match FH env rs with
 | none => none
 | some vs => some (ao vs)
variable {a : Act} {env : yW} {n : Nat}
theorem Nl (ha : Ag n env a) : ∀ {l : List Nat} {vs : Lv}, FH env l = some vs -> l.map (fun t => a.tmps.getD t undef) = vs
 | [], vs, h => by simp [FH] at h; simp [<- h]
 | t :: r, vs, h => by
   unfold FH at h
   split at h
   ·cases h
   ·rename_i v hv
    split at h
    ·cases h
    ·rename_i ws hws
     have ih := Nl ha hws
     injection h with h
     subst h;have := ha.at_ t v hv;rw [List.map_cons, ih]
     simp [this]
def F9 (rs : List Nat) (R : Value -> yB -> Prop) : yR
 | .normal, env, h => ∃ v, MS env rs = some v /\ R v h
 | .ret, env, h => ∃ v, MS env rs = some v /\ R v h
 | _, _, _ => False
variable {P : Program} {fn : Func} {rs : List Nat}
theorem JI (hrs : fn.results = (rs.map ResultVar.tmp).toArray) (tmps : Array Value) (w : World) :
  (results fn tmps).run P w = .ok (ao (rs.map fun t => tmps.getD t undef)) w := by
 have key : ∀ (f : ResultVar -> Sem Value), (∀ t, f (.tmp t) = pure (tmps.getD t undef)) -> ∀ l : List Nat, ((l.map ResultVar.tmp).mapM f).run P w = .ok (l.map fun t => tmps.getD t undef) w := by
  intro f hf l
  induction l with
  | nil => simp
  | cons t r ih => rw [List.map_cons, List.mapM_cons]; simp only [hf, Sem.run_bind, Sem.run_pure, Result.andThen_ok, ih]; rfl
 unfold results;rw [hrs, List.mapM_toArray];simp only [Sem.run_bind, Sem.run_map];rw [key _ (fun t => rfl)]
 match rs with
 | [] => rfl
 | [t] => rfl
 | t :: u :: r => simp [ao]
variable {v : Value}
theorem IA (hrs : fn.results = (rs.map ResultVar.tmp).toArray) (ha : Ag n env a) (hv : MS env rs = some v) (w : World) :
  (results fn a.tmps).run P w = .ok v w := by
 rw [JI hrs];unfold MS at hv
 split at hv
 ·cases hv
 ·rename_i vs hvs
  rw [Nl ha hvs]
  injection hv with hv
  rw [hv]
variable {R : Value -> yB -> Prop} {h : yB}
theorem YS {f : FuncId} {c : Code} {l : Lv} (rs : List Nat) (hf : P.funcs[f]? = some fn) (hb : fn.body = some c) (hrs : fn.results = (rs.map ResultVar.tmp).toArray) (hl : Nat.ble l.length fn.ntmps = true) (ht : T P fn.ntmps c (WT l 0) h (F9 rs R)) : C P f l.toArray h R := by
 intro x d;have hl' : l.length <= fn.ntmps := Nat.le_of_ble_eq_true hl;refine calls_of_wp hf hb (wp_mono (ht ⟨x.tape, x.os, x.out, []⟩ d _ ⟨⟨?_, ?_⟩, rfl⟩) ?_)
 ·simp; omega
 ·intro t v hv;rw [XN] at hv;simp only [Nat.zero_le, if_true, Nat.sub_zero] at hv;have hlt : t < l.length := (List.getElem?_eq_some_iff.1 hv).1;simp only [List.size_toArray];rw [Array.getElem?_append_left (by simpa using hlt)]
  simpa using hv
 ·rintro e a w' ⟨env, h', d', hag, rfl, hq⟩;cases e with
  | normal =>
    obtain ⟨v, h1, h2⟩ := hq;exact ⟨hag.defers, v, IA hrs hag.toAg h1 _, v, h', d', rfl, rfl, h2⟩
  | ret =>
    obtain ⟨v, h1, h2⟩ := hq;exact ⟨hag.defers, v, IA hrs hag.toAg h1 _, v, h', d', rfl, rfl, h2⟩
  | exit i => exact hq
  | goto l => exact hq
  | panic c => exact hq.elim
  | outgrown => exact hq.elim
theorem yH {t : Nat} (h1 : lk env t = some v) (h2 : R v h) : F9 [t] R .ret env h := ⟨v, by simp [MS, FH, h1, ao], h2⟩
variable {o : Oper} {p : Prop}
theorem dt [Decidable p] (hr : yz P n o env (.bool (decide p))) (hp : p) : yz P n o env (.bool true) := by rwa [decide_eq_true hp] at hr
theorem df [Decidable p] (hr : yz P n o env (.bool (decide p))) (hp : ¬ p) : yz P n o env (.bool false) := by rwa [decide_eq_false hp] at hr
theorem RA {d : Nat} {Q : yR} {l0 l : List Oper} [Decidable p] (hr : yz P n o env (.bool (decide p))) (hd : o.dst = some d) (hn : Nat.blt d n = true) (hw : wanted l0 env o = some true) (h1 : p -> V P n l0 l ((d, .bool true) :: env) h Q) (h2 : ¬ p -> V P n l0 l ((d, .bool false) :: env) h Q) : V P n l0 (o :: l) env h Q := by
 by_cases hp : p
 ·rw [decide_eq_true hp] at hr; exact zd hr hd hn hw (h1 hp)
 ·rw [decide_eq_false hp] at hr; exact zd hr hd hn hw (h2 hp)
end Go.Eng
namespace Go.Eng
open Go.ChangeShapes Go.WideShapes Go.ChangeAt Go.RowKit
theorem Oy {P : Program} {f : FuncId} {args : Array Value} {w : World} {r : Value} (hc : C P f args w.heap fun v h' => v = r /\ Le (mp w.heap) (mp h')) :
  Calls P f args w fun e w' => e = .returned r /\ Below w.heap.size w w' := by
 refine (hc ⟨w.tape, w.os, w.output, []⟩ w.drawn).mono ?_;rintro e w' ⟨v, h', d', rfl, rfl, rfl, hl⟩;refine ⟨rfl, rfl, rfl, rfl, IL hl, fun k hk => ?_⟩;have h1 : mp w.heap k = some w.heap[k] := by simp [mp, hk]
 have h2 := hl k _ h1;have h3 : w.heap[k]? = some w.heap[k] := h1;rw [h3];exact h2
section
variable {H : Type} {enc : TypeId × Value -> H} {P : Program} {w : World} {base : Nat} {spare : Nat -> Bool} {held : Bool}
end
end Go.Eng
namespace Go.Eng
open Go.ChangeShapes Go.WideShapes Go.ChangeAt Go.RowKit
section
variable {P : Program} {n : Nat} {env : yW} {h : yB} {Q : yR} {dst : Option Tmp} {d : Nat} {ty : TypeId} {pos : String} {aft : Array Edge} {gd : Option (Nat × Bool)}
variable {t yt : TypeId} {x y : Operand} {k : IntKind} {a b c : Int} {p q : Bool}
theorem O1 (ht : bI P t = true) (hx : ev env x = some (.bool p)) (hy : ev env y = some (.bool q)) : yz P n ⟨dst, .binOp .eql t x y yt, ty, pos, aft, gd⟩ env (.bool (p == q)) := by
 intro a w ha
 have e : (Op.equal t (.bool p) (.bool q)).run P w = .ok (p == q) w := by
  unfold bI at ht;have hu : P.underlying t = some .bool := by split at ht <;> simp_all
  show (Op.equalIn (9999 + 1) t (.bool p) (.bool q)).run P w = _;rw [Op.equalIn]
  simp [run_underlying hu]
 simp [execOp, ha.eval hx, ha.eval hy, eqGuard_at_bool, binOp, e]
theorem pv {o : Oper} {r : Bool} (hr : yz P n o env (.bool p)) (e : p = r) : yz P n o env (.bool r) := e ▸ hr
theorem SM {α : Type} {a b : Code} (S : α -> yW) (H : α -> yB -> Prop) (h1 : T P n a env h (Wh S H (fun _ => 0) 1 Q)) (h2 : ∀ y h, H y h -> T P n b (S y) h Q) : T P n a env h (uT P n b Q) := by
 refine YN h1 ?_;intro e env' h' hq;cases e with
 | normal =>
   obtain ⟨y, hs, hH, _⟩ := hq;exact Vh (S y) hs (h2 y h' hH)
 | exit i => exact hq
 | goto l => exact hq
 | ret => exact hq
 | panic c => exact hq
 | outgrown => exact hq
end
section
variable {H : Type} {enc : TypeId × Value -> H} {P : Program} {w : World} {base : Nat} {spare : Nat -> Bool} {held : Bool}
end
end Go.Eng
namespace Go.Eng
def At (m : Mp) (a : Addr) (l : Lv) : Prop := ∀ i u, l[i]? = some u -> mc m (a.add i) = some u
variable {a : Addr} {l : Lv} {m m' : Mp}
theorem At.mono (h : At m a l) (hl : Le m m') : At m' a l := fun i u hi => xv hl (h i u hi)
theorem At.sub (h : At m a l) (o k : Nat) : At m (a.add o) ((l.drop o).take k) := fun i u hi => by
 rw [List.getElem?_take] at hi
 split at hi
 ·rw [List.getElem?_drop] at hi;rw [XP];exact h _ u hi
 ·cases hi
variable {o : Nat} {v : Value}
theorem At.at_ (h : At m a l) (hv : cF l o = some v) : mc m (a.add o) = some v := h o v (by rw [cE]; exact hv)
theorem At.at0 (h : At m a (v :: l)) : mc m a = some v := by
 have := h 0 v (by simp);rwa [show a.add 0 = a by unfold Addr.add; simp] at this
variable {b : Nat} {fr : Nat × Nat} {t : TypeId}
theorem At.blk (hb : m b = some (.cells l.toArray t fr)) : At m ⟨b, 0, none⟩ l := fun i u hi => by
 rw [Yh]
 simp [mc, hb, hi]
theorem At.blkO {k : Nat} (hb : m b = some (.cells l.toArray t fr)) : At m ⟨b, o, none⟩ ((l.drop o).take k) := by
 have := (At.blk hb).sub o k;rwa [Addr.add_lit, Nat.zero_add] at this
theorem Rd.elem {A : Oa} {vs : Lv} (h : Rd m A vs) (o k : Nat) : At m ((sa A).add o) ((vs.drop o).take k) := fun i u hi => by
 rw [List.getElem?_take] at hi
 split at hi
 ·rw [List.getElem?_drop] at hi;rw [XP];exact (h _ u hi).2
 ·cases hi
theorem Le.stored {h h1 h2 : yB} (hl : Le (mp h) (mp h1)) (hn : mp h b = none) (ho : ∀ j, j ≠ b -> mp h2 j = mp h1 j) : Le (mp h) (mp h2) := fun k o hk => by
 rw [ho k (Nd hk hn)];exact hl k o hk
theorem Le.none (hl : Le m m') (hn : m' b = none) : m b = none := by
 cases hb : m b with
 | none => rfl
 | some o => rw [hl _ _ hb] at hn; cases hn
def uM (P : Program) (t : TypeId) : Option (Nat × TypeId × Nat) := match P.underlying t with
 | some (.array n e) => (P.info? e).map fun i => (n, e, i.size)
 | _ => none
theorem gQ {P : Program} {t n e sz : Nat} (h : uM P t = some (n, e, sz)) : P.underlying t = some (.array n e) /\ ∀ w, (sizeOf e).run P w = .ok sz w := by
 unfold uM at h
 split at h
 ·rename_i n' e' hu
  cases hi : P.info? e' with
  | none => rw [hi] at h; cases h
  | some i =>
    rw [hi] at h;simp only [Option.map_some, Option.some.injEq, Prod.mk.injEq] at h;obtain ⟨rfl, rfl, rfl⟩ := h;exact ⟨hu, fun w => by simp [sizeOf, typeInfo, hi]⟩
 ·cases h
section
variable {P : Program} {n : Nat} {env : yW} {h : yB} {Q : yR} {K : yW -> yB -> Prop} {dst : Option Tmp} {d : Nat} {ty : TypeId} {pos : String} {aft : Array Edge} {gd : Option (Nat × Bool)}
variable {t yt e sz n0 : Nat} {x y : Operand} {k : IntKind}
theorem uR {parts : List (Nat × Operand)} {ps : List (Nat × Value)} {z cs : Lv} (ha : uM P t = some (n0, e, sz)) (hz : wz P t = some z) (hx : P8 env parts = some ps) (hf : Xd sz z ps = some cs) :
  yz P n ⟨dst, .build t parts.toArray, ty, pos, aft, gd⟩ env (.agg cs.toArray) := by
 intro a w hag;obtain ⟨zv, hz1, hz2⟩ := dC hz w;obtain ⟨hu, hs⟩ := gQ ha;have h1 := Qy hag hx;have h2 := dX hf;simp only [execOp, h1, Instr.build, Sem.run_bind, hz1, Result.andThen_ok, run_underlying hu, hs, hz2, h2]
 simp
variable {i : Int} {l : Lv}
theorem ub {v : Value} (ha : uM P t = some (n0, e, sz)) (hs : single P e = true) (hx : ev env x = some (.agg l.toArray)) (hy : ev env y = some (.int k i)) (h0 : 0 <= i) (h1 : i < n0) (hv : cF l (i.toNat * sz) = some v) : yz P n ⟨dst, .index t x y, ty, pos, aft, gd⟩ env v := by
 intro a w hag;obtain ⟨hu, hsz⟩ := gQ ha;rw [<- cE] at hv
 simp [execOp, Instr.index, hag.eval hx, hag.eval hy, asIntOf, run_underlying hu, h0, h1, hsz, part, kY hs, hv]
theorem OZ (ha : uM P t = some (n0, e, sz)) (hs : vq P e = some sz) (hx : ev env x = some (.agg l.toArray)) (hy : ev env y = some (.int k i)) (h0 : 0 <= i) (h1 : i < n0) :
  yz P n ⟨dst, .index t x y, ty, pos, aft, gd⟩ env (.agg ((l.drop (i.toNat * sz)).take sz).toArray) := by
 intro a w hag;obtain ⟨hu, hsz⟩ := gQ ha;obtain ⟨hag2, _⟩ := ke hs
 simp [execOp, Instr.index, hag.eval hx, hag.eval hy, asIntOf, run_underlying hu, h0, h1, hsz, part, hag2]
variable {a : Addr}
theorem wv (ha : uM P t = some (n0, e, sz)) (hx : ev env x = some (.pointer (some a))) (hy : ev env y = some (.int k i)) (h0 : 0 <= i) (h1 : i < n0) :
  yz P n ⟨dst, .indexAddr t x y, ty, pos, aft, gd⟩ env (.pointer (some (a.add (i.toNat * sz)))) := by
 intro act w hag;obtain ⟨hu, hsz⟩ := gQ ha
 simp [execOp, Instr.indexAt, hag.eval hx, hag.eval hy, asIntOf, run_underlying hu, h0, h1, hsz, Instr.sureAddr]
variable {q : Nat}
theorem yd (ht : vq P t = some q) (hx : ev env x = some (.pointer (some a))) (hl : l.length = q) (hc : At (mp h) a l) :
  vj P n ⟨dst, .load t x, ty, pos, aft, gd⟩ env h (.agg l.toArray) := LQ ht hx hl hc
theorem we {b : Nat} {vs : Lv} {e : TypeId} (ht : vq P t = some q) (hx : ev env x = some (.pointer (some ⟨b, 0, none⟩))) (hy : ev env y = some (.agg vs.toArray)) (hq : Nat.beq vs.length q = true) (hb : mp h b = some (.cells l.toArray e (0, 0))) (hl : Nat.beq l.length q = true) (h1 : vs.all aD = true) (hk : ∀ h', mp h' b = some (.cells vs.toArray e (0, 0)) -> (∀ j, j ≠ b -> mp h' j = mp h j) -> h'.size = h.size -> K env h') : gj P n Q ⟨none, .store t x y, ty, pos, aft, gd⟩ env h K :=
 gI rfl fun fx dr act ha => by
  have hq' := Nat.eq_of_beq_eq_true hq;have hl' := Nat.eq_of_beq_eq_true hl;obtain ⟨_, i, hi, hsi⟩ := ke ht;have hst := run_storeCells_at P b 0 e vs 0 l.toArray (W fx h dr) hb (by simp; omega) (fun v hv => cN (by rw [List.all_eq_true] at h1; exact h1 v hv))
  obtain ⟨h', hw, hsz2, hoth⟩ := bD fx h dr b (l.toArray.toList.take (0 + 0) ++ vs ++ l.toArray.toList.drop (0 + 0 + vs.length)).toArray;have hg' := setRow_heap (W fx h dr) b l.toArray (l.toArray.toList.take (0 + 0) ++ vs ++ l.toArray.toList.drop (0 + 0 + vs.length)).toArray e (0, 0) hb;rw [hw] at hg' hst;refine ⟨h', dr, ?_, hk h' ?_ hoth hsz2⟩
  ·have hc : (Value.agg vs.toArray).cells = vs.toArray := rfl;simp only [execOp, Instr.storeAt, ha.eval hx, ha.eval hy, Instr.sureAddr, storeVar, hc]
   simp [sizeOf, typeInfo, hi, hsi, hq', hst]
  ·have : (l.toArray.toList.take (0 + 0) ++ vs ++ l.toArray.toList.drop (0 + 0 + vs.length)).toArray = vs.toArray := by
    simp
    omega
   rw [this] at hg';exact hg'
end
def CV (P : Program) (env : yW) (h : yB) : ResultVar -> Value -> Prop
 | .tmp t, v => lk env t = some v
 | .cell a t, v => ∃ ad, lk env a = some (.pointer (some ad)) /\ ((single P t = true /\ mc (mp h) ad = some v) \/ ∃ l, vq P t = some l.length /\ At (mp h) ad l /\ v = .agg l.toArray)
def qC (P : Program) (env : yW) (h : yB) : List ResultVar -> Lv -> Prop
 | [], [] => True
 | r :: rs, v :: vs => CV P env h r v /\ qC P env h rs vs
 | _, _ => False
def U6 (P : Program) (rs : List ResultVar) (R : Value -> yB -> Prop) : yR
 | .normal, env, h => ∃ vs, qC P env h rs vs /\ R (ao vs) h
 | .ret, env, h => ∃ vs, qC P env h rs vs /\ R (ao vs) h
 | _, _, _ => False
variable {P : Program} {a : Act} {env : yW} {h : yB} {n : Nat}
theorem qC.run {fx : Fx} {dr : Nat} (ha : Ag n env a) (f : ResultVar -> Sem Value) (hf1 : ∀ t, f (.tmp t) = pure (a.tmps.getD t undef)) (hf2 : ∀ c t, f (.cell c t) = (do loadVar t (<- asAddr (a.tmps.getD c undef)))) : ∀ {rs : List ResultVar} {vs : Lv}, qC P env h rs vs -> (rs.mapM f).run P (W fx h dr) = .ok vs (W fx h dr)
 | [], [], _ => by simp
 | r :: rs, v :: vs, hr => by
   obtain ⟨h1, h2⟩ := hr;have ih := qC.run (fx := fx) (dr := dr) ha f hf1 hf2 h2
   have h3 : (f r).run P (W fx h dr) = .ok v (W fx h dr) := by
    cases r with
    | tmp t =>
      have := ha.at_ t v h1;rw [hf1]
      simp [this]
    | cell c t =>
      obtain ⟨ad, h4, h5⟩ := h1;have h6 := ha.at_ c _ h4;rw [hf2];have h7 : a.tmps.getD c undef = .pointer (some ad) := by simp [h6]
      rw [h7];rcases h5 with ⟨h8, h9⟩ | ⟨l, h8, h9, rfl⟩
      ·have h10 : (W fx h dr).cell? ad = some v := by rw [gO]; exact h9
       simp [asAddr, loadVar, kY h8, h10]
      ·obtain ⟨g1, i, hi, hs⟩ := ke h8;have g2 : (loadCells ad l.length).run P (W fx h dr) = .ok l.toArray (W fx h dr) := run_loadCells_list (W fx h dr) ad l fun j v hj => by rw [gO]; exact h9 j v hj
       simp [asAddr, loadVar, g1, sizeOf, typeInfo, hi, hs, g2]
   rw [List.mapM_cons];simp only [Sem.run_bind, h3, Result.andThen_ok, ih, Sem.run_pure]
variable {fn : Func}
theorem qC.results {rs : List ResultVar} {fx : Fx} {dr : Nat} {vs : Lv} (hrs : fn.results = rs.toArray) (ha : Ag n env a) (hv : qC P env h rs vs) :
  (results fn a.tmps).run P (W fx h dr) = .ok (ao vs) (W fx h dr) := by
 unfold Go.results;rw [hrs, List.mapM_toArray];simp only [Sem.run_bind, Sem.run_map];rw [qC.run (fx := fx) (dr := dr) ha _ (fun t => rfl) (fun c t => rfl) hv]
 match vs with
 | [] => rfl
 | [t] => rfl
 | t :: u :: r => simp [ao]
variable {R : Value -> yB -> Prop} {l : Lv}
theorem Ph {f : FuncId} {c : Code} (rs : List ResultVar) (hf : P.funcs[f]? = some fn) (hb : fn.body = some c) (hrs : fn.results = rs.toArray) (hl : Nat.ble l.length fn.ntmps = true) (ht : T P fn.ntmps c (WT l 0) h (U6 P rs R)) : C P f l.toArray h R := by
 intro x d;have hl' : l.length <= fn.ntmps := Nat.le_of_ble_eq_true hl;refine calls_of_wp hf hb (wp_mono (ht ⟨x.tape, x.os, x.out, []⟩ d _ ⟨⟨?_, ?_⟩, rfl⟩) ?_)
 ·simp; omega
 ·intro t v hv;rw [XN] at hv;simp only [Nat.zero_le, if_true, Nat.sub_zero] at hv;have hlt : t < l.length := (List.getElem?_eq_some_iff.1 hv).1;simp only [List.size_toArray];rw [Array.getElem?_append_left (by simpa using hlt)]
  simpa using hv
 ·rintro e a w' ⟨env, h', d', hag, rfl, hq⟩;cases e with
  | normal =>
    obtain ⟨vs, h1, h2⟩ := hq;exact ⟨hag.defers, _, h1.results hrs hag.toAg, _, h', d', rfl, rfl, h2⟩
  | ret =>
    obtain ⟨vs, h1, h2⟩ := hq;exact ⟨hag.defers, _, h1.results hrs hag.toAg, _, h', d', rfl, rfl, h2⟩
  | exit i => exact hq
  | goto l => exact hq
  | panic c => exact hq.elim
  | outgrown => exact hq.elim
theorem aA {a t b : Nat} {e : TypeId} {fr : Nat × Nat} (h1 : lk env a = some (.pointer (some ⟨b, 0, none⟩))) (h2 : mp h b = some (.cells l.toArray e fr)) (h3 : vq P t = some l.length) (hR : R (.agg l.toArray) h) : U6 P [.cell a t] R .ret env h := ⟨[.agg l.toArray], ⟨⟨_, h1, .inr ⟨l, h3, At.blk h2, rfl⟩⟩, trivial⟩, hR⟩
def El : List IntKind -> List Int -> Lv
 | k :: ks, a :: as => .int k a :: El ks as
 | _, _ => []
section
variable {P : Program} {n : Nat} {env : yW} {dst : Option Tmp} {ty : TypeId} {pos : String} {aft : Array Edge} {gd : Option (Nat × Bool)} {t yt : Nat} {x y : Operand} {ks : List IntKind} {as bs : List Int}
end
end Go.Eng
namespace Go.Eng
open Go.ChangeShapes Go.WideShapes Go.ChangeAt Go.RowKit
def fld (P : Program) (t i : Nat) : Option (TypeId × Nat) := match P.underlying t with
 | some (.struct fs) => (fs[i]?).map fun f => (f.type, f.offset)
 | _ => none
def UZ (P : Program) (t e : Nat) : Bool := match P.underlying t with
 | some (.slice e') => Nat.beq e' e
 | _ => false
theorem GT {P : Program} {t : Nat} (h : gE P t = true) : P.underlying t = some .string := by
 unfold gE at h
 split at h <;> simp_all
section
variable {H : Type} {enc : TypeId × Value -> H} {P : Program} {w : World} {base : Nat} {spare : Nat -> Bool} {held : Bool}
end
end Go.Eng
namespace Go.Eng
inductive zY where
 | mk (op n who : Int) (kids : List zY)
inductive zI where
 | mk (op who : Int) (name : Bt) (nums : List zY) (kids : List zI)
inductive zW where
 | mk (op who : Int) (n : zY) (name : Bt) (cond : zI) (thn els : List zW)
def Gd (n : Int) : Prop := -128 <= n /\ n <= 127
inductive xr (m : Mp) : Lv -> zY -> Prop
 | mk {op n who : Int} {kids : List zY} {A : Oa} {len c : Nat} {vs : Lv} (ho : Gd op) (hl : kids.length = len) (hm : len <= maxLen) (hr : Rd m A vs) (hv : vs.length = kids.length * 4)
   (hk : ∀ (i : Nat) (hi : i < kids.length), xr m ((vs.drop (i * 4)).take 4) kids[i]) : xr m [.int .i8 op, .int .i64 n, .int .i8 who, .slice A len c] (.mk op n who kids)
inductive yP (m : Mp) : Lv -> zI -> Prop
 | mk {op who : Int} {name : Bt} {nums : List zY} {kids : List zI} {A B : Oa} {la ca lb cb : Nat} {vs us : Lv} (ho : Gd op) (hw : Gd who) (hn : name.length <= maxLen) (hla : nums.length = la) (hma : la <= maxLen)
   (hra : Rd m A vs) (hva : vs.length = nums.length * 4) (hka : ∀ (i : Nat) (hi : i < nums.length), xr m ((vs.drop (i * 4)).take 4) nums[i])
   (hlb : kids.length = lb) (hmb : lb <= maxLen) (hrb : Rd m B us) (hvb : us.length = kids.length * 5) (hkb : ∀ (i : Nat) (hi : i < kids.length), yP m ((us.drop (i * 5)).take 5) kids[i]) :
   yP m [.int .i8 op, .int .i8 who, .string (bs name), .slice A la ca, .slice B lb cb] (.mk op who name nums kids)
inductive un (m : Mp) : Lv -> zW -> Prop
 | mk {op who : Int} {n : zY} {name : Bt} {cond : zI} {thn els : List zW} {ns cs : Lv} {A B : Oa} {la ca lb cb : Nat} {vs us : Lv} (ho : Gd op) (hw : Gd who) (hn : xr m ns n) (hnm : name.length <= maxLen) (hc : yP m cs cond)
   (hla : thn.length = la) (hma : la <= maxLen) (hra : Rd m A vs) (hva : vs.length = thn.length * 14) (hka : ∀ (i : Nat) (hi : i < thn.length), un m ((vs.drop (i * 14)).take 14) thn[i])
   (hlb : els.length = lb) (hmb : lb <= maxLen) (hrb : Rd m B us) (hvb : us.length = els.length * 14) (hkb : ∀ (i : Nat) (hi : i < els.length), un m ((us.drop (i * 14)).take 14) els[i]) :
   un m (.int .i8 op :: .int .i8 who :: (ns ++ .string (bs name) :: (cs ++ [.slice A la ca, .slice B lb cb]))) (.mk op who n name cond thn els)
variable {m m' : Mp} {vs : Lv}
theorem xr.mono {x : zY} (h : xr m vs x) (hl : Le m m') : xr m' vs x := by
 induction h with
 | mk ho hln hm hr hv _ ih => exact .mk ho hln hm (hr.mono hl) hv ih
theorem yP.mono {x : zI} (h : yP m vs x) (hl : Le m m') : yP m' vs x := by
 induction h with
 | mk ho hw hn hla hma hra hva hka hlb hmb hrb hvb _ ih => exact .mk ho hw hn hla hma (hra.mono hl) hva (fun i hi => (hka i hi).mono hl) hlb hmb (hrb.mono hl) hvb ih
variable {x : zW}
theorem un.mono (h : un m vs x) (hl : Le m m') : un m' vs x := by
 induction h with
 | mk ho hw hn hnm hc hla hma hra hva _ hlb hmb hrb hvb _ ih1 ih2 => exact .mk ho hw (hn.mono hl) hnm (hc.mono hl) hla hma (hra.mono hl) hva ih1 hlb hmb (hrb.mono hl) hvb ih2
theorem xr.len {x : zY} (h : xr m vs x) : vs.length = 4 := by cases h; rfl
theorem yP.len {x : zI} (h : yP m vs x) : vs.length = 5 := by cases h; rfl
theorem un.len (h : un m vs x) : vs.length = 14 := by
 cases h with
 | mk ho hw hn hnm hc => simp [hn.len, hc.len]
theorem xr.form {x : zY} (h : xr m vs x) : ∃ op n who A len c, vs = [.int .i8 op, .int .i64 n, .int .i8 who, .slice A len c] := by
 cases h; exact ⟨_, _, _, _, _, _, rfl⟩
theorem yP.form {x : zI} (h : yP m vs x) : ∃ op who name A la ca B lb cb, vs = [.int .i8 op, .int .i8 who, .string (bs name), .slice A la ca, .slice B lb cb] := by
 cases h; exact ⟨_, _, _, _, _, _, _, _, _, rfl⟩
theorem un.form (h : un m vs x) : ∃ op who nop nn nwho nA nlen nc name cop cwho cname cA cla cca cB clb ccb A la ca B lb cb,
  vs = [.int .i8 op, .int .i8 who, .int .i8 nop, .int .i64 nn, .int .i8 nwho, .slice nA nlen nc, .string (bs name), .int .i8 cop, .int .i8 cwho, .string (bs cname), .slice cA cla cca, .slice cB clb ccb, .slice A la ca, .slice B lb cb] := by
 cases h with
 | mk ho hw hn hnm hc =>
   obtain ⟨_, _, _, _, _, _, rfl⟩ := hn.form;obtain ⟨_, _, _, _, _, _, _, _, _, rfl⟩ := hc.form;exact ⟨_, _, _, _, _, _, _, _, _, _, _, _, _, _, _, _, _, _, _, _, _, _, _, _, rfl⟩
def xV (m : Mp) (A : Oa) (len : Nat) (l : List zW) : Prop :=
 l.length = len /\ len <= maxLen /\ ∃ vs, Rd m A vs /\ vs.length = l.length * 14 /\ ∀ (i : Nat) (hi : i < l.length), un m ((vs.drop (i * 14)).take 14) l[i]
variable {A : Oa}
theorem xV.mono {len : Nat} {l : List zW} (h : xV m A len l) (hl : Le m m') : xV m' A len l := by
 obtain ⟨h1, h2, vs, h3, h4, h5⟩ := h;exact ⟨h1, h2, vs, h3.mono hl, h4, fun i hi => (h5 i hi).mono hl⟩
theorem un.parts (h : un m vs x) : ∃ op who nop nn nwho nA nlen nc name cop cwho cname cA cla cca cB clb ccb A la ca B lb cb, ∃ n cond thn els,
  vs = [.int .i8 op, .int .i8 who, .int .i8 nop, .int .i64 nn, .int .i8 nwho, .slice nA nlen nc, .string (bs name), .int .i8 cop, .int .i8 cwho, .string (bs cname), .slice cA cla cca, .slice cB clb ccb, .slice A la ca, .slice B lb cb] /\
  x = .mk op who n name cond thn els /\ Gd op /\ xr m [.int .i8 nop, .int .i64 nn, .int .i8 nwho, .slice nA nlen nc] n /\ yP m [.int .i8 cop, .int .i8 cwho, .string (bs cname), .slice cA cla cca, .slice cB clb ccb] cond /\
  xV m A la thn /\ xV m B lb els := by
 cases h with
 | mk ho hw hn hnm hc hla hma hra hva hka hlb hmb hrb hvb hkb =>
   obtain ⟨_, _, _, _, _, _, rfl⟩ := hn.form;obtain ⟨_, _, _, _, _, _, _, _, _, rfl⟩ := hc.form;exact ⟨_, _, _, _, _, _, _, _, _, _, _, _, _, _, _, _, _, _, _, _, _, _, _, _, _, _, _, _, rfl, rfl, ho, hn, hc, ⟨hla, hma, _, hra, hva, hka⟩, ⟨hlb, hmb, _, hrb, hvb, hkb⟩⟩
structure zP where
 name : Bt
 unit : Bool
 cost : Int
 power : Int
 health : Int
 shield : Int
 apow : Int
 aheal : Int
 played : List zW
 dead : List zW
 dawn : List zW
 at_ : Int
def cC (m : Mp) (vs : Lv) (x : zP) : Prop :=
 ∃ A la ca B lb cb D ld cd, vs = [.string (bs x.name), .bool x.unit, .int .i64 x.cost, .int .i64 x.power, .int .i64 x.health, .int .i64 x.shield, .int .i64 x.apow, .int .i64 x.aheal, .slice A la ca, .slice B lb cb, .slice D ld cd, .int .i64 x.at_] /\
  x.name.length <= maxLen /\ xV m A la x.played /\ xV m B lb x.dead /\ xV m D ld x.dawn /\
  (Lit.int .i64 x.cost).wf = true /\ (Lit.int .i64 x.power).wf = true /\ (Lit.int .i64 x.health).wf = true /\ (Lit.int .i64 x.shield).wf = true /\ (Lit.int .i64 x.apow).wf = true /\ (Lit.int .i64 x.aheal).wf = true /\ (Lit.int .i64 x.at_).wf = true
theorem cC.mono {x : zP} (h : cC m vs x) (hl : Le m m') : cC m' vs x := by
 obtain ⟨A, la, ca, B, lb, cb, D, ld, cd, h1, h2, h3, h4, h5, h6⟩ := h;exact ⟨A, la, ca, B, lb, cb, D, ld, cd, h1, h2, h3.mono hl, h4.mono hl, h5.mono hl, h6⟩
def ep (m : Mp) (A : Oa) (len : Nat) (l : List zP) : Prop :=
 l.length = len /\ len <= maxLen /\ ∃ vs, Rd m A vs /\ vs.length = l.length * 12 /\ ∀ (i : Nat) (hi : i < l.length), cC m ((vs.drop (i * 12)).take 12) l[i]
theorem ep.mono {len : Nat} {l : List zP} (h : ep m A len l) (hl : Le m m') : ep m' A len l := by
 obtain ⟨h1, h2, vs, h3, h4, h5⟩ := h;exact ⟨h1, h2, vs, h3.mono hl, h4, fun i hi => (h5 i hi).mono hl⟩
structure DO where
 i8 : Nat
 int : Nat
 str : Nat
 num : Nat
 nums : Nat
 cond : Nat
 conds : Nat
 eff : Nat
 effs : Nat
def fC (P : Program) (t k : Nat) : Bool := Nat.beq (P.cellsOf t) k
def kk (P : Program) (t i ft off : Nat) : Bool := match fld P t i with
 | some (a, b) => Nat.beq a ft && Nat.beq b off
 | none => false
def DO.ok (P : Program) (y : DO) : Bool :=
 aN P y.i8 .i8 && aN P y.int .i64 && gE P y.str && fC P y.i8 1 && fC P y.int 1 && fC P y.str 1 && fC P y.nums 1 && fC P y.conds 1 && fC P y.effs 1 &&
 fC P y.num 4 && fC P y.cond 5 && fC P y.eff 14 && UZ P y.nums y.num && UZ P y.conds y.cond && UZ P y.effs y.eff &&
 kk P y.num 0 y.i8 0 && kk P y.num 1 y.int 1 && kk P y.num 2 y.i8 2 && kk P y.num 3 y.nums 3 &&
 kk P y.cond 0 y.i8 0 && kk P y.cond 1 y.i8 1 && kk P y.cond 2 y.str 2 && kk P y.cond 3 y.nums 3 && kk P y.cond 4 y.conds 4 &&
 kk P y.eff 0 y.i8 0 && kk P y.eff 1 y.i8 1 && kk P y.eff 2 y.num 2 && kk P y.eff 3 y.str 6 && kk P y.eff 4 y.cond 7 && kk P y.eff 5 y.effs 12 && kk P y.eff 6 y.effs 13
section
variable {H : Type} {enc : TypeId × Value -> H} {P : Program} {w : World} {base : Nat} {spare : Nat -> Bool} {held : Bool} {y : DO}
end
end Go.Eng
namespace Go.Eng
inductive OT where
 | done
 | step (i : Nat) (k : Kd) (t : OT)
 | fork (s t : OT)
def Zd : OT -> Nat -> Bool
 | .done, _ => false
 | .step i k t, j => (Nat.beq i j && k.isWild) || Zd t j
 | .fork s t, j => Zd s j || Zd t j
def vS : OT -> List Nat
 | .done => []
 | .step i _ _ => [i]
 | .fork s t => vS s ++ vS t
def ji (l : List Oper) (wild : Nat -> Bool) : OT -> Bool -> Nat -> Array Bool -> Bool
 | .done, b, n, listed => !b && Nat.beq n 0 && (Region.ready .any l.toArray listed).isEmpty
 | .step i k t, b, n, listed => match n with
   | 0 => false
   | m + 1 =>
     (match fe l i with
      | none => false
      | some o => if k.quiet then !b && (Region.ready .any l.toArray listed).contains i && NL l wild listed i o k.isPure else b || Region.ready .any l.toArray listed == [i]) &&
     ji l wild t false m (listed.setIfInBounds i true)
 | .fork s t, b, n, listed => (b || (!(Region.ready .any l.toArray listed).isEmpty && (Region.ready .any l.toArray listed).all (vS s ++ vS t).contains)) && ji l wild s true n listed && ji l wild t true n listed
def b9 (P : Program) (l : List Oper) (wild : Nat -> Bool) (Q : Exit -> Act -> World -> Prop) : OT -> Act -> World -> Prop
 | .done, a, w => Q .normal a w
 | .step i k t, a, w =>
   if k.quiet then ∃ o v, fe l i = some o /\ Yl P l.toArray k.isPure o v a w /\ b9 P l wild Q t (a.put o.dst v) w
   else opE P l.toArray wild Q i (b9 P l wild Q t) a w
 | .fork s t, a, w => b9 P l wild Q s a w /\ b9 P l wild Q t a w
theorem QU {P : Program} {l : List Oper} {wild : Nat -> Bool} {Q : Exit -> Act -> World -> Prop} (hsel : ak l = true)
  (hQ : ∀ c a a' w, a'.tmps.size = a.tmps.size -> a'.defers = a.defers -> Q (.panic c) a' w -> Q (.panic c) a w) :
  ∀ (t : OT) (n : Nat) (listed : Array Bool) (a : Act) (w : World), b9 P l wild Q t a w ->
   (ji l wild t false n listed = true -> YM P l.toArray wild Q n listed a w) /\
   (ji l wild t true n listed = true -> vS t ≠ [] /\ 0 < n /\ ∀ i ∈ vS t, opE P l.toArray wild Q i (YM P l.toArray wild Q (n - 1) (listed.setIfInBounds i true)) a w) := by
 intro t
 induction t with
 | done =>
   intro n listed a w hs;refine ⟨fun hc => ?_, fun hc => by simp [ji] at hc⟩;simp only [ji, Bool.not_false, Bool.true_and, Bool.and_eq_true, List.isEmpty_iff] at hc;have hn := Nat.eq_of_beq_eq_true hc.1;subst hn;exact ⟨hc.2, hs⟩
 | step i k t ih =>
   intro n listed a w hs;cases n with
   | zero => exact ⟨fun hc => by simp [ji] at hc, fun hc => by simp [ji] at hc⟩
   | succ m =>
     unfold b9 at hs;cases hk : k.quiet with
     | true =>
       rw [if_pos hk] at hs;obtain ⟨o, v, ho, hy, hs⟩ := hs;refine ⟨fun hc => ?_, fun hc => ?_⟩
       ·unfold ji at hc;rw [Bool.and_eq_true] at hc;obtain ⟨hc, hc'⟩ := hc;rw [ho] at hc;simp only [hk, if_true, Bool.not_false, Bool.true_and, Bool.and_eq_true] at hc;obtain ⟨hr, hf⟩ := hc;have hi : l.toArray[i]? = some o := by rw [qw]; exact ho
        unfold NL at hf;rw [Bool.and_eq_true] at hf;obtain ⟨hf, hf2⟩ := hf;refine d5 rfl hi (ff hsel) (fun c a w h => hQ c a _ w ?_ ?_ h) m listed a w ?_ ?_ (by simpa using hr) hy ((ih m _ _ _ hs).1 hc')
        ·cases o.dst <;> simp [Act.put]
        ·cases o.dst <;> simp [Act.put]
        ·intro j oj hj hji hun hno;rw [List.all_eq_true] at hf
         have hlt : j < l.length := by
          have := (Array.getElem?_eq_some_iff.1 hj).1
          simpa using this
         have := hf j (List.mem_range.2 hlt);rw [qw] at hj;rw [hj] at this
         have hno' : (uz l i).contains j = false := by
          cases hcn : (uz l i).contains j with
          | false => rfl
          | true => exact absurd (List.contains_iff_mem.1 hcn) hno
         simp only [hun, hno', beq_eq_false_iff_ne.2 hji, Bool.false_or, Bool.and_eq_true] at this;exact ⟨this.1, by cases hw : wild j <;> simp [hw] at this ⊢ <;> simp [this]⟩
        ·intro k hk hmem;rw [List.all_eq_true] at hf2;have := hf2 k hmem;rw [hk] at this;cases this
       ·unfold ji at hc;rw [Bool.and_eq_true] at hc;rw [ho] at hc
        simp [hk] at hc
     | false =>
       rw [if_neg (by rw [hk]; simp)] at hs
       have hb : ∀ b, ji l wild (.step i k t) b (m + 1) listed = true -> opE P l.toArray wild Q i (YM P l.toArray wild Q m (listed.setIfInBounds i true)) a w := fun b hc => by
        unfold ji at hc;rw [Bool.and_eq_true] at hc;exact Zs (fun a w hs => (ih m _ a w hs).1 hc.2) hs
       refine ⟨fun hc => ?_, fun hc => ⟨by simp [vS], Nat.succ_pos _, fun j hj => ?_⟩⟩
       ·have hrd : Region.ready .any l.toArray listed = [i] := by
         unfold ji at hc;rw [Bool.and_eq_true] at hc;have hc1 := hc.1
         split at hc1
         ·cases hc1
         ·simp only [hk, Bool.false_eq_true, if_false, Bool.false_or] at hc1
          simpa using hc1
        refine ⟨(fun h => by rw [hrd] at h; cases h), fun j hj => ?_⟩;rw [hrd] at hj;have : j = i := by simpa using hj
        subst this;exact hb _ hc
       ·have : j = i := by simpa [vS] using hj
        subst this;exact hb _ hc
 | fork s t ih1 ih2 =>
   intro n listed a w hs;unfold b9 at hs
   have key : ∀ b, ji l wild (.fork s t) b n listed = true -> vS (.fork s t) ≠ [] /\ 0 < n /\ ∀ i ∈ vS (.fork s t), opE P l.toArray wild Q i (YM P l.toArray wild Q (n - 1) (listed.setIfInBounds i true)) a w := fun b hc => by
    unfold ji at hc;simp only [Bool.and_eq_true] at hc;obtain ⟨h1, h0, h2⟩ := (ih1 n listed a w hs.1).2 hc.1.2;obtain ⟨_, _, h3⟩ := (ih2 n listed a w hs.2).2 hc.2;refine ⟨by simp [vS, h1], h0, fun i hi => ?_⟩;simp only [vS, List.mem_append] at hi;rcases hi with hi | hi
    ·exact h2 i hi
    ·exact h3 i hi
   refine ⟨fun hc => ?_, key true⟩;obtain ⟨k1, k2, k3⟩ := key false hc;unfold ji at hc;simp only [Bool.and_eq_true, Bool.false_or] at hc;have hall := hc.1.1.2;have hne := hc.1.1.1;rw [List.all_eq_true] at hall;obtain ⟨m, rfl⟩ : ∃ m, n = m + 1 := ⟨n - 1, by omega⟩;refine ⟨fun hnil => (by rw [hnil] at hne; cases hne), fun i hi => ?_⟩;have := hall i hi;exact k3 i (by simpa [vS] using this)
def VT (P : Program) (n : Nat) (l : List Oper) (wild : Nat -> Bool) (t : OT) (env : yW) (h : yB) (Q : yR) : Prop :=
 ∀ (x : Fx) (d : Nat) (a : Act), dB n x env a -> b9 P l wild (ZA n x Q) t a (W x h d)
def W5 (l : List Oper) (t : OT) : Bool := ak l && ji l (Zd t) t false l.length (Array.replicate l.length false)
section
variable {P : Program} {n : Nat} {env : yW} {h : yB} {Q : yR} {l : List Oper} {wild : Nat -> Bool} {t : OT} {o : Oper} {v : Value} {d i : Nat}
theorem Hn {id : Nat} (t : OT) (hm : P.follows .mixedOrders = true) (hck : W5 l t = true) (hQ : ∀ c env env' h, Q (.panic c) env h -> Q (.panic c) env' h)
  (hv : VT P n l (Zd t) t env h Q) : T P n (.region id l.toArray true) env h Q := by
 intro x d a hag;unfold W5 at hck;simp only [Bool.and_eq_true] at hck;obtain ⟨h1, h3⟩ := hck;have hs := hv x (d + 1) a hag
 have := (QU h1 (Q := ZA n x Q) (by
  rintro c a a' w hsz hdf ⟨env, h, d, hag, rfl, hq⟩
  refine ⟨[], h, d, ⟨⟨by rw [<- hsz]; exact hag.size, fun t v ht => by simp [lk] at ht⟩, by rw [<- hdf]; exact hag.defers⟩, rfl, hQ _ _ _ _ hq⟩) t l.length _ a _ hs).1 h3
 refine wp_region_any hm (kN (wild := Zd t) _ _ _ _ ?_);rw [List.size_toArray];exact this
theorem Q2 (hq : Q .normal env h) : VT P n l wild .done env h Q := fun _ d _ hag => ⟨env, h, d, hag, rfl, hq⟩
theorem Q3 {s : OT} (h1 : VT P n l wild s env h Q) (h2 : VT P n l wild t env h Q) : VT P n l wild (.fork s t) env h Q := fun x d a hag => ⟨h1 x d a hag, h2 x d a hag⟩
theorem bU (ho : fe l i = some o) (hr : yz P n o env v) (hd : o.dst = some d) (hn : Nat.blt d n = true) (hw : wanted l env o = some true) (hk : VT P n l wild t ((d, v) :: env) h Q) :
  VT P n l wild (.step i .pure t) env h Q := by
 intro x dr a hag;unfold b9;rw [if_pos (show Kd.quiet _ = true from rfl)];refine ⟨o, v, ho, .inl ⟨wg hag.toAg hw, fun w' _ => hr a w' hag⟩, ?_⟩;rw [hd];exact hk x dr _ (hag.put d v (by simpa [Nat.blt_eq] using hn))
theorem QZ (ho : fe l i = some o) (hr : vj P n o env h v) (hd : o.dst = some d) (hn : Nat.blt d n = true) (hw : wanted l env o = some true) (hk : VT P n l wild t ((d, v) :: env) h Q) :
  VT P n l wild (.step i .read t) env h Q := by
 intro x dr a hag;unfold b9;rw [if_pos (show Kd.quiet _ = true from rfl)];refine ⟨o, v, ho, .inl ⟨wg hag.toAg hw, fun w' hw' => hr a w' hag ?_⟩, ?_⟩
 ·rcases hw' with h0 | h0
  ·cases h0
  ·exact h0
 ·rw [hd];exact hk x dr _ (hag.put d v (by simpa [Nat.blt_eq] using hn))
theorem RB {k : Kd} (hq : k.quiet = true) (ho : fe l i = some o) (hw : wanted l env o = some false) (hd : o.dst = some d) (hn : Nat.blt d n = true) (hk : VT P n l wild t ((d, undef) :: env) h Q) :
  VT P n l wild (.step i k t) env h Q := by
 intro x dr a hag;unfold b9;rw [if_pos hq];refine ⟨o, undef, ho, .inr ⟨wg hag.toAg hw, rfl⟩, ?_⟩;rw [hd];exact hk x dr _ (hag.put d undef (by simpa [Nat.blt_eq] using hn))
theorem gR (ho : fe l i = some o) (hs : gj P n Q o env h fun env' h' => Le (mp h) (mp h') /\ VT P n l wild t env' h' Q) (hw : wanted l env o = some true) :
  VT P n l wild (.step i .kept t) env h Q := by
 intro x dr a hag;unfold b9;rw [if_neg (by simp [Kd.quiet])];unfold opE;rw [qw, ho];simp only;rw [if_pos (wg hag.toAg hw)];refine Oper.wp_mono ?_ (hs x dr a hag);rintro a' w' ⟨env', h', d', hag', rfl, hle, hv⟩;exact ⟨.inr hle, hv x d' a' hag'⟩
theorem XQ (ho : fe l i = some o) (hwl : wild i = true) (hs : gj P n Q o env h fun env' h' => VT P n l wild t env' h' Q) (hw : wanted l env o = some true) :
  VT P n l wild (.step i .wild t) env h Q := by
 intro x dr a hag;unfold b9;rw [if_neg (by simp [Kd.quiet])];unfold opE;rw [qw, ho];simp only;rw [if_pos (wg hag.toAg hw)];refine Oper.wp_mono ?_ (hs x dr a hag);rintro a' w' ⟨env', h', d', hag', rfl, hv⟩;exact ⟨.inl hwl, hv x d' a' hag'⟩
end
end Go.Eng
namespace Go.Eng
open Go.ChangeShapes Go.WideShapes Go.ChangeAt Go.RowKit
structure C0 where
 y : DO
 bool : Nat
 card : Nat
 cards : Nat
def C0.ok (P : Program) (c : C0) : Bool :=
 c.y.ok P && (bI P c.bool && (fC P c.bool 1 && (fC P c.card 12 && (UZ P c.cards c.card &&
 (kk P c.card 0 c.y.str 0 && (kk P c.card 1 c.bool 1 && (kk P c.card 2 c.y.int 2 && (kk P c.card 3 c.y.int 3 && (kk P c.card 4 c.y.int 4 && (kk P c.card 5 c.y.int 5 && (kk P c.card 6 c.y.int 6 && (kk P c.card 7 c.y.int 7 &&
 (kk P c.card 8 c.y.effs 8 && (kk P c.card 9 c.y.effs 9 && (kk P c.card 10 c.y.effs 10 && kk P c.card 11 c.y.int 11)))))))))))))))
section
variable {H : Type} {enc : TypeId × Value -> H} {P : Program} {w : World} {base : Nat} {spare : Nat -> Bool} {held : Bool} {c : C0}
end
end Go.Eng
