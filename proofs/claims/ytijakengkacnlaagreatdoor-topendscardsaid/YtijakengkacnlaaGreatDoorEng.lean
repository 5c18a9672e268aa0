/- A Hoare logic over heaps for the model's code, and its lemmas, one an operation: all are proved here. No condition. -/
import Derived.KernelRfl
import Derived.Calls
import Derived.Tactics
import Derived.Below
import Derived.Scope
import Derived.Orders
import Derived.WalkKit
import Derived.Maps.AppendAt
import Derived.ProofKit
import Derived.OpenShut
import Derived.ShutString
import Derived.ChangeOld
import Derived.SliceStrings
import Derived.Deep.Slices
import Derived.Laws.Cover1
import Derived.Laws.StructEq
import Derived.Laws.BitsLemmas
import Derived.RangeFuncNested
import Derived.RangeFuncLeaves
import Derived.Recover
import Derived.Laws.IdiomStrings
import Derived.ScopeJumps
import Derived.SizedLaws
import Derived.Lib.LazyBuf
import Derived.Lib.AppendStr
import Derived.Lib.UnsafeStr
abbrev Bt := List UInt8
theorem tm_so {p : Prop} (h : p := by simp only [List.length_append, List.length_cons, List.length_nil]; omega) : p := h
theorem tm_fo {p : Prop} (h : p := by first | omega | (simp only [List.length_append, List.length_cons, List.length_nil]; omega)) : p := h
theorem jv {p : Prop} (h : p := by first | assumption | omega | decide | exact fun hx => hx (by assumption)) : p := h
theorem xP {p : Prop} (h : p := by first | assumption | rfl | omega | decide) : p := h
theorem jw {p : Prop} (h : p := by dsimp only; omega) : p := h
theorem zba {p : Prop} (h : p := by simp <;> omega) : p := h
theorem wo {p : Prop} (h : p := by assumption) : p := h
theorem ze {p : Prop} (h : p := by omega) : p := h
theorem zK {p : Prop} (h : p := by decide) : p := h
theorem zn {p : Prop} (h : p := by kernel_rfl) : p := h
theorem zk {p : Prop} (h : p := by decide +kernel) : p := h
theorem vM {p : Prop} (h : p := by simp) : p := h
theorem zX {αa : Type} {a : αa} : a = a ∧ True := ⟨rfl, trivial⟩
theorem YH {αa αb : Type} {a : αa} {b : αb} : a = a ∧ b = b ∧ True := ⟨rfl, rfl, trivial⟩
theorem YG {αa αb αc : Type} {a : αa} {b : αb} {c : αc} : a = a ∧ b = b ∧ c = c ∧ True := ⟨rfl, rfl, rfl, trivial⟩
theorem eV {αa αb αc αd : Type} {a : αa} {b : αb} {c : αc} {d : αd} : a = a ∧ b = b ∧ c = c ∧ d = d ∧ True := ⟨rfl, rfl, rfl, rfl, trivial⟩
theorem Kr {αa αb αc αd αe : Type} {a : αa} {b : αb} {c : αc} {d : αd} {e : αe} : a = a ∧ b = b ∧ c = c ∧ d = d ∧ e = e ∧ True := ⟨rfl, rfl, rfl, rfl, rfl, trivial⟩
theorem VJ {αa αb αc αd αe αf : Type} {a : αa} {b : αb} {c : αc} {d : αd} {e : αe} {f : αf} : a = a ∧ b = b ∧ c = c ∧ d = d ∧ e = e ∧ f = f ∧ True := ⟨rfl, rfl, rfl, rfl, rfl, rfl, trivial⟩
theorem tm_t7 {αa αb αc αd αe αf αg : Type} {a : αa} {b : αb} {c : αc} {d : αd} {e : αe} {f : αf} {g : αg} : a = a ∧ b = b ∧ c = c ∧ d = d ∧ e = e ∧ f = f ∧ g = g ∧ True := ⟨rfl, rfl, rfl, rfl, rfl, rfl, rfl, trivial⟩
theorem tm_t8 {αa αb αc αd αe αf αg αh : Type} {a : αa} {b : αb} {c : αc} {d : αd} {e : αe} {f : αf} {g : αg} {h : αh} : a = a ∧ b = b ∧ c = c ∧ d = d ∧ e = e ∧ f = f ∧ g = g ∧ h = h ∧ True := ⟨rfl, rfl, rfl, rfl, rfl, rfl, rfl, rfl, trivial⟩
theorem tm_t9 {αa αb αc αd αe αf αg αh αi : Type} {a : αa} {b : αb} {c : αc} {d : αd} {e : αe} {f : αf} {g : αg} {h : αh} {i : αi} : a = a ∧ b = b ∧ c = c ∧ d = d ∧ e = e ∧ f = f ∧ g = g ∧ h = h ∧ i = i ∧ True := ⟨rfl, rfl, rfl, rfl, rfl, rfl, rfl, rfl, rfl, trivial⟩
theorem za9 {αa αb αc αd αe αf αg αh αi αj : Type} {a : αa} {b : αb} {c : αc} {d : αd} {e : αe} {f : αf} {g : αg} {h : αh} {i : αi} {j : αj} : a = a ∧ b = b ∧ c = c ∧ d = d ∧ e = e ∧ f = f ∧ g = g ∧ h = h ∧ i = i ∧ j = j ∧ True := ⟨rfl, rfl, rfl, rfl, rfl, rfl, rfl, rfl, rfl, rfl, trivial⟩
theorem za8 {αa αb αc αd αe αf αg αh αi αj αk : Type} {a : αa} {b : αb} {c : αc} {d : αd} {e : αe} {f : αf} {g : αg} {h : αh} {i : αi} {j : αj} {k : αk} : a = a ∧ b = b ∧ c = c ∧ d = d ∧ e = e ∧ f = f ∧ g = g ∧ h = h ∧ i = i ∧ j = j ∧ k = k ∧ True := ⟨rfl, rfl, rfl, rfl, rfl, rfl, rfl, rfl, rfl, rfl, rfl, trivial⟩
theorem za7 {αa αb αc αd αe αf αg αh αi αj αk αl : Type} {a : αa} {b : αb} {c : αc} {d : αd} {e : αe} {f : αf} {g : αg} {h : αh} {i : αi} {j : αj} {k : αk} {l : αl} : a = a ∧ b = b ∧ c = c ∧ d = d ∧ e = e ∧ f = f ∧ g = g ∧ h = h ∧ i = i ∧ j = j ∧ k = k ∧ l = l ∧ True := ⟨rfl, rfl, rfl, rfl, rfl, rfl, rfl, rfl, rfl, rfl, rfl, rfl, trivial⟩
theorem za6 {αa αb αc αd αe αf αg αh αi αj αk αl αm : Type} {a : αa} {b : αb} {c : αc} {d : αd} {e : αe} {f : αf} {g : αg} {h : αh} {i : αi} {j : αj} {k : αk} {l : αl} {m : αm} : a = a ∧ b = b ∧ c = c ∧ d = d ∧ e = e ∧ f = f ∧ g = g ∧ h = h ∧ i = i ∧ j = j ∧ k = k ∧ l = l ∧ m = m ∧ True := ⟨rfl, rfl, rfl, rfl, rfl, rfl, rfl, rfl, rfl, rfl, rfl, rfl, rfl, trivial⟩
theorem za5 {αa αb αc αd αe αf αg αh αi αj αk αl αm αn : Type} {a : αa} {b : αb} {c : αc} {d : αd} {e : αe} {f : αf} {g : αg} {h : αh} {i : αi} {j : αj} {k : αk} {l : αl} {m : αm} {n : αn} : a = a ∧ b = b ∧ c = c ∧ d = d ∧ e = e ∧ f = f ∧ g = g ∧ h = h ∧ i = i ∧ j = j ∧ k = k ∧ l = l ∧ m = m ∧ n = n ∧ True := ⟨rfl, rfl, rfl, rfl, rfl, rfl, rfl, rfl, rfl, rfl, rfl, rfl, rfl, rfl, trivial⟩
namespace Go.Eng
abbrev Oa := Option Addr
abbrev Lv := List Value
abbrev zZ := Array Obj
abbrev Env := List (Nat × Value)
structure Fx where
 tape : Nat -> Question -> Nat
 os : Os
 out : Array (Nat × ByteArray)
 /-- the calls that the frame has put off -/
 ds : List Deferred
def W (x : Fx) (h : zZ) (d : Nat) : World := ⟨h, x.tape, d, x.os, x.out⟩
theorem Qo (w : World) : w = W ⟨w.tape, w.os, w.output, []⟩ w.heap w.drawn := rfl
def lk : Env -> Nat -> Option Value
 | [], _ => none
 | (d, v) :: r, t => match Nat.beq d t with
   | true => some v
   | false => lk r t
theorem bl {d t : Nat} (h : d ≠ t) : Nat.beq d t = false := by
 cases hb : Nat.beq d t
 ·rfl
 ·exact absurd (Nat.eq_of_beq_eq_true hb) h
theorem gK (env : Env) (d : Nat) (v : Value) : lk ((d, v) :: env) d = some v := by simp [lk]
theorem aW (env : Env) (d t : Nat) (v : Value) (h : d ≠ t) : lk ((d, v) :: env) t = lk env t := by
 have : Nat.beq d t = false := bl h
 simp [lk, this]
structure Ag (n : Nat) (env : Env) (a : Act) : Prop where
 size : a.tmps.size = n
 at_ : ∀ t v, lk env t = some v -> a.tmps[t]? = some v
variable {a : Act} {env : Env} {n : Nat}
theorem Ag.put (h : Ag n env a) (d : Nat) (v : Value) (hd : d < n) : Ag n ((d, v) :: env) (a.put (some d) v) := by
 refine ⟨by simp [Act.put, h.size], fun t u ht => ?_⟩;by_cases hdt : d = t
 ·subst hdt;rw [gK] at ht
  injection ht with ht
  subst ht
  simp [Act.put, h.size, hd]
 ·rw [aW _ _ _ _ hdt] at ht;simp only [Act.put];rw [Array.getElem?_setIfInBounds_ne hdt];exact h.at_ t u ht
def ev (env : Env) : Operand -> Option Value
 | .tmp t => lk env t
 | .const v => some v
 | .global g => some (.pointer (some ⟨g, 0, none⟩))
 | .func f => some (.func (.func f) #[] #[])
theorem Ag.eval (h : Ag n env a) {x : Operand} {v : Value} (hx : ev env x = some v) : a.eval x = v := by
 cases x with
 | tmp t =>
   have := h.at_ t v hx
   simp [Act.eval, this]
 | _ => simpa [ev, Act.eval] using hx
def dF : Env -> Env -> Prop
 | [], _ => True
 | (d, v) :: r, env => lk env d = some v /\ dF r env
variable {r : Env}
theorem dF.lk (h : dF r env) (t : Nat) (v : Value) (ht : Eng.lk r t = some v) : Eng.lk env t = some v := by
 induction r with
 | nil => simp [Eng.lk] at ht
 | cons p r ih =>
   obtain ⟨d, u⟩ := p;obtain ⟨h2, h3⟩ := h;by_cases hd : d = t
   ·subst hd; rw [gK] at ht; rw [<- ht]; exact h2
   ·rw [aW _ _ _ _ hd] at ht;exact ih h3 ht
theorem Ag.sub (h : Ag n env a) (hs : dF r env) : Ag n r a :=
 ⟨h.size, fun t v ht => h.at_ t v (hs.lk t v ht)⟩
structure kj (n : Nat) (x : Fx) (env : Env) (a : Act) : Prop extends Ag n env a where
 defers : a.defers = x.ds
instance {n : Nat} {x : Fx} {env : Env} {a : Act} : CoeOut (kj n x env a) (Ag n env a) := ⟨kj.toAg⟩
variable {x : Fx}
theorem kj.put (h : kj n x env a) (d : Nat) (v : Value) (hd : d < n) : kj n x ((d, v) :: env) (a.put (some d) v) := ⟨h.toAg.put d v hd, h.defers⟩
theorem kj.sub (h : kj n x env a) (hs : dF r env) : kj n x r a := ⟨h.toAg.sub hs, h.defers⟩
def C (P : Program) (f : FuncId) (args : Array Value) (h : zZ) (R : Value -> zZ -> Prop) : Prop :=
 ∀ (x : Fx) (d : Nat), Calls P f args (W x h d) fun e w' => ∃ v h' d', e = .returned v /\ w' = W x h' d' /\ R v h'
theorem C.mono {P : Program} {f : FuncId} {args : Array Value} {h : zZ} {R R' : Value -> zZ -> Prop} (hc : C P f args h R) (hr : ∀ v h', R v h' -> R' v h') : C P f args h R' :=
 fun x d => (hc x d).mono fun _ _ ⟨v, h', d', h1, h2, h3⟩ => ⟨v, h', d', h1, h2, hr v h' h3⟩
abbrev yd := Exit -> Env -> zZ -> Prop
def cL (n : Nat) (x : Fx) (Q : yd) : Exit -> Act -> World -> Prop :=
 fun e a w => ∃ env h d, kj n x env a /\ w = W x h d /\ Q e env h
def T (P : Program) (n : Nat) (c : Code) (env : Env) (h : zZ) (Q : yd) : Prop :=
 ∀ (x : Fx) (d : Nat) (a : Act), kj n x env a -> c.wp P (cL n x Q) a (W x h d)
def xJ (P : Program) (n : Nat) (c : Code) (Q : yd) : yd
 | .normal, env, h => T P n c env h Q
 | e, env, h => Q e env h
def wE (id : Nat) (Q : yd) : yd
 | .exit i, env, h => if i = id then Q .normal env h else Q (.exit i) env h
 | e, env, h => Q e env h
section
variable {P : Program} {n : Nat} {env : Env} {h : zZ} {Q : yd}
variable {a b : Code}
theorem zm (ht : T P n a env h (xJ P n b Q)) : T P n (.seq a b) env h Q := by
 intro x d act hag;refine wp_seq (wp_mono (ht x d act hag) ?_);rintro e a' w' ⟨env', h', d', hag', rfl, hq⟩;cases e with
 | normal => exact hq x d' a' hag'
 | _ => exact ⟨env', h', d', hag', rfl, hq⟩
variable {c : Code}
theorem za (ht : T P n c env h Q) : xJ P n c Q .normal env h := ht
variable {i : Nat}
theorem uP (hq : Q (.exit i) env h) : xJ P n c Q (.exit i) env h := hq
theorem yN (hq : Q .ret env h) : xJ P n c Q .ret env h := hq
variable {id : Nat}
theorem wG (ht : T P n c env h (wE id Q)) : T P n (.block id c) env h Q := by
 intro x d act hag;refine wp_block (wp_mono (ht x d act hag) ?_);rintro e a' w' ⟨env', h', d', hag', rfl, hq⟩;cases e with
 | exit i =>
   simp only [Exit.inBlock];simp only [wE] at hq
   split
   ·rename_i hi; rw [if_pos hi] at hq; exact ⟨env', h', d', hag', rfl, hq⟩
   ·rename_i hi; rw [if_neg hi] at hq; exact ⟨env', h', d', hag', rfl, hq⟩
 | _ => exact ⟨env', h', d', hag', rfl, hq⟩
theorem yP (hq : Q .normal env h) : wE id Q .normal env h := hq
theorem uo (hq : Q .normal env h) : wE id Q (.exit id) env h := by simp only [wE, if_true]; exact hq
theorem JZ (hne : Nat.beq i id = false) (hq : Q (.exit i) env h) : wE id Q (.exit i) env h := by
 have : i ≠ id := by intro e; subst e; simp at hne
 simp only [wE, if_neg this]; exact hq
theorem xp (hq : Q .ret env h) : wE id Q .ret env h := hq
def Wf (Q : yd) : yd
 | .goto _, _, _ => False
 | e, env, h => Q e env h
theorem SL (ht : T P n c env h (Wf Q)) : T P n (.scope c) env h Q := by
 intro x d act hag;refine wp_scope_straight (wp_mono (ht x d act hag) ?_);rintro e a' w' ⟨env', h', d', hag', rfl, hq⟩;cases e with
 | goto l => exact hq.elim
 | _ => exact ⟨env', h', d', hag', rfl, hq⟩
theorem QX (hq : Q .ret env h) : Wf Q .ret env h := hq
theorem ud (hq : Q .normal env h) : T P n .skip env h Q := fun _ d _ hag => wp_skip ⟨env, h, d, hag, rfl, hq⟩
theorem SM {l : Nat} (hq : Q .normal env h) : T P n (.label l) env h Q := fun _ d _ hag => wp_label ⟨env, h, d, hag, rfl, hq⟩
theorem br (hq : Q (.exit id) env h) : T P n (.exit id) env h Q := fun _ d _ hag => wp_exit ⟨env, h, d, hag, rfl, hq⟩
theorem yS (hq : Q .ret env h) : T P n .ret env h Q := fun _ d _ hag => wp_ret ⟨env, h, d, hag, rfl, hq⟩
theorem y9 {c : Operand} (hc : ev env c = some (.bool true)) (ht : T P n a env h Q) : T P n (.cond c a b) env h Q :=
 fun x d act hag => wp_cond_true (hag.eval hc) (ht x d act hag)
theorem xw {c : Operand} (hc : ev env c = some (.bool false)) (ht : T P n b env h Q) : T P n (.cond c a b) env h Q :=
 fun x d act hag => wp_cond_false (hag.eval hc) (ht x d act hag)
theorem DB {c : Operand} {t : Bool} (hc : ev env c = some (.bool t)) (h1 : t = true -> T P n a env h Q) (h2 : t = false -> T P n b env h Q) : T P n (.cond c a b) env h Q := by
 cases t
 ·exact xw hc (h2 rfl)
 ·exact y9 hc (h1 rfl)
theorem gW {Q' : yd} (ht : T P n c env h Q) (hq : ∀ e env h, Q e env h -> Q' e env h) : T P n c env h Q' :=
 fun x d a hag => wp_mono (ht x d a hag) fun _ _ _ ⟨env, h, d, h1, h2, h3⟩ => ⟨env, h, d, h1, h2, hq _ _ _ h3⟩
theorem Z8 (r : Env) (hs : dF r env) (ht : T P n c r h Q) : T P n c env h Q :=
 fun x d a hag => ht x d a (hag.sub hs)
def dY {α : Type} (S : α -> Env) (H : α -> zZ -> Prop) (μ : α -> Nat) (m : Nat) (Q : yd) : yd
 | .normal, env, h => ∃ y, dF (S y) env /\ H y h /\ μ y < m
 | e, env, h => Q e env h
variable {α : Type} {H : α -> zZ -> Prop} {S : α -> Env} {m : Nat} {μ : α -> Nat}
theorem ui (hq : Q (.exit i) env h) : dY S H μ m Q (.exit i) env h := hq
theorem jd (hq : Q .ret env h) : dY S H μ m Q .ret env h := hq
theorem bq (S : α -> Env) (H : α -> zZ -> Prop) (μ : α -> Nat) (y : α) (hs : dF (S y) env) (hH : H y h) (hr : ∀ (y : α) (h : zZ), H y h -> T P n c (S y) h (dY S H μ (μ y) Q)) : T P n (.loop c) env h Q := by
 intro x d a hag b k cs
 have key : ∀ (m : Nat) (y : α) (h : zZ) (d : Nat) (a : Act), μ y = m -> kj n x (S y) a -> H y h ->
   ∃ e a' w', cL n x Q e a' w' /\ Arrives P (lone (b.at a (.code c :: .inLoop c :: k)) cs (W x h d)) b k cs e a' w' := by
  intro m
  induction m using Nat.strongRecOn with
  | _ m ih =>
    intro y h d a hm hag hH;obtain ⟨e, a₁, w₁, hq, harr⟩ := hr y h hH x d a hag b (.inLoop c :: k) cs;obtain ⟨env₁, h₁, d₁, hag₁, rfl, hq⟩ := hq;cases e with
    | normal =>
      obtain ⟨y₁, hs₁, hH₁, hlt⟩ := hq;obtain ⟨e₂, a₂, w₂, hq₂, harr₂⟩ := ih (μ y₁) (hm ▸ hlt) y₁ h₁ d₁ a₁ rfl (hag₁.sub hs₁) hH₁;exact ⟨e₂, a₂, w₂, hq₂, .of_steps (Steps.trans harr (.one step_inLoop)) harr₂⟩
    | exit id => exact ⟨.exit id, a₁, _, ⟨env₁, h₁, d₁, hag₁, rfl, hq⟩, .pass (x := .inLoop c) rfl (fun _ _ => .inl (by simp)) harr⟩
    | goto l => exact ⟨.goto l, a₁, _, ⟨env₁, h₁, d₁, hag₁, rfl, hq⟩, .pass (x := .inLoop c) rfl (fun _ _ => .inl (by simp)) harr⟩
    | ret => exact ⟨.ret, a₁, _, ⟨env₁, h₁, d₁, hag₁, rfl, hq⟩, .pass (x := .inLoop c) rfl (fun _ _ => .inl (by simp)) harr⟩
    | panic ch => exact ⟨.panic ch, a₁, _, ⟨env₁, h₁, d₁, hag₁, rfl, hq⟩, .pass (x := .inLoop c) rfl (fun _ _ => .inl (by simp)) harr⟩
    | outgrown => exact ⟨.outgrown, a₁, _, ⟨env₁, h₁, d₁, hag₁, rfl, hq⟩, .pass (x := .inLoop c) rfl (fun _ _ => .inl (by simp)) harr⟩
 obtain ⟨e, a', w', hq, harr⟩ := key _ y h d a rfl (hag.sub hs) hH;exact ⟨e, a', w', hq, .of_steps (.one step_loop) harr⟩
end
end Go.Eng
namespace Go.Eng
abbrev Mp := Nat -> Option Obj
def mp (h : zZ) : Mp := fun b => h[b]?
def Le (m m' : Mp) : Prop := ∀ b o, m b = some o -> m' b = some o
theorem Le.refl (m : Mp) : Le m m := fun _ _ h => h
theorem Le.trans {a b c : Mp} (h : Le a b) (k : Le b c) : Le a c := fun x o hx => k x o (h x o hx)
def zP (P : Program) (n : Nat) (o : Oper) (env : Env) (v : Value) : Prop :=
 ∀ a w, Ag n env a -> (execOp a.eval o).run P w = .ok (.value v) w
def xM (P : Program) (n : Nat) (o : Oper) (env : Env) (h : zZ) (v : Value) : Prop :=
 ∀ a w, Ag n env a -> Le (mp h) (mp w.heap) -> (execOp a.eval o).run P w = .ok (.value v) w
variable {P : Program} {env : Env} {h : zZ} {n : Nat} {o : Oper}
theorem zP.read {v : Value} (hp : zP P n o env v) : xM P n o env h v := fun a w ha _ => hp a w ha
def qM (P : Program) (n : Nat) (Q : yd) (o : Oper) (env : Env) (h : zZ) (K : Env -> zZ -> Prop) : Prop :=
 ∀ (x : Fx) (d : Nat) (a : Act), kj n x env a ->
  o.wp P a (W x h d) (fun a' w' => ∃ env' h' d', kj n x env' a' /\ w' = W x h' d' /\ K env' h') (cL n x Q)
theorem qM.mono {Q : yd} {K K' : Env -> zZ -> Prop} (hs : qM P n Q o env h K) (hk : ∀ e h, K e h -> K' e h) : qM P n Q o env h K' :=
 fun x d a ha => Oper.wp_mono (fun _ _ ⟨e, h, d, h1, h2, h3⟩ => ⟨e, h, d, h1, h2, hk _ _ h3⟩) (hs x d a ha)
def nth : List Oper -> Nat -> Option Oper
 | [], _ => none
 | o :: _, 0 => some o
 | _ :: r, i + 1 => nth r i
theorem qr (l : List Oper) (i : Nat) : l.toArray[i]? = nth l i := by
 induction l generalizing i with
 | nil => simp [nth]
 | cons o r ih =>
   cases i with
   | zero => simp [nth]
   | succ i => have := ih i; simp only [List.getElem?_toArray] at this ⊢; simpa [nth] using this
def QP (l : List Oper) (j : Nat) : Option Nat := (nth l j).bind (·.dst)
def wanted (l : List Oper) (env : Env) (o : Oper) : Option Bool :=
 match o.guard with
 | none => some true
 | some (j, want) =>
   match QP l j with
   | none => none
   | some t => match lk env t with
     | some (.bool b) => some (b == want)
     | some (.tuple _) => some false
     | _ => none
theorem yM {l : List Oper} {a : Act} {b : Bool} (ha : Ag n env a) (h : wanted l env o = some b) :
  Region.wanted o (yielded l.toArray a.tmps) = b := by
 unfold wanted at h;unfold Region.wanted
 split at h
 ·rename_i hg; rw [hg]; simpa using h
 ·rename_i j want hg
  rw [hg];simp only
  split at h
  ·cases h
  ·rename_i t ht
   split at h
   ·rename_i b' hb
    have h1 := ha.at_ t _ hb
    have h2 : yielded l.toArray a.tmps j = some b' := by
     unfold yielded;rw [qr];unfold QP at ht;rw [ht]
     simp [h1]
    rw [h2];simp only [Option.some.injEq] at h;subst h
    rfl
   ·rename_i vs hb
    have h1 := ha.at_ t _ hb
    have h2 : yielded l.toArray a.tmps j = none := by
     unfold yielded;rw [qr];unfold QP at ht;rw [ht]
     simp [h1]
    rw [h2];simp only [Option.some.injEq] at h;subst h
    rfl
   ·cases h
def V (P : Program) (n : Nat) (l0 : List Oper) (l : List Oper) (env : Env) (h : zZ) (Q : yd) : Prop :=
 ∀ (x : Fx) (d : Nat) (a : Act), kj n x env a -> wpList P l0.toArray (cL n x Q) l a (W x h d)
section
variable {P : Program} {n : Nat} {env : Env} {h : zZ} {Q : yd} {l0 l : List Oper} {o : Oper} {v : Value} {d : Nat}
theorem zd {id : Nat} (hv : V P n l0 l0 env h Q) : T P n (.region id l0.toArray false) env h Q :=
 fun x d a hag => wp_region_lit (hv x d a hag)
theorem zo (hq : Q .normal env h) : V P n l0 [] env h Q := fun _ d _ hag => wpList_nil ⟨env, h, d, hag, rfl, hq⟩
theorem zH (hs : qM P n Q o env h fun env' h' => V P n l0 l env' h' Q) (hw : wanted l0 env o = some true) : V P n l0 (o :: l) env h Q := by
 intro x d a hag;unfold wpList;rw [if_pos (yM hag.toAg hw)];refine .inl (Oper.wp_mono ?_ (hs x d a hag));rintro a' w' ⟨env', h', d', hag', rfl, hv⟩;exact hv x d' a' hag'
theorem xM.step {K : Env -> zZ -> Prop} (hr : xM P n o env h v) (hd : o.dst = some d) (hn : Nat.blt d n = true) (hk : K ((d, v) :: env) h) : qM P n Q o env h K := by
 intro x dr a hag;unfold Oper.wp;rw [hr a (W x h dr) hag (Le.refl _), Oper.upon_value, hd];exact ⟨_, h, dr, hag.put d v (by simpa [Nat.blt_eq] using hn), rfl, hk⟩
theorem zq (hr : xM P n o env h v) (hd : o.dst = some d) (hn : Nat.blt d n = true) (hw : wanted l0 env o = some true) (hk : V P n l0 l ((d, v) :: env) h Q) : V P n l0 (o :: l) env h Q :=
 zH (hr.step hd hn hk) hw
theorem zc (hr : zP P n o env v) (hd : o.dst = some d) (hn : Nat.blt d n = true) (hw : wanted l0 env o = some true) (hk : V P n l0 l ((d, v) :: env) h Q) : V P n l0 (o :: l) env h Q :=
 zq hr.read hd hn hw hk
theorem kO (hw : wanted l0 env o = some false) (hd : o.dst = some d) (hn : Nat.blt d n = true) (hk : V P n l0 l ((d, undef) :: env) h Q) : V P n l0 (o :: l) env h Q := by
 intro x dr a hag;unfold wpList;rw [if_neg (by rw [yM hag.toAg hw]; simp), hd];exact hk x dr _ (hag.put d undef (by simpa [Nat.blt_eq] using hn))
end
def Yl (P : Program) (ops : Array Oper) (pure : Bool) (o : Oper) (v : Value) (a : Act) (w : World) : Prop :=
 (Region.wanted o (yielded ops a.tmps) = true /\ ∀ w', (pure = true \/ Le (mp w.heap) (mp w'.heap)) -> (execOp a.eval o).run P w' = .ok (.value v) w') \/
 (Region.wanted o (yielded ops a.tmps) = false /\ v = undef)
def opE (P : Program) (ops : Array Oper) (wild : Nat -> Bool) (Q : Exit -> Act -> World -> Prop) (i : Nat) (K : Act -> World -> Prop) (a : Act) (w : World) : Prop :=
 match ops[i]? with
 | none => K a w
 | some o => if Region.wanted o (yielded ops a.tmps) then o.wp P a w (fun a' w' => (wild i = true \/ Le (mp w.heap) (mp w'.heap)) /\ K a' w') Q else K (a.put o.dst undef) w
def W5 (P : Program) (ops : Array Oper) (wild : Nat -> Bool) (Q : Exit -> Act -> World -> Prop) : Nat -> Array Bool -> Act -> World -> Prop
 | 0, listed, a, w => Region.ready .any ops listed = [] /\ Q .normal a w
 | fuel + 1, listed, a, w =>
   (Region.ready .any ops listed = [] -> Q .normal a w) /\
   ∀ i ∈ Region.ready .any ops listed, opE P ops wild Q i (W5 P ops wild Q fuel (listed.setIfInBounds i true)) a w
section
variable {P : Program} {ops : Array Oper} {wild : Nat -> Bool} {Q : Exit -> Act -> World -> Prop}
variable {K K' : Act -> World -> Prop} {a : Act} {i : Nat} {w : World}
theorem Zg (h : ∀ a w, K a w -> K' a w) (hh : opE P ops wild Q i K a w) : opE P ops wild Q i K' a w := by
 unfold opE at *
 split
 ·rename_i ho; simp only [ho] at hh; exact h _ _ hh
 ·rename_i o ho
  simp only [ho] at hh
  split
  ·rename_i hw; simp only [hw, if_true] at hh; exact Oper.wp_mono (fun _ _ k => ⟨k.1, h _ _ k.2⟩) hh
  ·rename_i hw; simp only [hw] at hh; exact h _ _ hh
theorem Vz (h : ∀ a w, K a w -> K' a w) (hh : opE P ops wild Q i K a w) : wpOp P ops Q i K' a w := by
 unfold opE at hh;unfold wpOp
 split
 ·rename_i ho; simp only [ho] at hh; exact h _ _ hh
 ·rename_i o ho
  simp only [ho] at hh
  split
  ·rename_i hw; simp only [hw, if_true] at hh; exact .inl (Oper.wp_mono (fun _ _ k => h _ _ k.2) hh)
  ·rename_i hw; simp only [hw] at hh; exact h _ _ hh
theorem jK : ∀ (fuel : Nat) (listed : Array Bool) (a : Act) (w : World), W5 P ops wild Q fuel listed a w -> wpAny P .any ops Q fuel listed a w
 | 0, _, _, _, h => h
 | fuel + 1, _, _, _, h => ⟨h.1, fun i hi => Vz (fun a w => jK fuel _ a w) (h.2 i hi)⟩
variable {o : Oper} {p : Bool} {v : Value}
theorem Yl.opE (hi : ops[i]? = some o) (hy : Yl P ops p o v a w) (h : K (a.put o.dst v) w) : opE P ops wild Q i K a w := by
 unfold Eng.opE;simp only [hi];rcases hy with ⟨hw, hv⟩ | ⟨hw, rfl⟩
 ·simp only [hw, if_true, Oper.wp, hv w (.inr (Le.refl _)), Oper.upon]; exact ⟨.inr (Le.refl _), h⟩
 ·simp only [hw, Bool.false_eq_true, if_false]; exact h
theorem Yl.of_same {a' : Act} {w' : World} (hy : Yl P ops p o v a w) (he : execOp a'.eval o = execOp a.eval o) (hw : Region.wanted o (yielded ops a'.tmps) = Region.wanted o (yielded ops a.tmps)) (hl : p = true \/ Le (mp w.heap) (mp w'.heap)) : Yl P ops p o v a' w' := by
 unfold Yl at *;rw [he, hw];rcases hy with ⟨h1, h2⟩ | h
 ·refine .inl ⟨h1, fun w'' h3 => h2 w'' ?_⟩;rcases hl with hl | hl
  ·exact .inl hl
  ·rcases h3 with h3 | h3
   ·exact .inl h3
   ·exact .inr (hl.trans h3)
 ·exact .inr h
variable {oi : Oper}
theorem PS {j : Nat} {oj : Oper} (hj : ops[j]? = some oj) (hap : oi.apart ops oj = true) (hsi : ∀ cs b, oi.op ≠ .select cs b) (hsj : ∀ cs b, oj.op ≠ .select cs b) (hwl : p = true \/ wild j = false) (hQ : ∀ c a w, Q (.panic c) (a.put oi.dst v) w -> Q (.panic c) a w) (hy : Yl P ops p oi v a w) (h : opE P ops wild Q j K (a.put oi.dst v) w) :
  opE P ops wild Q j (fun a' w' => Yl P ops p oi v a' w' /\ K (a'.put oi.dst v) w') a w := by
 obtain ⟨h1, h2, h3⟩ := Oper.apart_spec hap
 have keep : ∀ (a : Act) (w w' : World), (p = true \/ Le (mp w.heap) (mp w'.heap)) -> Yl P ops p oi v a w -> ∀ u, Yl P ops p oi v (a.put oj.dst u) w' := fun a w w' hl hy u =>
  hy.of_same (execOp_put oi hsi a oj.dst u h3) (wanted_put oi a oj.dst u h3) hl
 have keepD : ∀ d, Yl P ops p oi v { a with defers := d :: a.defers } w := fun d => hy.of_same rfl rfl (.inr (Le.refl _))
 have lets : ∀ w' : World, (wild j = true \/ Le (mp w.heap) (mp w'.heap)) -> (p = true \/ Le (mp w.heap) (mp w'.heap)) := fun w' hh => by
  rcases hwl with hp | hp
  ·exact .inl hp
  ·rcases hh with hh | hh
   ·rw [hp] at hh; cases hh
   ·exact .inr hh
 unfold opE at *;simp only [hj] at *;rw [wanted_put oj a oi.dst v h1] at h
 split
 ·rename_i hw
  simp only [hw, if_true] at h;unfold Oper.wp at *;rw [execOp_put oj hsj a oi.dst v h1] at h;generalize (execOp a.eval oj).run P w = r at *;cases r with
  | ok n w' =>
    cases n <;> simp only [Oper.upon] at h ⊢
    case value u => exact ⟨h.1, keep a w w' (lets _ h.1) hy u, by rw [<- Act.put_comm a v u h2]; exact h.2⟩
    case skip => exact ⟨h.1, keep a w w' (lets _ h.1) hy _, by rw [<- Act.put_comm a v undef h2]; exact h.2⟩
    case defer d =>
     refine ⟨h.1, keep _ w w' (lets _ h.1) (keepD d) _, ?_⟩;have := h.2;rw [<- Act.put_comm _ v undef h2, <- Act.put_defers];exact this
    case enter f args =>
     refine Calls.mono h fun e w'' he => ?_;cases e with
     | returned u => exact ⟨he.1, keep a w w'' (lets _ he.1) hy u, by rw [<- Act.put_comm a v u h2]; exact he.2⟩
     | panicked c => exact hQ _ _ _ he
     | outgrown => exact he
    case row row args => exact Rows.mono h fun u w'' he => ⟨he.1, keep a w w'' (lets _ he.1) hy u, by rw [<- Act.put_comm a v u h2]; exact he.2⟩
  | halt x w' =>
    cases x <;> simp only [Oper.upon] at h ⊢
    case panic u => exact hQ _ _ _ h
 ·rename_i hw
  simp only [hw] at h;exact ⟨keep a w w (.inr (Le.refl _)) hy _, by rw [<- Act.put_comm a v undef h2]; exact h⟩
def kw (i : Nat) : List Oper -> Nat -> List Nat -> List Nat
 | [], _, acc => acc
 | o :: r, k, acc => kw i r (k + 1) (if o.after.any (fun e => Region.binds .any e && (e.on == i || acc.contains e.on)) then k :: acc else acc)
theorem bI (i : Nat) : ∀ (l : List Oper) (k : Nat) (acc : List Nat), ∀ x ∈ acc, x ∈ kw i l k acc
 | [], _, _, _, h => h
 | o :: r, k, acc, x, h => by
   unfold kw;refine bI i r (k + 1) _ x ?_
   split
   ·exact List.mem_cons_of_mem _ h
   ·exact h
theorem co (i : Nat) : ∀ (l : List Oper) (k : Nat) (acc : List Nat), ∀ x ∈ kw i l k acc, x ∈ acc \/
  ∃ o, k <= x /\ l[x - k]? = some o /\ ∃ e ∈ o.after, Region.binds .any e = true /\ (e.on = i \/ e.on ∈ kw i l k acc)
 | [], _, _, _, h => .inl h
 | o :: r, k, acc, x, h => by
   unfold kw at h;have ih := co i r (k + 1) _ x h;rcases ih with ih | ⟨o', h1, h2, e, he, hb, h3⟩
   ·split at ih
    ·rename_i hany
     rcases List.mem_cons.1 ih with rfl | ih
     ·refine .inr ⟨o, Nat.le_refl _, by simp, ?_⟩;rw [Array.any_eq_true'] at hany;obtain ⟨e, he, h4⟩ := hany;simp only [Bool.and_eq_true, Bool.or_eq_true, beq_iff_eq, List.contains_iff_mem] at h4;refine ⟨e, he, h4.1, h4.2.imp id fun h5 => ?_⟩;exact bI i (o :: r) x acc _ h5
     ·exact .inl ih
    ·exact .inl ih
   ·refine .inr ⟨o', by omega, ?_, e, he, hb, h3⟩;have : x - k = (x - (k + 1)) + 1 := by omega
    rw [this, List.getElem?_cons_succ];exact h2
def vG (l : List Oper) (i : Nat) : List Nat := kw i l 0 []
variable {l : List Oper}
theorem d8 {x : Nat} (h : x ∈ vG l i) : ∃ o, l.toArray[x]? = some o /\ ∃ e ∈ o.after, Region.binds .any e = true /\ (e.on = i \/ e.on ∈ vG l i) := by
 rcases co i l 0 [] x h with h | ⟨o, _, h2, h3⟩
 ·cases h
 ·exact ⟨o, by rw [List.getElem?_toArray]; simpa using h2, h3⟩
theorem Z3 (hops : ops = l.toArray) (hi : ops[i]? = some oi) (hsel : ∀ (j : Nat) (o : Oper) cs b, ops[j]? = some o -> o.op ≠ .select cs b) (hQ : ∀ c a w, Q (.panic c) (a.put oi.dst v) w -> Q (.panic c) a w) :
  ∀ (fuel : Nat) (listed : Array Bool) (a : Act) (w : World),
   (∀ j oj, ops[j]? = some oj -> j ≠ i -> listed.getD j true = false -> j ∉ vG l i -> oi.apart ops oj = true /\ (p = true \/ wild j = false)) ->
   (∀ k, listed.getD k false = true -> k ∉ vG l i) ->
   i ∈ Region.ready .any ops listed -> Yl P ops p oi v a w ->
   W5 P ops wild Q fuel (listed.setIfInBounds i true) (a.put oi.dst v) w -> W5 P ops wild Q (fuel + 1) listed a w := by
 intro fuel
 induction fuel with
 | zero =>
   intro listed a w _ _ hr hy H;refine ⟨fun h => (by rw [h] at hr; cases hr), fun j hj => ?_⟩;by_cases hji : j = i
   ·subst hji; exact hy.opE hi H
   ·have := ready_mono hj hji;rw [H.1] at this;cases this
 | succ fuel ih =>
   intro listed a w hfree hinv hr hy H;refine ⟨fun h => (by rw [h] at hr; cases hr), fun j hj => ?_⟩;by_cases hji : j = i
   ·subst hji; exact hy.opE hi H
   ·have h1 := H.2 j (ready_mono hj hji);obtain ⟨hjun, oj, hoj, hall⟩ := mem_ready.1 hj
    have hnot : j ∉ vG l i := fun hmem => by
     obtain ⟨o, ho, e, he, hb, h3⟩ := d8 hmem;rw [<- hops, hoj] at ho
     injection ho with ho
     subst ho;have h1 := hall e he hb;rcases h3 with heq | h3
     ·have h0 := (mem_ready.1 hr).1;rw [heq] at h1;rcases Nat.lt_or_ge i listed.size with h' | h'
      ·simp [h'] at h0 h1; rw [h0] at h1; cases h1
      ·simp [Array.getElem?_eq_none h'] at h1
     ·exact hinv _ h1 h3
    obtain ⟨hf1, hf2⟩ := hfree j oj hoj hji hjun hnot;have h2 := PS hoj hf1 (fun cs b => hsel i oi cs b hi) (fun cs b => hsel j oj cs b hoj) hf2 hQ hy h1
    have hfree' : ∀ k ok, ops[k]? = some ok -> k ≠ i -> (listed.setIfInBounds j true).getD k true = false ->
      k ∉ vG l i -> oi.apart ops ok = true /\ (p = true \/ wild k = false) := fun k ok hk hki hun hno => by
     refine hfree k ok hk hki ?_ hno;by_cases hjk : j = k
     ·subst hjk; exact hjun
     ·rw [getD_set_ne true hjk] at hun; exact hun
    have hinv' : ∀ k, (listed.setIfInBounds j true).getD k false = true -> k ∉ vG l i := fun k hk => by
     by_cases hjk : j = k
     ·subst hjk; exact hnot
     ·rw [getD_set_ne false hjk] at hk; exact hinv k hk
    refine Zg (fun a' w' h3 => ih (listed.setIfInBounds j true) a' w' hfree' hinv' (ready_mono hr (Ne.symm hji)) h3.1 ?_) h2;rw [Array.setIfInBounds_comm _ _ hji];exact h3.2
end
inductive Kd where
 | pure | read | kept | wild
def Kd.quiet : Kd -> Bool
 | .pure => true
 | .read => true
 | _ => false
def Kd.isPure : Kd -> Bool
 | .pure => true
 | _ => false
def Kd.isWild : Kd -> Bool
 | .wild => true
 | _ => false
def X7 : List (Nat × Kd) -> Nat -> Bool
 | [], _ => false
 | (i, k) :: r, j => (Nat.beq i j && k.isWild) || X7 r j
def RB (l : List Oper) (wild : Nat -> Bool) (listed : Array Bool) (i : Nat) (oi : Oper) (p : Bool) : Bool :=
 (fun rs => (List.range l.length).all fun j => j == i || rs.contains j || listed.getD j true || match nth l j with
  | none => true
  | some oj => oi.apart l.toArray oj && (p || !wild j)) (vG l i) &&
 (vG l i).all fun k => !listed.getD k false
def Qd (l : List Oper) (wild : Nat -> Bool) : List (Nat × Kd) -> Array Bool -> Bool
 | [], listed => (Region.ready .any l.toArray listed).isEmpty
 | (i, k) :: r, listed =>
   (match nth l i with
    | none => false
    | some o => if k.quiet then (Region.ready .any l.toArray listed).contains i && RB l wild listed i o k.isPure else Region.ready .any l.toArray listed == [i]) &&
   Qd l wild r (listed.setIfInBounds i true)
def bK (l : List Oper) : Bool := l.all fun o => match o.op with
 | .select .. => false
 | _ => true
def check (l : List Oper) (L : List (Nat × Kd)) : Bool :=
 bK l && (L.length == l.length) && Qd l (X7 L) L (Array.replicate l.length false)
def VR (P : Program) (l : List Oper) (wild : Nat -> Bool) (Q : Exit -> Act -> World -> Prop) : List (Nat × Kd) -> Act -> World -> Prop
 | [], a, w => Q .normal a w
 | (i, k) :: r, a, w =>
   if k.quiet then ∃ o v, nth l i = some o /\ Yl P l.toArray k.isPure o v a w /\ VR P l wild Q r (a.put o.dst v) w
   else opE P l.toArray wild Q i (VR P l wild Q r) a w
variable {l : List Oper}
theorem eH (h : bK l = true) : ∀ (j : Nat) (o : Oper) cs b, l.toArray[j]? = some o -> o.op ≠ .select cs b := by
 intro j o cs b hj he;unfold bK at h;rw [List.all_eq_true] at h
 have hm : o ∈ l := by
  rw [List.getElem?_toArray] at hj;exact List.mem_of_getElem? hj
 have := h o hm;rw [he] at this;cases this
theorem W4 {P : Program} {wild : Nat -> Bool} {Q : Exit -> Act -> World -> Prop} (hsel : bK l = true) (hQ : ∀ c a a' w, a'.tmps.size = a.tmps.size -> a'.defers = a.defers -> Q (.panic c) a' w -> Q (.panic c) a w) :
  ∀ (L : List (Nat × Kd)) (listed : Array Bool) (a : Act) (w : World), Qd l wild L listed = true -> VR P l wild Q L a w -> W5 P l.toArray wild Q L.length listed a w := by
 intro L
 induction L with
 | nil =>
   intro listed a w hc hs;unfold Qd at hc;exact ⟨by simpa using hc, hs⟩
 | cons x r ih =>
   obtain ⟨i, k⟩ := x;intro listed a w hc hs;unfold Qd at hc;rw [Bool.and_eq_true] at hc;obtain ⟨hc, hc'⟩ := hc;unfold VR at hs;cases hk : k.quiet with
   | true =>
     rw [if_pos hk] at hs;obtain ⟨o, v, ho, hy, hs⟩ := hs;rw [ho] at hc;simp only [hk, if_true, Bool.and_eq_true] at hc;obtain ⟨hr, hf⟩ := hc;have hi : l.toArray[i]? = some o := by rw [qr]; exact ho
     unfold RB at hf;rw [Bool.and_eq_true] at hf;obtain ⟨hf, hf2⟩ := hf;refine Z3 rfl hi (eH hsel) (fun c a w h => hQ c a _ w ?_ ?_ h) r.length listed a w ?_ ?_ (by simpa using hr) hy (ih _ _ _ hc' hs)
     ·cases o.dst <;> simp [Act.put]
     ·cases o.dst <;> simp [Act.put]
     ·intro j oj hj hji hun hno;rw [List.all_eq_true] at hf
      have hlt : j < l.length := by
       have := (Array.getElem?_eq_some_iff.1 hj).1
       simpa using this
      have := hf j (List.mem_range.2 hlt);rw [qr] at hj;rw [hj] at this
      have hno' : (vG l i).contains j = false := by
       cases hcn : (vG l i).contains j with
       | false => rfl
       | true => exact absurd (List.contains_iff_mem.1 hcn) hno
      simp only [hun, hno', beq_eq_false_iff_ne.2 hji, Bool.false_or, Bool.and_eq_true] at this;exact ⟨this.1, by cases hw : wild j <;> simp [hw] at this ⊢ <;> simp [this]⟩
     ·intro k hk hmem;rw [List.all_eq_true] at hf2;have := hf2 k hmem;rw [hk] at this;cases this
   | false =>
     rw [if_neg (by rw [hk]; simp)] at hs
     have hrd : Region.ready .any l.toArray listed = [i] := by
      split at hc
      ·cases hc
      ·simp only [hk, Bool.false_eq_true, if_false] at hc
       simpa using hc
     refine ⟨(fun h => by rw [hrd] at h; cases h), fun j hj => ?_⟩;rw [hrd] at hj;have : j = i := by simpa using hj
     subst this;exact Zg (fun a w hs => ih _ a w hc' hs) hs
def VD (P : Program) (n : Nat) (l : List Oper) (wild : Nat -> Bool) (L : List (Nat × Kd)) (env : Env) (h : zZ) (Q : yd) : Prop :=
 ∀ (x : Fx) (d : Nat) (a : Act), kj n x env a -> VR P l wild (cL n x Q) L a (W x h d)
section
variable {P : Program} {n : Nat} {env : Env} {h : zZ} {Q : yd} {l : List Oper} {wild : Nat -> Bool} {L : List (Nat × Kd)} {o : Oper} {v : Value} {d i : Nat}
theorem Kb {id : Nat} (L : List (Nat × Kd)) (hm : P.follows .mixedOrders = true) (hck : check l L = true) (hQ : ∀ c env env' h, Q (.panic c) env h -> Q (.panic c) env' h)
  (hv : VD P n l (X7 L) L env h Q) : T P n (.region id l.toArray true) env h Q := by
 intro x d a hag;unfold check at hck;simp only [Bool.and_eq_true, beq_iff_eq] at hck;obtain ⟨⟨h1, h2⟩, h3⟩ := hck;have hs := hv x (d + 1) a hag
 have := W4 h1 (Q := cL n x Q) (by
  rintro c a a' w hsz hdf ⟨env, h, d, hag, rfl, hq⟩
  refine ⟨[], h, d, ⟨⟨by rw [<- hsz]; exact hag.size, fun t v ht => by simp [lk] at ht⟩, by rw [<- hdf]; exact hag.defers⟩, rfl, hQ _ _ _ _ hq⟩) L _ a _ h3 hs
 rw [h2] at this;refine wp_region_any hm (jK (wild := X7 L) _ _ _ _ ?_);rw [List.size_toArray];exact this
theorem Ka (hq : Q .normal env h) : VD P n l wild [] env h Q := fun _ d _ hag => ⟨env, h, d, hag, rfl, hq⟩
theorem vU (ho : nth l i = some o) (hr : zP P n o env v) (hd : o.dst = some d) (hn : Nat.blt d n = true) (hw : wanted l env o = some true) (hk : VD P n l wild L ((d, v) :: env) h Q) :
  VD P n l wild ((i, .pure) :: L) env h Q := by
 intro x dr a hag;unfold VR;rw [if_pos (show Kd.quiet _ = true from rfl)];refine ⟨o, v, ho, .inl ⟨yM hag.toAg hw, fun w' _ => hr a w' hag⟩, ?_⟩;rw [hd];exact hk x dr _ (hag.put d v (by simpa [Nat.blt_eq] using hn))
theorem dE (ho : nth l i = some o) (hr : xM P n o env h v) (hd : o.dst = some d) (hn : Nat.blt d n = true) (hw : wanted l env o = some true) (hk : VD P n l wild L ((d, v) :: env) h Q) :
  VD P n l wild ((i, .read) :: L) env h Q := by
 intro x dr a hag;unfold VR;rw [if_pos (show Kd.quiet _ = true from rfl)];refine ⟨o, v, ho, .inl ⟨yM hag.toAg hw, fun w' hw' => hr a w' hag ?_⟩, ?_⟩
 ·rcases hw' with h0 | h0
  ·cases h0
  ·exact h0
 ·rw [hd];exact hk x dr _ (hag.put d v (by simpa [Nat.blt_eq] using hn))
theorem jF (ho : nth l i = some o) (hs : qM P n Q o env h fun env' h' => Le (mp h) (mp h') /\ VD P n l wild L env' h' Q) (hw : wanted l env o = some true) :
  VD P n l wild ((i, .kept) :: L) env h Q := by
 intro x dr a hag;unfold VR;rw [if_neg (by simp [Kd.quiet])];unfold opE;rw [qr, ho];simp only;rw [if_pos (yM hag.toAg hw)];refine Oper.wp_mono ?_ (hs x dr a hag);rintro a' w' ⟨env', h', d', hag', rfl, hle, hv⟩;exact ⟨.inr hle, hv x d' a' hag'⟩
end
end Go.Eng
namespace Go.Eng
def qZ : Lv -> Nat -> Option Value
 | [], _ => none
 | v :: _, 0 => some v
 | _ :: r, i + 1 => qZ r i
theorem vS (l : Lv) (i : Nat) : l[i]? = qZ l i := by
 induction l generalizing i with
 | nil => simp [qZ]
 | cons o r ih => cases i <;> simp [qZ, ih]
def evs (env : Env) : List Operand -> Option Lv
 | [] => some []
 | x :: r => match ev env x with
   | none => none
   | some v => match evs env r with
     | none => none
     | some vs => some (v :: vs)
variable {a : Act} {env : Env} {n : Nat}
theorem qv (ha : Ag n env a) : ∀ {l : List Operand} {vs : Lv}, evs env l = some vs -> l.toArray.map a.eval = vs.toArray
 | [], vs, h => by simp [evs] at h; simp [<- h]
 | x :: r, vs, h => by
   unfold evs at h
   split at h
   ·cases h
   ·rename_i v hv
    split at h
    ·cases h
    ·rename_i ws hws
     have ih := qv ha hws
     injection h with h
     subst h;have h1 := ha.eval hv;simp only [List.map_toArray] at ih ⊢;rw [List.map_cons, h1]
     simpa using ih
def evp (env : Env) : List (Nat × Operand) -> Option (List (Nat × Value))
 | [] => some []
 | (i, x) :: r => match ev env x with
   | none => none
   | some v => match evp env r with
     | none => none
     | some vs => some ((i, v) :: vs)
theorem ZH (ha : Ag n env a) : ∀ {l : List (Nat × Operand)} {vs : List (Nat × Value)}, evp env l = some vs -> l.toArray.map (fun (i, x) => (i, a.eval x)) = vs.toArray
 | [], vs, h => by simp [evp] at h; simp [<- h]
 | (i, x) :: r, vs, h => by
   unfold evp at h
   split at h
   ·cases h
   ·rename_i v hv
    split at h
    ·cases h
    ·rename_i ws hws
     have ih := ZH ha hws
     injection h with h
     subst h;have h1 := ha.eval hv;simp only [List.map_toArray] at ih ⊢;rw [List.map_cons];simp only [h1]
     simpa using ih
def de (P : Program) (t : TypeId) : Option Nat := match P.underlying t with
 | some (.slice e) => (P.info? e).map (·.size)
 | _ => none
def single (P : Program) (t : TypeId) : Bool := match P.underlying t with
 | some (.struct _) => false
 | some (.array _ _) => false
 | some _ => true
 | none => false
def foff (P : Program) (s f : Nat) : Option Nat := match P.underlying s with
 | some (.struct fs) => match fs[f]? with
   | some g => match P.info? g.type with
     | some i => if i.size = 0 then none else some g.offset
     | none => none
   | none => none
 | _ => none
def xu (P : Program) (t : TypeId) : Bool := match P.underlying t with
 | some (.slice _) => true
 | _ => false
def xz (P : Program) (t : TypeId) : Bool := match P.underlying t with
 | some .string => true
 | _ => false
def cT (P : Program) (t : TypeId) : Bool := match P.underlying t with
 | some (.pointer _) => true
 | _ => false
def XN (P : Program) (t : TypeId) : Bool := match P.underlying t with
 | some (.map _ _) => true
 | _ => false
def yQ (P : Program) (t : TypeId) : Bool := match P.underlying t with
 | some (.interface _) => true
 | _ => false
def qu (P : Program) (t : TypeId) (k : IntKind) : Bool := match P.underlying t with
 | some (.int j) => decide (j = k)
 | _ => false
def u7 (P : Program) (t : TypeId) : Bool := match P.underlying t with
 | some .bool => true
 | _ => false
def bs (l : Bt) : ByteArray := ⟨l.toArray⟩
theorem u9 (l : Bt) : (bs l).size = l.length := by simp [bs, ByteArray.size]
theorem XW (l : Bt) : (bs l).toList = l := ByteArray.toList_mk l
theorem vK (s : ByteArray) : bs s.data.toList = s := by simp [bs]
def uE (b : UInt8) : Value := .int .u8 b.toNat
theorem qx {n : Int} (h1 : -9223372036854775808 <= n) (h2 : n <= 9223372036854775807) : IntKind.i64.wrap n = n := IntWalk.i64_in n ⟨h1, h2⟩
theorem QJ {n : Int} (h1 : 0 <= n) (h2 : n <= 18446744073709551615) : IntKind.u64.wrap n = n := IntWalk.u64_in n ⟨h1, h2⟩
section
variable {P : Program} {n : Nat} {env : Env} {h : zZ} {dst : Option Tmp} {ty : TypeId} {pos : String} {aft : Array Edge} {gd : Option (Nat × Bool)}
variable {v : Value}
theorem zF {x : Operand} (hx : ev env x = some v) : zP P n ⟨dst, .move x, ty, pos, aft, gd⟩ env v := by
 intro a w ha; simp [execOp, ha.eval hx]
theorem zi {x : Operand} (hx : ev env x = some v) : zP P n ⟨dst, .assign x, ty, pos, aft, gd⟩ env v := by
 intro a w ha; simp [execOp, ha.eval hx]
theorem yT {c x y : Operand} (hc : ev env c = some (.bool true)) (hx : ev env x = some v) : zP P n ⟨dst, .pick c x y, ty, pos, aft, gd⟩ env v := by
 intro a w ha; simp [execOp, ha.eval hx, ha.eval hc, asBool]
theorem vx {c x y : Operand} (hc : ev env c = some (.bool false)) (hy : ev env y = some v) : zP P n ⟨dst, .pick c x y, ty, pos, aft, gd⟩ env v := by
 intro a w ha; simp [execOp, ha.eval hy, ha.eval hc, asBool]
theorem eQ {x : Operand} {b : Addr} (hx : ev env x = some (.pointer (some b))) : zP P n ⟨dst, .nilCheck x, ty, pos, aft, gd⟩ env (.pointer (some b)) := by
 intro a w ha; simp [execOp, ha.eval hx]
theorem YA {x : Operand} {f : FuncId} {p q : Array Value} (hx : ev env x = some (.func (.func f) p q)) : zP P n ⟨dst, .nilCheck x, ty, pos, aft, gd⟩ env (.func (.func f) p q) := by
 intro a w ha; simp [execOp, ha.eval hx]
theorem Yz {x : Operand} {t : TypeId} {u : Value} (hx : ev env x = some (.iface t u)) : zP P n ⟨dst, .nilCheck x, ty, pos, aft, gd⟩ env (.iface t u) := by
 intro a w ha; simp [execOp, ha.eval hx]
-- numbers
variable {t yt : TypeId} {x y : Operand} {k : IntKind} {a b r : Int}
theorem yp (hx : ev env x = some (.int k a)) (hy : ev env y = some (.int k b)) (hr : k.wrap (a + b) = r) : zP P n ⟨dst, .binOp .add t x y yt, ty, pos, aft, gd⟩ env (.int k r) := by
 intro a w ha; simp [execOp, ha.eval hx, ha.eval hy, eqGuard_add, binOp, Op.intArith, hr]
theorem ke (hx : ev env x = some (.int k a)) (hy : ev env y = some (.int k b)) (hr : k.wrap (a - b) = r) : zP P n ⟨dst, .binOp .sub t x y yt, ty, pos, aft, gd⟩ env (.int k r) := by
 intro a w ha; simp [execOp, ha.eval hx, ha.eval hy, eqGuard_sub, binOp, Op.intArith, hr]
theorem vQ (hx : ev env x = some (.int k a)) (hy : ev env y = some (.int k b)) (hr : k.wrap (a * b) = r) : zP P n ⟨dst, .binOp .mul t x y yt, ty, pos, aft, gd⟩ env (.int k r) := by
 intro a w ha; simp [execOp, ha.eval hx, ha.eval hy, eqGuard_mul, binOp, Op.intArith, hr]
theorem GO (hx : ev env x = some (.int k a)) (hy : ev env y = some (.int k b)) (hb : b ≠ 0) (hr : a.tmod b = r) : zP P n ⟨dst, .binOp .rem t x y yt, ty, pos, aft, gd⟩ env (.int k r) := by
 intro a w ha; simp [execOp, ha.eval hx, ha.eval hy, eqGuard_rem, binOp, Op.intDiv, hb, hr]
theorem kf (hx : ev env x = some (.int k a)) (hy : ev env y = some (.int k b)) (hr : bits .and k a b = r) : zP P n ⟨dst, .binOp .and t x y yt, ty, pos, aft, gd⟩ env (.int k r) := by
 intro a w ha; simp [execOp, ha.eval hx, ha.eval hy, eqGuard_and, binOp_and, intBits_and, hr]
theorem Kf (hx : ev env x = some (.int k a)) (hy : ev env y = some (.int k b)) (hr : bits .or k a b = r) : zP P n ⟨dst, .binOp .or t x y yt, ty, pos, aft, gd⟩ env (.int k r) := by
 intro a w ha; simp [execOp, ha.eval hx, ha.eval hy, eqGuard_or, binOp_or, intBits_or, hr]
theorem GN (hx : ev env x = some (.int k a)) (hy : ev env y = some (.int k b)) (hr : bits .xor k a b = r) : zP P n ⟨dst, .binOp .xor t x y yt, ty, pos, aft, gd⟩ env (.int k r) := by
 intro a w ha; simp [execOp, ha.eval hx, ha.eval hy, eqGuard_xor, binOp_xor, intBits_xor, hr]
variable {yk : IntKind}
theorem uF (hx : ev env x = some (.int k a)) (hy : ev env y = some (.int yk b)) (h0 : 0 <= b) (h1 : b <= k.bits) (hr : k.wrap (a * 2 ^ b.toNat) = r) : zP P n ⟨dst, .binOp .shl t x y yt, ty, pos, aft, gd⟩ env (.int k r) := by
 intro a w ha; simp [execOp, ha.eval hx, ha.eval hy, eqGuard_shl, binOp_shl, shift_shl k yk _ _ h0 h1, hr]
theorem wt (hx : ev env x = some (.int k a)) (hy : ev env y = some (.int yk b)) (h0 : 0 <= b) (h1 : b <= k.bits) (hr : a / 2 ^ b.toNat = r) : zP P n ⟨dst, .binOp .shr t x y yt, ty, pos, aft, gd⟩ env (.int k r) := by
 intro a w ha; simp [execOp, ha.eval hx, ha.eval hy, eqGuard_shr, binOp_shr, shift_shr k yk _ _ h0 h1, hr]
theorem vc (hx : ev env x = some (.int k a)) (hy : ev env y = some (.int k b)) : zP P n ⟨dst, .binOp .lss t x y yt, ty, pos, aft, gd⟩ env (.bool (decide (a < b))) := by
 intro a w ha; simp [execOp, ha.eval hx, ha.eval hy, eqGuard_lss, binOp_lss]
theorem qC (hx : ev env x = some (.int k a)) (hy : ev env y = some (.int k b)) : zP P n ⟨dst, .binOp .leq t x y yt, ty, pos, aft, gd⟩ env (.bool (decide (a <= b))) := by
 intro a w ha; simp [execOp, ha.eval hx, ha.eval hy, eqGuard_leq, binOp_leq]
theorem av (hx : ev env x = some (.int k a)) (hy : ev env y = some (.int k b)) : zP P n ⟨dst, .binOp .gtr t x y yt, ty, pos, aft, gd⟩ env (.bool (decide (b < a))) := by
 intro a w ha; simp [execOp, ha.eval hx, ha.eval hy, eqGuard_gtr, binOp_gtr]
theorem uq (hx : ev env x = some (.int k a)) (hy : ev env y = some (.int k b)) : zP P n ⟨dst, .binOp .geq t x y yt, ty, pos, aft, gd⟩ env (.bool (decide (b <= a))) := by
 intro a w ha; simp [execOp, ha.eval hx, ha.eval hy, eqGuard_geq, binOp_geq]
theorem yY (hx : ev env x = some (.int k a)) (hy : ev env y = some (.int k b)) : zP P n ⟨dst, .binOp .eql t x y yt, ty, pos, aft, gd⟩ env (.bool (decide (a = b))) := by
 intro a w ha; simp only [execOp, ha.eval hx, ha.eval hy, eqGuard_at_int, binOp_eql]; simp; rfl
theorem Qx (hx : ev env x = some (.int k a)) (hy : ev env y = some (.int k b)) : zP P n ⟨dst, .binOp .neq t x y yt, ty, pos, aft, gd⟩ env (.bool (decide (¬ a = b))) := by
 intro a' w ha; simp only [execOp, ha.eval hx, ha.eval hy, eqGuard_at_int, binOp_neq]; simp [bne];by_cases hab : a = b <;> simp [hab]
-- strings
variable {s u : Bt}
theorem Yd (hx : ev env x = some (.string (bs s))) (hy : ev env y = some (.string (bs u))) : zP P n ⟨dst, .binOp .eql t x y yt, ty, pos, aft, gd⟩ env (.bool (decide (s = u))) := by
 intro a' w ha; simp only [execOp, ha.eval hx, ha.eval hy, eqGuard_at_string, binOp_string_eql, XW]; simp;by_cases hab : s = u <;> simp [hab]
theorem OA (hx : ev env x = some (.string (bs s))) (hy : ev env y = some (.string (bs u))) : zP P n ⟨dst, .binOp .neq t x y yt, ty, pos, aft, gd⟩ env (.bool (decide (¬ s = u))) := by
 intro a' w ha; simp only [execOp, ha.eval hx, ha.eval hy, eqGuard_at_string, binOp_string_neq, XW]; simp;by_cases hab : s = u <;> simp [hab]
theorem DL (hx : ev env x = some (.string (bs s))) (hy : ev env y = some (.string (bs u))) (hb : s.length + u.length <= 9223372036854775807) : zP P n ⟨dst, .binOp .add t x y yt, ty, pos, aft, gd⟩ env (.string (bs (s ++ u))) := by
 intro a' w ha;have h1 : ¬ (((bs s).size + (bs u).size : Nat) : Int) > IntKind.i64.max := by rw [IntKind.max_i64, u9, u9]; omega
 simp only [execOp, ha.eval hx, ha.eval hy, eqGuard_add, binOp_string_add, Op.stringOp, if_neg h1]
 simp
 rw [<- vK (bs s ++ bs u)]
 simp [bs]
theorem uZ (hx : ev env x = some (.string (bs s))) (ht : xz P t = true) : zP P n ⟨dst, .call ⟨.builtin .len, #[x], #[t]⟩, ty, pos, aft, gd⟩ env (.int .i64 s.length) := by
 intro a' w ha;unfold xz at ht;have hu : P.underlying t = some .string := by split at ht <;> simp_all
 simp [execOp, resolve, invoke, builtin, Builtin.len_, ha.eval hx, run_underlying hu, goInt, u9]
variable {i : Int}
theorem OC (hx : ev env x = some (.string (bs s))) (hy : ev env y = some (.int k i)) (ht : xz P t = true) (h0 : 0 <= i) (h1 : i < s.length) :
  zP P n ⟨dst, .index t x y, ty, pos, aft, gd⟩ env (uE (s.getD i.toNat 0)) := by
 intro a' w ha;unfold xz at ht;have hu : P.underlying t = some .string := by split at ht <;> simp_all
 have h2 : i.toNat < s.length := by omega
 have h3 : (bs s)[i.toNat]? = some (s.getD i.toNat 0) := by
  rw [ByteArray.getElem?_lt' _ _ (by rw [u9]; exact h2)]
  congr 1
  show (bs s).data[i.toNat] = _
  simp [bs, h2]
 simp [execOp, Instr.index, ha.eval hx, ha.eval hy, asIntOf, run_underlying hu, h0, h3, uE]
-- bools, pointers, nil
theorem vJ {b : Bool} (hx : ev env x = some (.bool b)) : zP P n ⟨dst, .unOp .not t x, ty, pos, aft, gd⟩ env (.bool (!b)) := by
 intro a' w ha; simp [execOp, ha.eval hx, Op.unary]
theorem Fr (hx : ev env x = some (.int k a)) (hr : k.wrap (0 - a) = r) : zP P n ⟨dst, .unOp .neg t x, ty, pos, aft, gd⟩ env (.int k r) := by
 intro a' w ha; simp [execOp, ha.eval hx, Op.unary, Op.intArith] at hr ⊢; exact hr
theorem Mr {t : TypeId} (ht : cT P t = true) : P.underlying t = some (.pointer (P.pointee t)) := by
 unfold cT at ht;unfold Program.pointee
 split at ht
 ·rename_i e he; rw [he]
 ·cases ht
theorem jp {p : Oa} (ht : cT P t = true) (hx : ev env x = some (.pointer p)) (hy : ev env y = some (.pointer none)) : zP P n ⟨dst, .binOp .eql t x y yt, ty, pos, aft, gd⟩ env (.bool p.isNone) := by
 intro a' w ha;simp only [execOp, ha.eval hx, ha.eval hy, eqGuard_at_pointer]
 simp [run_eql_pointer_nil w t p (Mr ht)]
-- conversions
variable {dk src : TypeId}
theorem yr {k' : IntKind} (hs : (P.underlying src).isSome = true) (hd : qu P dk k' = true) (hx : ev env x = some (.int k a)) (hr : k'.wrap a = r) : zP P n ⟨dst, .convert src dk x, ty, pos, aft, gd⟩ env (.int k' r) := by
 intro a' w ha;obtain ⟨ds, hds⟩ := Option.isSome_iff_exists.1 hs
 have hu : P.underlying dk = some (.int k') := by
  unfold qu at hd
  split at hd
  ·simp at hd; subst hd; assumption
  ·cases hd
 simp [execOp, convert, ha.eval hx, run_underlying hds, run_underlying hu, Conv.intToInt, hr]
theorem Kh {z : ByteArray} (hs : xz P src = true) (hd : xz P dk = true) (hx : ev env x = some (.string z)) : zP P n ⟨dst, .convert src dk x, ty, pos, aft, gd⟩ env (.string z) := by
 intro a' w ha;unfold xz at hs hd;have h1 : P.underlying src = some .string := by split at hs <;> simp_all
 have h2 : P.underlying dk = some .string := by split at hd <;> simp_all
 simp [execOp, convert, ha.eval hx, run_underlying h1, run_underlying h2]
-- addresses
variable {f o : Nat}
theorem XP {s : Nat} (hf : foff P s f = some o) : ∃ fs g i, P.underlying s = some (.struct fs) /\ fs[f]? = some g /\ P.info? g.type = some i /\ i.size ≠ 0 /\ g.offset = o := by
 unfold foff at hf
 split at hf
 ·rename_i fs hs
  split at hf
  ·rename_i g hg
   split at hf
   ·rename_i i hi
    split at hf
    ·cases hf
    ·rename_i hz; injection hf with hf; exact ⟨fs, g, i, hs, hg, hi, hz, hf⟩
   ·cases hf
  ·cases hf
 ·cases hf
theorem bV {s : Nat} {b : Addr} (hf : foff P s f = some o) (hx : ev env x = some (.pointer (some b))) : zP P n ⟨dst, .fieldAddr s x f, ty, pos, aft, gd⟩ env (.pointer (some (b.add o))) := by
 obtain ⟨fs, g, i, h1, h2, h3, h4, h5⟩ := XP hf;intro a' w ha
 simp [execOp, Instr.fieldAt, ha.eval hx, run_underlying h1, h2, Instr.sureAddr, fieldPlace, sizeOf, typeInfo, h3, h4, h5]
theorem zj {s : Nat} {b p : Nat} (hf : foff P s f = some o) (hx : ev env x = some (.pointer (some ⟨b, p, none⟩))) : zP P n ⟨dst, .fieldAddr s x f, ty, pos, aft, gd⟩ env (.pointer (some ⟨b, p + o, none⟩)) := by
 have := bV (P := P) (n := n) (dst := dst) (ty := ty) (pos := pos) (aft := aft) (gd := gd) hf hx;rwa [Addr.add_lit] at this
def sa (A : Oa) : Addr := A.getD default
variable {sz : Nat}
theorem ZJ {t : Nat} (ht : de P t = some sz) : ∃ e i, P.underlying t = some (.slice e) /\ P.info? e = some i /\ i.size = sz := by
 unfold de at ht
 split at ht
 ·rename_i e he
  cases hi : P.info? e with
  | none => rw [hi] at ht; cases ht
  | some i => rw [hi] at ht; injection ht with ht; exact ⟨e, i, he, hi, ht⟩
 ·cases ht
variable {A : Oa} {c m : Nat}
theorem we (ht : de P t = some sz) (hx : ev env x = some (.slice A m c)) (hy : ev env y = some (.int k i)) (hA : A.isSome = true) (h0 : 0 <= i) (h1 : i < m) :
  zP P n ⟨dst, .indexAddr t x y, ty, pos, aft, gd⟩ env (.pointer (some ((sa A).add (i.toNat * sz)))) := by
 obtain ⟨e, inf, h2, h3, h4⟩ := ZJ ht;obtain ⟨ad, rfl⟩ := Option.isSome_iff_exists.1 hA;intro a' w ha
 simp [execOp, Instr.indexAt, ha.eval hx, ha.eval hy, asIntOf, run_underlying h2, h0, h1, sizeOf, typeInfo, h3, h4, sa]
theorem kT (ht : de P t = some 1) (hx : ev env x = some (.slice A m c)) (hy : ev env y = some (.int k i)) (hA : A.isSome = true) (h0 : 0 <= i) (h1 : i < m) :
  zP P n ⟨dst, .indexAddr t x y, ty, pos, aft, gd⟩ env (.pointer (some ((sa A).add i.toNat))) := by
 have := we (P := P) (n := n) (dst := dst) (ty := ty) (pos := pos) (aft := aft) (gd := gd) ht hx hy hA h0 h1;rwa [Nat.mul_one] at this
-- len, cap
theorem j0 {t : TypeId} (ht : xu P t = true) : ∃ e, P.underlying t = some (.slice e) := by
 unfold xu at ht
 split at ht
 ·exact ⟨_, by assumption⟩
 ·cases ht
theorem X2 (ht : xu P t = true) (hx : ev env x = some (.slice A m c)) : zP P n ⟨dst, .call ⟨.builtin .len, #[x], #[t]⟩, ty, pos, aft, gd⟩ env (.int .i64 m) := by
 obtain ⟨e, he⟩ := j0 ht;intro a' w ha
 simp [execOp, resolve, invoke, builtin, Builtin.len_, ha.eval hx, run_underlying he, goInt]
variable {ts : Array TypeId}
theorem jQ (hx : ev env x = some (.int k a)) (hy : ev env y = some (.int k b)) : zP P n ⟨dst, .call ⟨.builtin .min, #[x, y], ts⟩, ty, pos, aft, gd⟩ env (.int k (min a b)) := by
 intro a' w ha
 simp [execOp, resolve, invoke, builtin, ha.eval hx, ha.eval hy, run_min_int2]
 split <;> omega
theorem Kg (hx : ev env x = some (.int k a)) (hy : ev env y = some (.int k b)) : zP P n ⟨dst, .call ⟨.builtin .max, #[x, y], ts⟩, ty, pos, aft, gd⟩ env (.int k (max a b)) := by
 intro a' w ha
 simp [execOp, resolve, invoke, builtin, ha.eval hx, ha.eval hy, run_max_int2]
 split <;> omega
-- functions, interfaces, tuples
theorem ye {fn : Fn} {fi ca : List Operand} {p q : Lv} (hf : evs env fi = some p) (hc : evs env ca = some q) : zP P n ⟨dst, .makeFunc fn fi.toArray ca.toArray, ty, pos, aft, gd⟩ env (.func fn p.toArray q.toArray) := by
 intro a' w ha;have h1 := qv ha hf;have h2 := qv ha hc;simp only [execOp, Instr.makeFunc, h1, h2]; rfl
theorem wu (ht : yQ P t = false) (hs : (P.underlying t).isSome = true) (hx : ev env x = some v) : zP P n ⟨dst, .makeInterface t x, ty, pos, aft, gd⟩ env (.iface t v) := by
 intro a' w ha;obtain ⟨ds, hds⟩ := Option.isSome_iff_exists.1 hs;simp only [execOp, Instr.makeInterface, ha.eval hx];unfold yQ at ht;rw [hds] at ht
 simp [run_underlying hds]
 split
 ·simp at ht
 ·simp
theorem X3 {l : Lv} {i : Nat} (hx : ev env x = some (.tuple l.toArray)) (hi : qZ l i = some v) : zP P n ⟨dst, .extract x i, ty, pos, aft, gd⟩ env v := by
 intro a' w ha;rw [<- vS] at hi
 simp [execOp, Instr.extract, ha.eval hx, hi]
end
end Go.Eng
namespace Go.Eng
def mc (m : Mp) (a : Addr) : Option Value := match m a.block with
 | some (.cells c _ _) => if a.spot.isSome then none else c[a.off]?
 | _ => none
variable {m m' : Mp} {v : Value}
theorem yA (h : Le m m') {a : Addr} (hc : mc m a = some v) : mc m' a = some v := by
 unfold mc at hc ⊢;cases hb : m a.block with
 | none => rw [hb] at hc; cases hc
 | some o => rw [h _ _ hb]; rw [hb] at hc; exact hc
theorem w9 (w : World) (a : Addr) : w.cell? a = mc (mp w.heap) a := rfl
variable {b : Nat} {fr : Nat × Nat} {i : Nat} {l : Lv} {t : TypeId}
theorem zy (hb : m b = some (.cells l.toArray t fr)) (hi : qZ l i = some v) : mc m ⟨b, i, none⟩ = some v := by
 simp [mc, hb, vS, hi]
theorem Zo {o : Nat} : mc m ((⟨b, o, none⟩ : Addr).add i) = mc m ⟨b, o + i, none⟩ := by rw [Addr.add_lit]
variable {h : zZ} {o : Obj}
theorem vy (hb : mp h b = some o) : b < h.size := by
 unfold mp at hb;exact (Array.getElem?_eq_some_iff.1 hb).1
theorem vT (h : zZ) (o : Obj) : Le (mp h) (mp (h.push o)) := fun b u hb => by
 have := vy hb;unfold mp at hb ⊢;rw [Array.getElem?_push, if_neg (by omega)];exact hb
theorem xc (h : zZ) (o : Obj) : mp (h.push o) h.size = some o := by simp [mp]
theorem u6 (h : zZ) : mp h h.size = none := by simp [mp]
theorem dv {h' : zZ} (hl : Le (mp h) (mp h')) : h.size <= h'.size := by
 rcases Nat.lt_or_ge h'.size h.size with hlt | hge
 ·exfalso
  have h1 : mp h h'.size = some h[h'.size] := by simp [mp, hlt]
  have := vy (hl _ _ h1);omega
 ·exact hge
theorem MJ {c : Nat} (hb : m b = some o) (hc : m c = none) : b ≠ c := by
 rintro rfl;rw [hb] at hc;cases hc
def Rd (m : Mp) (A : Oa) (vs : Lv) : Prop := ∀ i u, vs[i]? = some u -> A.isSome = true /\ mc m ((sa A).add i) = some u
variable {A : Oa} {vs : Lv}
theorem Rd.mono (hr : Rd m A vs) (h : Le m m') : Rd m' A vs := fun i u hi => ⟨(hr i u hi).1, yA h (hr i u hi).2⟩
theorem Rd.nil (m : Mp) (A : Oa) : Rd m A [] := fun i u hi => by simp at hi
theorem Rd.isSome (hr : Rd m A vs) (h : 0 < vs.length) : A.isSome = true := (hr 0 vs[0] (List.getElem?_eq_getElem h)).1
theorem Rd.at_ (hr : Rd m A vs) {u : Value} (hi : vs[i]? = some u) : mc m ((sa A).add i) = some u := (hr i u hi).2
theorem Rd.map {α : Type} {f : α -> Value} {xs : List α} (hr : Rd m A (xs.map f)) (hi : i < xs.length) : mc m ((sa A).add i) = some (f xs[i]) :=
 hr.at_ (by simp [List.getElem?_map, List.getElem?_eq_getElem hi])
theorem Rd.take (hr : Rd m A vs) (k : Nat) : Rd m A (vs.take k) := fun i u hi => hr i u (by
 rw [List.getElem?_take] at hi
 split at hi
 ·exact hi
 ·cases hi)
theorem Rd.blk (hb : m b = some (.cells l.toArray t fr)) : Rd m (some ⟨b, 0, none⟩) l := fun i u hi => by
 refine ⟨rfl, ?_⟩;show mc m ((⟨b, 0, none⟩ : Addr).add i) = some u;rw [Zo]
 simp [mc, hb, hi]
theorem fF (a : Addr) (i j : Nat) : (a.add i).add j = a.add (i + j) := by
 unfold Addr.add;by_cases hi : i = 0 <;> by_cases hj : j = 0 <;> simp [hi, hj, Nat.add_assoc]
theorem FE (A : Oa) (k : Nat) (h : A.isSome = true) : sa (A.map (·.add k)) = (sa A).add k := by
 obtain ⟨a, rfl⟩ := Option.isSome_iff_exists.1 h
 rfl
def xL (A : Oa) (l m sz : Nat) : Oa := if m = l then A else A.map (·.add (l * sz))
theorem Rd.cut (hr : Rd m A vs) {l mm sz : Nat} (k : Nat) (hk : l + k <= mm) : Rd m (xL A l mm sz) ((vs.drop (l * sz)).take (k * sz)) := by
 intro i u hi;rw [List.getElem?_take] at hi
 split at hi
 ·rename_i hlt
  rw [List.getElem?_drop] at hi;have h1 := hr _ u hi
  have hne : mm ≠ l := by
   intro e;have : k = 0 := by omega
   subst this
   simp at hlt
  unfold xL;rw [if_neg hne, FE _ _ h1.1, fF];exact ⟨by simpa using h1.1, h1.2⟩
 ·cases hi
section
variable {P : Program} {n : Nat} {env : Env} {h : zZ} {dst : Option Tmp} {ty : TypeId} {pos : String} {aft : Array Edge} {gd : Option (Nat × Bool)}
variable {t : TypeId} {x y : Operand}
theorem vj (ht : single P t = true) (w : World) : (isAgg t).run P w = .ok false w := by
 unfold single at ht;unfold isAgg
 split at ht <;> try cases ht
 rename_i d h1 h2 hd
 simp only [Sem.run_bind, run_underlying hd, Result.andThen_ok];cases d <;> first | rfl | exact (h1 _ rfl).elim | exact (h2 _ _ rfl).elim
variable {a : Addr}
theorem zL {v : Value} (ht : single P t = true) (hx : ev env x = some (.pointer (some a))) (hc : mc (mp h) a = some v) : xM P n ⟨dst, .load t x, ty, pos, aft, gd⟩ env h v := by
 intro act w ha hl;have h1 : w.cell? a = some v := by rw [w9]; exact yA hl hc
 simp only [execOp, Instr.loadAt, ha.eval hx, Instr.sureAddr, loadVar]
 simp [vj ht, h1]
def xb (P : Program) (t : TypeId) : Option Nat := match P.underlying t with
 | some (.struct _) => (P.info? t).map (·.size)
 | some (.array _ _) => (P.info? t).map (·.size)
 | _ => none
variable {k : Nat}
theorem wF {t : Nat} (ht : xb P t = some k) : (∀ w, (isAgg t).run P w = .ok true w) /\ ∃ i, P.info? t = some i /\ i.size = k := by
 unfold xb at ht
 split at ht
 ·rename_i fs hd
  refine ⟨fun w => by unfold isAgg; simp [run_underlying hd], ?_⟩;cases hi : P.info? t with
  | none => rw [hi] at ht; cases ht
  | some i => rw [hi] at ht; injection ht with ht; exact ⟨i, rfl, ht⟩
 ·rename_i c e hd
  refine ⟨fun w => by unfold isAgg; simp [run_underlying hd], ?_⟩;cases hi : P.info? t with
  | none => rw [hi] at ht; cases ht
  | some i => rw [hi] at ht; injection ht with ht; exact ⟨i, rfl, ht⟩
 ·cases ht
theorem HV {l : Lv} (ht : xb P t = some k) (hx : ev env x = some (.pointer (some a))) (hl : l.length = k) (hc : ∀ i u, l[i]? = some u -> mc (mp h) (a.add i) = some u) :
  xM P n ⟨dst, .load t x, ty, pos, aft, gd⟩ env h (.agg l.toArray) := by
 obtain ⟨h1, i, hi, hs⟩ := wF ht;intro act w ha hle;have h2 : (loadCells a l.length).run P w = .ok l.toArray w := run_loadCells_list w a l fun j v hj => by rw [w9]; exact yA hle (hc j v hj)
 simp only [execOp, Instr.loadAt, ha.eval hx, Instr.sureAddr, loadVar];rw [hl] at h2
 simp [h1, sizeOf, typeInfo, hi, hs, h2]
def qF (P : Program) (t : TypeId) : Bool := match P.underlying t with
 | some (.slice e) => match P.underlying e with
   | some (.int .u8) => true
   | _ => false
 | _ => false
theorem ai (ht : qF P t = true) : ∃ e, P.underlying t = some (.slice e) /\ P.underlying e = some (.int .u8) := by
 unfold qF at ht
 split at ht
 ·rename_i e he
  split at ht
  ·rename_i hu; exact ⟨e, he, hu⟩
  ·cases ht
 ·cases ht
theorem UQ (l : Bt) : ∀ s : ByteArray, (l.map fun b => (b.toNat : Int)).foldl (fun r n => r.push (UInt8.ofNat n.toNat)) s = ⟨s.data ++ l.toArray⟩ := by
 induction l with
 | nil => intro s; simp
 | cons b r ih => intro s; rw [List.map_cons, List.foldl_cons, ih]; simp [ByteArray.push]
theorem Oy {A : Oa} {m c src dk : Nat} {l : Bt} (hs : qF P src = true) (hd : xz P dk = true) (hx : ev env x = some (.slice A m c)) (hm : l.length = m) (hr : Rd (mp h) A (l.map uE)) :
  xM P n ⟨dst, .convert src dk x, ty, pos, aft, gd⟩ env h (.string (bs l)) := by
 intro act w ha hle;obtain ⟨e, he, he8⟩ := ai hs;unfold xz at hd;have hu : P.underlying dk = some .string := by split at hd <;> simp_all
 have key : (Conv.bytesToString (.slice A m c)).run P w = .ok (.string (bs l)) w := by
  subst hm;cases A with
  | none =>
    have : l = [] := by
     cases l with
     | nil => rfl
     | cons b r => have := (hr 0 (uE b) (by simp)).1; cases this
    subst this
    simp [Conv.bytesToString, bs]
    rfl
  | some a =>
    have h2 : (loadCells a l.length).run P w = .ok ((l.map fun b => (b.toNat : Int)).map (Value.int .u8)).toArray w := by
     have := run_loadCells_list (P := P) w a (l.map uE) fun j v hj => by
      have := (hr j v hj).2;rw [w9];exact yA hle this
     rw [List.length_map] at this;rw [this]
     simp [uE, Function.comp_def]
    rw [run_bytesToString w a l.length c _ h2, UQ]
    congr 3
    show #[] ++ l.toArray = l.toArray
    simp
 simp only [execOp, ha.eval hx, Sem.run_bind];rw [run_convert_bytes_string w src dk e A m c he he8 hu, key]
 rfl
-- cuts
theorem ew {t sz : Nat} (ht : de P t = some sz) : P.underlying t = some (.slice (P.elem t)) /\ ∀ w, (sizeOf (P.elem t)).run P w = .ok sz w := by
 obtain ⟨e, i, h1, h2, h3⟩ := ZJ ht;have he : P.elem t = e := by unfold Program.elem; rw [h1]
 refine ⟨by rw [he]; exact h1, fun w => ?_⟩;rw [he]
 simp [sizeOf, typeInfo, h2, h3]
variable {A : Oa} {m c sz : Nat} {lo hi mx : Operand} {k1 k2 k3 : IntKind} {l1 l2 l3 : Int}
theorem X1 (ln : Nat) (ht : de P t = some sz) (hx : ev env x = some (.slice A m c)) (h1 : ev env lo = some (.int k1 l1)) (e1 : l1 = ln) (g1 : ln <= m) : zP P n ⟨dst, .slice t x (some lo) none none, ty, pos, aft, gd⟩ env (.slice (xL A ln c sz) (m - ln) (c - ln)) := by
 obtain ⟨hu, hs⟩ := ew ht;subst e1;intro a w ha;simp only [execOp, ha.eval hx, Option.map_some, Option.map_none, ha.eval h1, Sem.run_bind, run_sliceAt_slice w t _ _ _ _ hu];rw [run_slice_l w t A m c hu k1 ln (by omega) (by omega), hs]
 simp [sliced, xL]
theorem fJ (hn : Nat) (ht : de P t = some sz) (hx : ev env x = some (.slice A m c)) (h2 : ev env hi = some (.int k2 l2)) (e2 : l2 = hn) (g2 : hn <= c) : zP P n ⟨dst, .slice t x none (some hi) none, ty, pos, aft, gd⟩ env (.slice (xL A 0 c sz) hn c) := by
 obtain ⟨hu, hs⟩ := ew ht;subst e2;intro a w ha;simp only [execOp, ha.eval hx, Option.map_some, Option.map_none, ha.eval h2, Sem.run_bind, run_sliceAt_slice w t _ _ _ _ hu];rw [run_slice_h w t A m c hu k2 hn (by omega) (by omega), hs]
 simp [sliced, xL]
variable {s : Bt}
theorem aE (ht : xz P t = true) : P.underlying t = some .string := by
 unfold xz at ht; split at ht <;> simp_all
theorem JV (s : Bt) (a b : Nat) : (bs s).extract a b = bs ((s.drop a).take (b - a)) := by
 rw [<- vK ((bs s).extract a b)]
 simp [bs, ByteArray.extract, ByteArray.copySlice]
-- structs by value, struct literals
def yB (P : Program) (t : TypeId) : Option Lv := match P.info? t with
 | some i => i.zero.map fun z => z.cells.toList
 | none => none
def xl (P : Program) (t : TypeId) : Option (List (Nat × Nat)) := match P.underlying t with
 | some (.struct fs) => fs.toList.mapM fun f => match P.info? f.type with
   | some i => some (f.offset, i.size)
   | none => none
 | _ => none
def eE : Lv -> Nat -> Lv -> Lv
 | l, _, [] => l
 | l, i, v :: r => eE (l.set i v) (i + 1) r
def Wn : List (Nat × Nat) -> Nat -> Option (Nat × Nat)
 | [], _ => none
 | p :: _, 0 => some p
 | _ :: r, i + 1 => Wn r i
def ZF (pl : List (Nat × Nat)) : Lv -> List (Nat × Value) -> Option Lv
 | cs, [] => some cs
 | cs, (i, v) :: r => match Wn pl i with
   | none => none
   | some (off, k) => match Nat.beq v.cells.toList.length k && Nat.ble (off + v.cells.toList.length) cs.length with
     | true => ZF pl (eE cs off v.cells.toList) r
     | false => none
end
end Go.Eng
namespace Go.Eng
section
variable {P : Program} {n : Nat} {env : Env} {h : zZ} {Q : yd} {K : Env -> zZ -> Prop} {dst : Option Tmp} {d : Nat} {ty : TypeId} {pos : String} {aft : Array Edge} {gd : Option (Nat × Bool)}
variable {t : TypeId} {x y : Operand}
variable {o : Oper} {v : Value}
theorem vh (hd : o.dst = some d) (hn : Nat.blt d n = true) (hr : ∀ (x : Fx) (dr : Nat) (a : Act), kj n x env a -> ∃ h' dr', (execOp a.eval o).run P (W x h dr) = .ok (.value v) (W x h' dr') /\ K ((d, v) :: env) h') : qM P n Q o env h K := by
 intro x dr a hag;obtain ⟨h', dr', h1, h2⟩ := hr x dr a hag;unfold Oper.wp;rw [h1, Oper.upon_value, hd];exact ⟨_, h', dr', hag.put d v (by simpa [Nat.blt_eq] using hn), rfl, h2⟩
theorem qE (hd : o.dst = none) (hr : ∀ (x : Fx) (dr : Nat) (a : Act), kj n x env a -> ∃ h' dr', (execOp a.eval o).run P (W x h dr) = .ok .skip (W x h' dr') /\ K env h') : qM P n Q o env h K := by
 intro x dr a hag;obtain ⟨h', dr', h1, h2⟩ := hr x dr a hag;unfold Oper.wp;rw [h1, Oper.upon_skip, hd];exact ⟨_, h', dr', hag, rfl, h2⟩
variable {z : Lv}
theorem kk (hz : yB P t = some z) : ∀ w, ∃ v, (zeroValue t).run P w = .ok v w /\ v.cells = z.toArray := by
 intro w;unfold yB at hz
 split at hz
 ·rename_i i hi
  cases hzz : i.zero with
  | none => rw [hzz] at hz; cases hz
  | some v =>
    rw [hzz] at hz;simp only [Option.map_some, Option.some.injEq] at hz;refine ⟨v, by simp [zeroValue, typeInfo, hi, hzz], by rw [<- hz]⟩
 ·cases hz
theorem KI (cs vs : Lv) (off : Nat) : (vs.toArray.zipIdx.foldl (fun cs (c, j) => cs.setIfInBounds (off + j) c) cs.toArray) = (eE cs off vs).toArray := by
 have key : ∀ (vs : Lv) (k : Nat) (cs : Lv), ((vs.zipIdx k).foldl (fun (cs : Array Value) (p : Value × Nat) => cs.setIfInBounds (off + p.2) p.1) cs.toArray) = (eE cs (off + k) vs).toArray := by
  intro vs
  induction vs with
  | nil => intro k cs; simp [eE]
  | cons v r ih =>
    intro k cs;simp only [List.zipIdx_cons, List.foldl_cons, eE];have h1 : cs.toArray.setIfInBounds (off + k) v = (cs.set (off + k) v).toArray := by simp
    rw [h1, ih, Nat.add_assoc]
 have := key vs 0 cs;simp only [Nat.add_zero] at this;rw [<- this]
 simp
theorem PJ (l : List (Nat × Nat)) (i : Nat) : l[i]? = Wn l i := by
 induction l generalizing i with
 | nil => simp [Wn]
 | cons o r ih => cases i <;> simp [Wn, ih]
variable {pl : List (Nat × Nat)}
theorem ZE : ∀ {ps : List (Nat × Value)} {z cs : Lv}, ZF pl z ps = some cs -> Instr.fill (pl.toArray[·]?) z.toArray ps = some cs.toArray
 | [], z, cs, hf => by simp only [ZF, Option.some.injEq] at hf; simp [Instr.fill, hf]
 | (i, v) :: r, z, cs, hf => by
   unfold ZF at hf
   split at hf
   ·cases hf
   ·rename_i off k hp
    split at hf
    ·rename_i hb
     simp only [Bool.and_eq_true, Nat.ble_eq] at hb;obtain ⟨hb1, hb2⟩ := hb;have hb1 := Nat.eq_of_beq_eq_true hb1;have ih := ZE hf;unfold Instr.fill;have hpl : pl.toArray[i]? = some (off, k) := by rw [List.getElem?_toArray, PJ, hp]
     simp only [hpl];have e1 : v.cells.size = k := by rw [<- hb1]; simp
     have e2 : off + v.cells.size <= z.length := by simpa using hb2
     rw [if_neg (by simp [e1]; omega)];have := KI z v.cells.toList off;simp only [Array.toArray_toList] at this;rw [this];exact ih
    ·cases hf
theorem Wo (hp : xl P t = some pl) :
  ∃ fs, P.underlying t = some (.struct fs) /\ ∀ w, (fs.mapM fun f => (do pure (f.offset, <- sizeOf f.type) : Sem (Nat × Nat))).run P w = .ok pl.toArray w := by
 unfold xl at hp
 split at hp
 ·rename_i fs hu
  refine ⟨fs, hu, fun w => ?_⟩
  have key : ∀ (l : List Field) (pl : List (Nat × Nat)), l.mapM (fun f => match P.info? f.type with
    | some i => some (f.offset, i.size)
    | none => none) = some pl -> (l.mapM fun f => (do pure (f.offset, <- sizeOf f.type) : Sem (Nat × Nat))).run P w = .ok pl w := by
   intro l
   induction l with
   | nil => intro pl hp; simp at hp; subst hp; simp
   | cons f r ih =>
     intro pl hp;rw [List.mapM_cons] at hp ⊢;cases hi : P.info? f.type with
     | none => rw [hi] at hp; simp at hp
     | some i =>
       rw [hi] at hp;simp only [Option.bind_eq_bind, Option.bind_some] at hp
       cases hr : (r.mapM fun f => match P.info? f.type with
        | some i => some (f.offset, i.size)
        | none => none) with
       | none => rw [hr] at hp; simp at hp
       | some rl =>
         rw [hr] at hp
         simp at hp
         subst hp;have := ih rl hr;simp only [Sem.run_bind, sizeOf, typeInfo, run_program, Result.andThen_ok, hi, Sem.run_pure] at this ⊢;rw [this]
         simp
  have := key fs.toList pl hp;rw [<- Array.toArray_toList (xs := fs), List.mapM_toArray, Sem.run_map, this]
  rfl
 ·cases hp
theorem zW {parts : List (Nat × Operand)} {ps : List (Nat × Value)} {cs : Lv} (hz : yB P t = some z) (hp : xl P t = some pl) (hx : evp env parts = some ps) (hf : ZF pl z ps = some cs) : zP P n ⟨dst, .build t parts.toArray, ty, pos, aft, gd⟩ env (.agg cs.toArray) := by
 intro a w ha;obtain ⟨zv, hz1, hz2⟩ := kk hz w;obtain ⟨fs, hu, hm⟩ := Wo hp;have h1 := ZH ha hx;have h2 := ZE hf;simp only [execOp, h1, Instr.build, Sem.run_bind, hz1, Result.andThen_ok, run_underlying hu, hm, hz2, h2]
 simp
def bi (P : Program) (t f : Nat) : Option TypeId := match P.underlying t with
 | some (.struct fs) => (fs[f]?).map (·.type)
 | _ => none
variable {l : Lv}
theorem Ye {f o : Nat} {ft : TypeId} (hf : foff P t f = some o) (hft : bi P t f = some ft) (hs : single P ft = true) (hx : ev env x = some (.agg l.toArray)) (hv : qZ l o = some v) : zP P n ⟨dst, .field t x f, ty, pos, aft, gd⟩ env v := by
 obtain ⟨fs, g, i, h1, h2, h3, h4, h5⟩ := XP hf;intro a w ha;unfold bi at hft;rw [h1] at hft;simp only [h2, Option.map_some, Option.some.injEq] at hft;subst hft;rw [<- vS] at hv
 simp [execOp, Instr.field, ha.eval hx, run_underlying h1, h2, asAgg, part, vj hs, h5, hv]
theorem wx {elem : TypeId} (hx : ev env x = some v) (hn : Nat.blt d n = true) (hk : ∀ b h', mp h b = none -> mp h' b = some (.cells v.cells elem (0, 0)) -> Le (mp h) (mp h') -> K ((d, .pointer (some ⟨b, 0, none⟩)) :: env) h') : qM P n Q ⟨some d, .box elem x, ty, pos, aft, gd⟩ env h K :=
 vh rfl hn fun fx dr a ha => ⟨h.push (.cells v.cells elem), dr, by simp [execOp, Instr.box, newVar, newRow, ha.eval hx]; exact ⟨rfl, rfl⟩, hk h.size _ (u6 h) (xc h _) (vT h _)⟩
theorem vV {elem : TypeId} (hz : yB P elem = some z) (hn : Nat.blt d n = true) (hk : ∀ b h', mp h b = none -> mp h' b = some (.cells z.toArray elem (0, 0)) -> Le (mp h) (mp h') -> K ((d, .pointer (some ⟨b, 0, none⟩)) :: env) h') : qM P n Q ⟨some d, .alloc elem, ty, pos, aft, gd⟩ env h K :=
 vh rfl hn fun fx dr a _ => by
  obtain ⟨zv, hz1, hz2⟩ := kk hz (W fx h dr);exact ⟨h.push (.cells z.toArray elem), dr, by simp [execOp, Instr.alloc, newVar, newRow, hz1, hz2]; exact ⟨rfl, rfl⟩, hk h.size _ (u6 h) (xc h _) (vT h _)⟩
def jg (h : zZ) (a : Addr) (v : Value) : zZ := h.modify a.block fun
 | .cells c elem fr => .cells (if a.spot.isSome then c else c.setIfInBounds a.off v) elem fr
 | o => o
variable {b : Nat}
theorem je (h : zZ) (a : Addr) (v : Value) (hb : b ≠ a.block) : mp (jg h a v) b = mp h b := by
 unfold mp jg;rw [Array.getElem?_modify, if_neg (by omega)]
variable {e : TypeId} {i : Nat}
theorem cH (h : zZ) {fr : Nat × Nat} (v : Value) (hb : mp h b = some (.cells l.toArray e fr)) : mp (jg h ⟨b, i, none⟩ v) b = some (.cells (l.set i v).toArray e fr) := by
 unfold mp at hb;unfold mp jg
 simp [Array.getElem?_modify, hb]
def uI : Value -> Bool
 | .agg _ => false
 | .tuple _ => false
 | _ => true
theorem Zh (hv : uI v = true) : v.cells = #[v] /\ v.oneCell' = true := by cases v <;> first | exact ⟨rfl, rfl⟩ | cases hv
def kK (P : Program) (t : TypeId) : Bool := match P.info? t with
 | some i => Nat.beq i.size 1
 | none => false
theorem Qf (ht : kK P t = true) (w : World) : (sizeOf t).run P w = .ok 1 w := by
 unfold kK at ht
 split at ht
 ·rename_i i hi
  have := Nat.eq_of_beq_eq_true ht
  simp [sizeOf, typeInfo, hi, this]
 ·cases ht
def P0 (m : Mp) (a : Addr) : Bool := match m a.block with
 | some (.cells _ _ (lo, hi)) => lo <= a.off && a.off < hi
 | _ => false
theorem JJ (w : World) (a : Addr) : w.frozen? a = P0 (mp w.heap) a := rfl
theorem X4 {a : Addr} {u : Value} (ht : kK P t = true) (hx : ev env x = some (.pointer (some a))) (hy : ev env y = some v) (hv : uI v = true) (hc : mc (mp h) a = some u) (hf : P0 (mp h) a = false) (hk : K env (jg h a v)) : qM P n Q ⟨none, .store t x y, ty, pos, aft, gd⟩ env h K :=
 qE rfl fun fx dr act ha => by
  obtain ⟨h1, h2⟩ := Zh hv;refine ⟨jg h a v, dr, ?_, hk⟩;have h3 : (W fx h dr).cell? a = some u := hc;have h4 : (W fx h dr).frozen? a = false := hf
  have h5 : (store (a.add 0) v).run P (W fx h dr) = .ok () (W fx (jg h a v) dr) := by
   rw [run_store _ _ _ _ _ h2, Addr.add_zero', h3];simp only [h4]
   rfl
  simp only [execOp, Instr.storeAt, ha.eval hx, ha.eval hy, Instr.sureAddr, storeVar, h1]
  simp [Qf ht, storeCells, h5]
theorem S7 (ht : kK P t = true) (hx : ev env x = some (.pointer (some ⟨b, i, none⟩))) (hy : ev env y = some v) (hv : uI v = true) (hb : mp h b = some (.cells l.toArray e (0, 0))) (hi : Nat.blt i l.length = true) (hk : ∀ h', mp h' b = some (.cells (l.set i v).toArray e (0, 0)) -> (∀ k, k ≠ b -> mp h' k = mp h k) -> h'.size = h.size -> K env h') : qM P n Q ⟨none, .store t x y, ty, pos, aft, gd⟩ env h K := by
 have hi' : i < l.length := by simpa [Nat.blt_eq] using hi
 have hc : mc (mp h) ⟨b, i, none⟩ = some l[i] := by simp [mc, hb, hi']
 have hf : P0 (mp h) ⟨b, i, none⟩ = false := by simp [P0, hb]
 exact X4 ht hx hy hv hc hf (hk _ (cH h v hb) (fun k hk => je h _ v hk) (by simp [jg]))
def fillS (sz : Nat) : Lv -> List (Nat × Value) -> Option Lv
 | cs, [] => some cs
 | cs, (i, v) :: r => match Nat.beq v.cells.toList.length sz && Nat.ble (i * sz + v.cells.toList.length) cs.length with
   | true => fillS sz (eE cs (i * sz) v.cells.toList) r
   | false => none
theorem kF {sz : Nat} : ∀ {ps : List (Nat × Value)} {z cs : Lv}, fillS sz z ps = some cs -> Instr.fill (fun i => some (i * sz, sz)) z.toArray ps = some cs.toArray
 | [], z, cs, hf => by simp only [fillS, Option.some.injEq] at hf; simp [Instr.fill, hf]
 | (i, v) :: r, z, cs, hf => by
   unfold fillS at hf
   split at hf
   ·rename_i hb
    simp only [Bool.and_eq_true, Nat.ble_eq] at hb;obtain ⟨hb1, hb2⟩ := hb;have hb1 := Nat.eq_of_beq_eq_true hb1;have ih := kF hf;unfold Instr.fill;have e1 : v.cells.size = sz := by rw [<- hb1]; simp
    have e2 : i * sz + v.cells.size <= z.length := by simpa using hb2
    simp only;rw [if_neg (by simp [e1]; omega)];have := KI z v.cells.toList (i * sz);simp only [Array.toArray_toList] at this;rw [this];exact ih
   ·cases hf
end
end Go.Eng
namespace Go.Eng
def Zz (m : Mp) (S : Nat -> Bool) : Mp := fun b => if S b then none else m b
variable {S : Nat -> Bool} {b : Nat} {m : Mp} {o : Obj}
theorem Zy (hb : Zz m S b = some o) : m b = some o /\ S b = false := by
 unfold Zz at hb
 split at hb
 ·cases hb
 ·rename_i hs; exact ⟨hb, by simpa using hs⟩
theorem UN (hb : m b = some o) (hs : S b = false) : Zz m S b = some o := by
 unfold Zz;rw [if_neg (by rw [hs]; simp)];exact hb
def Own (m : Mp) (e sz : Nat) (A : Oa) (n c : Nat) (xs : Lv) : Prop :=
 xs.length = n * sz /\ n <= c /\ ((A = none /\ c = 0) \/
  ∃ g o cur, A = some ⟨g, o, none⟩ /\ m g = some (.cells cur e (0, 0)) /\ c <= maxLen /\ o + c * sz <= cur.size /\ (cur.toList.drop o).take (n * sz) = xs)
def jO (A : Oa) : Option Nat := A.map (·.block)
def qG (A : Oa) : Nat -> Bool := fun b => jO A == some b
def K8 (m : Mp) (A : Oa) : Mp := Zz m (qG A)
variable {A : Oa} {c e : Nat} {m' : Mp} {n sz : Nat} {xs : Lv}
theorem Own.mono (h : Own m e sz A n c xs) (hl : Le m m') : Own m' e sz A n c xs := by
 obtain ⟨h1, h0, h2⟩ := h;refine ⟨h1, h0, ?_⟩;rcases h2 with h2 | ⟨g, o, cur, a, b, r⟩
 ·exact .inl h2
 ·exact .inr ⟨g, o, cur, a, hl _ _ b, r⟩
theorem Own.nil (m : Mp) (e sz : Nat) : Own m e sz none 0 0 [] := ⟨by simp, Nat.le_refl _, .inl ⟨rfl, rfl⟩⟩
theorem Own.rd (h : Own m e sz A n c xs) : Rd m A xs := by
 obtain ⟨h1, h0, ⟨rfl, rfl⟩ | ⟨g, o, cur, rfl, hg, _, _, ht⟩⟩ := h
 ·have : xs = [] := List.eq_nil_of_length_eq_zero (by rw [h1, Nat.le_zero.1 h0, Nat.zero_mul]);subst this;exact Rd.nil _ _
 ·intro i u hi;refine ⟨rfl, ?_⟩;rw [<- ht, List.getElem?_take] at hi
  split at hi
  ·have : sa (some (⟨g, o, none⟩ : Addr)) = ⟨g, o, none⟩ := rfl;rw [this, Zo];simp only [mc, hg];rw [List.getElem?_drop] at hi
   simpa using hi
  ·cases hi
theorem Own.len (h : Own m e sz A n c xs) : xs.length = n * sz := h.1
theorem Own.le (h : Own m e sz A n c xs) : n <= c := h.2.1
theorem Own.none_cap (h : Own m e sz A n c xs) (hA : A = none) : c = 0 := by
 obtain ⟨_, _, ⟨_, h⟩ | ⟨_, _, _, h, _⟩⟩ := h
 ·exact h
 ·rw [hA] at h; cases h
variable {g : Nat}
theorem Own.at_ (ho : Own m e sz A n c xs) (hg : qG A g = true) : ∃ cur, m g = some (.cells cur e (0, 0)) := by
 obtain ⟨_, _, ⟨rfl, _⟩ | ⟨g', o, cur, rfl, hm, _⟩⟩ := ho
 ·simp [qG, jO] at hg
 ·simp [qG, jO] at hg
  subst hg;exact ⟨cur, hm⟩
variable {h : zZ}
theorem Own.lt (ho : Own (mp h) e sz A n c xs) (hg : qG A g = true) : g < h.size := by
 obtain ⟨cur, hm⟩ := ho.at_ hg;exact vy hm
variable {cs : Array Value} {fr : Nat × Nat} {t : Nat}
theorem Own.apart (ho : Own m e sz A n c xs) (hb : m g = some (.cells cs t fr)) (hne : e ≠ t) : qG A g = false := by
 cases hi : qG A g with
 | false => rfl
 | true =>
   obtain ⟨cur, hm⟩ := ho.at_ hi;rw [hm] at hb
   injection hb with hb
   injection hb with _ hb
   exact absurd hb hne
theorem Own.new {l : Lv} (hb : m b = some (.cells l.toArray e (0, 0))) (hl : l.length = n * sz) (hm : n <= maxLen) : Own m e sz (some ⟨b, 0, none⟩) n n l :=
 ⟨hl, Nat.le_refl _, .inr ⟨b, 0, l.toArray, rfl, hb, hm, by simp [hl], by simp [<- hl]⟩⟩
theorem Own.cut {l k mm : Nat} (h : Own m e sz A n c xs) (h1 : l + k <= n) (h2 : l + k <= mm) (h3 : mm <= c) : Own m e sz (xL A l mm sz) k (mm - l) ((xs.drop (l * sz)).take (k * sz)) := by
 obtain ⟨hx, hn, hr⟩ := h;refine ⟨?_, by omega, ?_⟩
 ·rw [List.length_take, List.length_drop, hx];have : k * sz <= n * sz - l * sz := by rw [<- Nat.sub_mul]; exact Nat.mul_le_mul_right _ (by omega)
  omega
 ·rcases hr with ⟨rfl, rfl⟩ | ⟨g, o, cur, rfl, hg, hm, hc, ht⟩
  ·exact .inl ⟨by unfold xL; split <;> rfl, by omega⟩
  ·by_cases hml : mm = l
   ·subst hml;have hk : k = 0 := by omega
    subst hk;refine .inr ⟨g, o, cur, by simp [xL], hg, by omega, ?_, by simp⟩;simp only [Nat.sub_self, Nat.zero_mul, Nat.add_zero];omega
   ·refine .inr ⟨g, o + l * sz, cur, ?_, hg, by omega, ?_, ?_⟩
    ·unfold xL; rw [if_neg hml]; simp [Addr.add_lit]
    ·have h4 : o + l * sz + (mm - l) * sz = o + mm * sz := by rw [Nat.add_assoc, <- Nat.add_mul]; congr 2; omega
     have h5 : mm * sz <= c * sz := Nat.mul_le_mul_right _ h3;omega
    ·rw [<- ht, <- List.drop_drop];rw [List.drop_take, List.take_take]
     congr 1
     have : k * sz <= n * sz - l * sz := by rw [<- Nat.sub_mul]; exact Nat.mul_le_mul_right _ (by omega)
     omega
structure Yf (h : zZ) (A : Oa) (h' : zZ) (A' : Oa) : Prop where
 rest : Le (K8 (mp h) A) (K8 (mp h') A')
 at_ : jO A' = jO A \/ jO A' = some h.size
 size : h.size <= h'.size
 other : ∀ k, k < h.size -> some k ≠ jO A -> mp h' k = mp h k
variable {A' : Oa} {h' : zZ}
theorem Yf.le (hg : Yf h A h' A') (hm : Le m (K8 (mp h) A)) : Le m (K8 (mp h') A') := hm.trans hg.rest
structure QE (S : Nat -> Bool) (h h' : zZ) (S' : Nat -> Bool) : Prop where
 keep : ∀ k o, mp h k = some o -> S k = false -> mp h' k = some o /\ S' k = false
 size : h.size <= h'.size
theorem QE.refl (S : Nat -> Bool) (h : zZ) : QE S h h S := ⟨fun _ _ a b => ⟨a, b⟩, Nat.le_refl _⟩
variable {h1 h2 : zZ}
theorem QE.trans {S1 S2 : Nat -> Bool} (a : QE S h h1 S1) (b : QE S1 h1 h2 S2) : QE S h h2 S2 :=
 ⟨fun k o x y => let ⟨p, q⟩ := a.keep k o x y; b.keep k o p q, Nat.le_trans a.size b.size⟩
theorem QE.le (hl : Le (mp h) (mp h')) : QE S h h' S := ⟨fun k o a b => ⟨hl k o a, b⟩, dv hl⟩
theorem QE.store (ho : ∀ k, k ≠ g -> mp h' k = mp h k) (hg : S g = true) (hs : h'.size = h.size) : QE S h h' S :=
 ⟨fun k o a b => ⟨by rw [ho k (by rintro rfl; rw [hg] at b; cases b)]; exact a, b⟩, by omega⟩
variable {S' : Nat -> Bool}
theorem QE.grew (hg : Yf h A h' A') (hS : ∀ k, qG A k = true -> S k = true) (hS' : ∀ k, S' k = true -> S k = true \/ qG A' k = true) : QE S h h' S' := by
 refine ⟨fun k o a b => ?_, hg.size⟩;have hlt := vy a
 have hA : qG A k = false := by
  cases hi : qG A k with
  | false => rfl
  | true => rw [hS k hi] at b; cases b
 have hne : some k ≠ jO A := by intro e; simp [qG, <- e] at hA
 refine ⟨by rw [hg.other k hlt hne]; exact a, ?_⟩;cases hs : S' k with
 | false => rfl
 | true =>
   exfalso
   rcases hS' k hs with h1 | h1
   ·rw [h1] at b; cases b
   ·simp only [qG, beq_iff_eq] at h1;rcases hg.at_ with e | e
    ·rw [e] at h1; exact hne h1.symm
    ·rw [e] at h1; injection h1 with h1; omega
theorem QE.view (hc : QE S h h' S') : Le (Zz (mp h) S) (Zz (mp h') S') := fun b o hb => by
 obtain ⟨h1, h2⟩ := Zy hb;obtain ⟨h3, h4⟩ := hc.keep b o h1 h2;exact UN h3 h4
theorem QE.sub {T : Nat -> Bool} (hc : QE S h h' S') (hT : ∀ k, S k = true -> T k = true) : QE T h h' S' :=
 ⟨fun k o a b => hc.keep k o a (by cases hs : S k with | false => rfl | true => rw [hT k hs] at b; cases b), hc.size⟩
theorem Own.of_eq (h : Own m e sz A n c xs) (he : ∀ k, qG A k = true -> m' k = m k) : Own m' e sz A n c xs := by
 obtain ⟨h1, h0, h2⟩ := h;refine ⟨h1, h0, ?_⟩;rcases h2 with h2 | ⟨g, o, cur, rfl, b, r⟩
 ·exact .inl h2
 ·exact .inr ⟨g, o, cur, rfl, by rw [he g (by simp [qG, jO])]; exact b, r⟩
variable {E : Oa}
theorem Own.grew (he : Own (mp h) e sz E n c xs) (hg : Yf h A h' A') (hd : ∀ k, qG E k = true -> qG A k = false) : Own (mp h') e sz E n c xs :=
 he.of_eq fun k hk => hg.other k (he.lt hk) (by intro e; have := hd k hk; simp [qG, <- e] at this)
theorem Own.stored (he : Own (mp h) e sz E n c xs) (hl : ∀ k, k ≠ g -> mp h' k = mp h k) (hb : mp h g = some (.cells cs t fr)) (hne : e ≠ t) : Own (mp h') e sz E n c xs :=
 he.of_eq fun k hk => hl k (by intro e; rw [e, he.apart hb hne] at hk; exact Bool.noConfusion hk)
def vD (p : Prop) : Prop := p
variable {p : Prop}
theorem vD.mk (h : p) : vD p := h
theorem vD.out (h : vD p) : p := h
theorem Yf.fresh {a : Addr} (hg : Yf h1 (some a) h2 A') (hl : Le (mp h) (mp h1)) (hb : mp h b = none) (ha : a.block = b) : Le (mp h) (mp h2) /\ ∀ k o, mp h k = some o -> qG A' k = false := by
 subst ha;have key : ∀ k o, mp h k = some o -> k ≠ a.block /\ mp h1 k = some o := fun k o hk => ⟨MJ hk hb, hl k o hk⟩;refine ⟨fun k o hk => ?_, fun k o hk => ?_⟩
 ·obtain ⟨h3, h4⟩ := key k o hk;rw [hg.other k (vy h4) (by simp [jO]; exact h3)];exact h4
 ·obtain ⟨h3, h4⟩ := key k o hk;have hlt := vy h4;cases hi : qG A' k with
  | false => rfl
  | true =>
    exfalso
    simp only [qG, beq_iff_eq] at hi;rcases hg.at_ with e | e
    ·rw [e] at hi; simp [jO] at hi; exact h3 hi.symm
    ·rw [e] at hi; injection hi with hi; omega
theorem Yf.nil (hg : Yf h none h2 A') : Le (mp h) (mp h2) /\ ∀ k o, mp h k = some o -> qG A' k = false := by
 refine ⟨fun k o hk => by rw [hg.other k (vy hk) (by simp [jO])]; exact hk, fun k o hk => ?_⟩;have hlt := vy hk;cases hi : qG A' k with
 | false => rfl
 | true =>
   exfalso
   simp only [qG, beq_iff_eq] at hi;rcases hg.at_ with e | e
   ·rw [e] at hi; cases hi
   ·rw [e] at hi; injection hi with hi; omega
def wO (P : Program) (t : TypeId) : Option (Nat × Nat × Nat × Lv) := match P.underlying t with
 | some (.slice e) => match P.info? e with
   | some i => i.zero.map fun z => (e, i.size, i.bytes, z.cells.toList)
   | none => none
 | _ => none
theorem ug {P : Program} {xn : Nat} {z : Lv} (h : wO P t = some (e, sz, xn, z)) :
  ∃ i zv, P.underlying t = some (.slice e) /\ P.info? e = some i /\ i.zero = some zv /\ i.size = sz /\ i.bytes = xn /\ zv.cells = z.toArray := by
 unfold wO at h
 split at h
 ·rename_i e' he
  split at h
  ·rename_i i hi
   cases hz : i.zero with
   | none => rw [hz] at h; cases h
   | some zv =>
     rw [hz] at h;simp only [Option.map_some, Option.some.injEq, Prod.mk.injEq] at h;obtain ⟨rfl, h2, h3, h4⟩ := h;exact ⟨i, zv, he, hi, hz, h2, h3, by rw [<- h4]⟩
  ·cases h
 ·cases h
section
variable {P : Program} {n : Nat} {env : Env} {h : zZ} {Q : yd} {K : Env -> zZ -> Prop} {dst : Option Tmp} {d : Nat} {ty : TypeId} {pos : String} {aft : Array Edge} {gd : Option (Nat × Bool)}
variable {t : TypeId} {x y : Operand}
theorem eG {u : Value} (h : uI u = true) : u.oneCell' = true := (Zh h).2
variable {A : Oa} {c e : Nat}
theorem cf {w : World} {c' : Nat} {i : TypeInfo} (hu : P.underlying t = some (.slice e)) (hi : P.info? e = some i) (hn : n <= c) (hA : A = none -> c = 0) :
  (Builtin.append_ #[t, t] ty #[.slice A n c, .slice none 0 c']).run P w = .ok (.slice A n c) w := by
 cases A with
 | none =>
   have := hA rfl;subst this;have : n = 0 := by omega
   subst this
   simp [Builtin.append_, run_underlying hu, sizeOf, typeInfo, hi, Builtin.lenOf, Builtin.firstCells]
 | some a => simp [Builtin.append_, run_underlying hu, sizeOf, typeInfo, hi, Builtin.lenOf, Builtin.firstCells, hn, storeCells]
theorem step_of_run' {o : Oper} (hd : o.dst = some d) (hn : Nat.blt d n = true) (hr : ∀ (x : Fx) (dr : Nat) (a : Act), kj n x env a -> ∃ v h' dr', (execOp a.eval o).run P (W x h dr) = .ok (.value v) (W x h' dr') /\ K ((d, v) :: env) h') : qM P n Q o env h K := by
 intro x dr a hag;obtain ⟨v, h', dr', h1, h2⟩ := hr x dr a hag;unfold Oper.wp;rw [h1, Oper.upon_value, hd];exact ⟨_, h', dr', hag.put d v (by simpa [Nat.blt_eq] using hn), rfl, h2⟩
theorem Ga {h' : zZ} {A' : Oa} (hat : jO A' = jO A \/ jO A' = some h.size) (hsz : h.size <= h'.size) (ho : ∀ k, k < h.size -> some k ≠ jO A -> mp h' k = mp h k) : Yf h A h' A' := by
 refine ⟨fun b o hb => ?_, hat, hsz, ho⟩;obtain ⟨hb0, hS⟩ := Zy hb;have hlt := vy hb0
 have hne : some b ≠ jO A := by
  intro e
  simp [qG, <- e] at hS
 refine UN (by rw [ho b hlt hne]; exact hb0) ?_;cases hi : qG A' b with
 | false => rfl
 | true =>
   exfalso
   simp only [qG, beq_iff_eq] at hi;rcases hat with e | e
   ·rw [e] at hi; exact hne hi.symm
   ·rw [e] at hi; injection hi with hi; omega
theorem aU (fx : Fx) (h : zZ) (dr g : Nat) (cs : Array Value) : ∃ h', (W fx h dr).setRow g cs = W fx h' dr /\ h'.size = h.size /\ (∀ k, k ≠ g -> mp h' k = mp h k) := by
 refine ⟨((W fx h dr).setRow g cs).heap, rfl, by simp [World.setRow, W], fun k hk => ?_⟩;exact setRow_other (W fx h dr) g k cs hk
variable {xn k sz : Nat} {xs z : Lv}
theorem OL {A A2 : Oa} {m c2 : Nat} {news : Lv} (hs : wO P t = some (e, sz, xn, z)) (hsz : Nat.blt 0 sz = true) (hzl : z.length = sz) (hx : ev env x = some (.slice A k c)) (hy : ev env y = some (.slice A2 m c2)) (hown : Own (mp h) e sz A k c xs) (hr : Rd (mp h) A2 news) (hl : news.length = m * sz) (h1 : ∀ u ∈ news, uI u = true) (hm : k + m <= maxLen) (hb : (k + m) * xn <= 140737488355328) (hn : Nat.blt d n = true) (hk : ∀ A' c' h', Own (mp h') e sz A' (k + m) c' (xs ++ news) -> Yf h A h' A' -> K ((d, .slice A' (k + m) c') :: env) h') :
  qM P n Q ⟨some d, .call ⟨.builtin .append, #[x, y], #[t, t]⟩, ty, pos, aft, gd⟩ env h K := by
 refine step_of_run' rfl hn fun fx dr a ha => ?_;obtain ⟨i, zv, hu, hi, hz, hsi, hby, hzc⟩ := ug hs;have hsz' : 0 < sz := by simpa [Nat.blt_eq] using hsz
 have hexec : ∀ r w', (Builtin.append_ #[t, t] ty #[.slice A k c, .slice A2 m c2]).run P (W fx h dr) = .ok r w' ->
   (execOp a.eval ⟨some d, .call ⟨.builtin .append, #[x, y], #[t, t]⟩, ty, pos, aft, gd⟩).run P (W fx h dr) = .ok (.value r) w' := by
  intro r w' hrun;simp only [execOp, resolve, invoke, builtin, List.map_toArray, List.map_cons, List.map_nil, ha.eval hx, ha.eval hy, Sem.run_bind, Sem.run_pure, Result.andThen_ok, hrun]
 cases A2 with
 | none =>
   have hnews : news = [] := by
    cases news with
    | nil => rfl
    | cons u r => have := (hr 0 u (by simp)).1; cases this
   subst hnews
   have hm0 : m = 0 := by
    have h0 : m * sz = 0 := by simpa using hl.symm
    rcases Nat.mul_eq_zero.1 h0 with h0 | h0
    ·exact h0
    ·omega
   subst hm0;have hrun := cf (P := P) (t := t) (ty := ty) (w := W fx h dr) (c' := c2) (A := A) hu hi hown.le hown.none_cap;refine ⟨_, h, dr, hexec _ _ hrun, ?_⟩;exact hk A c h (by simpa using hown) ⟨Le.refl _, .inl rfl, Nat.le_refl _, fun _ _ _ => rfl⟩
 | some ad =>
   have hnews : ∀ j u, news[j]? = some u -> (W fx h dr).cell? (ad.add j) = some u := fun j u hj => (hr j u hj).2;have hlen : (xs ++ news).length = (k + m) * sz := by rw [List.length_append, hown.1, hl, Nat.add_mul]
   have hsmall : k + m <= 9223372036854775807 := by simp only [maxLen] at hm; omega
   subst hsi
   -- what the growing arm leaves
   have grown : ∀ (old : Nat) (dr' : Nat), old < k + m -> ∃ A' c' h', (some (⟨h.size, 0, none⟩ : Addr)) = A' /\ grownCap (W fx h dr) (k + m) old e = c' /\
     ((W fx h dr).drew.alloc (.cells (xs.toArray ++ news.toArray ++ Builtin.zeroCells zv.cells (grownCap (W fx h dr) (k + m) old e - (k + m))) e)) = W fx h' (dr + 1) /\
     Own (mp h') e i.size A' (k + m) c' (xs ++ news) /\ Yf h A h' A' := by
    intro old _ ho;have hge := grownCap_ge (W fx h dr) (k + m) old e;have hcm : grownCap (W fx h dr) (k + m) old e <= maxLen := grownCap_le_maxLen (W fx h dr) (k + m) old e hm;refine ⟨_, _, h.push _, rfl, rfl, rfl, ⟨hlen, hge, .inr ⟨h.size, 0, _, rfl, xc h _, hcm, ?_, ?_⟩⟩, Ga (.inr rfl) (by simp) fun j hj _ => ?_⟩
    ·simp only [Array.size_append, List.size_toArray, size_zeroCells, hzc, hzl, hown.1, hl, <- Nat.add_mul, Nat.zero_add]
     apply Nat.le_of_eq
     congr 1
     omega
    ·simp only [Array.toList_append, List.append_assoc, List.drop_zero];rw [<- List.append_assoc, <- hlen];exact List.take_left
    ·unfold mp; rw [Array.getElem?_push, if_neg (by omega)]
   obtain ⟨hxl, hkc, ⟨rfl, rfl⟩ | ⟨g, o, cur, rfl, hg, hcm, hcs, htake⟩⟩ := hown
   ·have hk0 : k = 0 := by omega
    subst hk0;have hx : xs = [] := List.eq_nil_of_length_eq_zero (by simpa using hxl);subst hx;by_cases hm0 : m = 0
    ·subst hm0;have hn : news = [] := List.eq_nil_of_length_eq_zero (by simpa using hl);subst hn;refine ⟨.slice none 0 0, h, dr, hexec _ _ ?_, hk none 0 h (Own.nil _ _ _) ⟨Le.refl _, .inl rfl, Nat.le_refl _, fun _ _ _ => rfl⟩⟩
     simp [Builtin.append_, run_underlying hu, sizeOf, typeInfo, hi, Builtin.lenOf, Builtin.firstCells, loadCells, loadCellsFrom]
    ·have hrun := run_append_nil (P := P) (W fx h dr) t ty e i zv hu hi hz ad m c2 news hl hnews (by omega) (by omega) (by rw [<- hby] at hb; simp only [Nat.zero_add] at hb; omega);obtain ⟨A', c', h', rfl, rfl, hw, h5, h6⟩ := grown 0 0 (by omega);simp only [Nat.zero_add, List.nil_append, Array.empty_append] at hw h5;refine ⟨_, h', dr + 1, ?_, hk _ _ h' (by simpa using h5) h6⟩;rw [<- hw]
     simp only [Nat.zero_add];exact hexec _ _ hrun
   ·by_cases hroom : k + m <= c
    ·have hfit : (o + k * i.size) + news.length <= cur.size := by
      rw [hl];have : (k + m) * i.size <= c * i.size := Nat.mul_le_mul_right _ hroom;rw [Nat.add_mul] at this;omega
     have hf := run_firstCells_some (P := P) (W fx h dr) i.size m ad m c2 news hl hnews;have hst := run_storeCells_at P g (o + k * i.size) e news 0 cur (W fx h dr) hg (by simpa using hfit) (fun u hu => eG (h1 u hu));simp only [Nat.add_zero] at hst
     have hrun : (Builtin.append_ #[t, t] ty #[.slice (some ⟨g, o, none⟩) k c, .slice (some ad) m c2]).run P (W fx h dr) =
       .ok (.slice (some ⟨g, o, none⟩) (k + m) c) ((W fx h dr).setRow g (cur.toList.take (o + k * i.size) ++ news ++ cur.toList.drop (o + k * i.size + news.length)).toArray) := by
      simp [Builtin.append_, run_underlying hu, sizeOf, typeInfo, hi, Builtin.lenOf, hroom, hf, Addr.add_lit, hst]
     obtain ⟨h', hw, hsz2, hoth⟩ := aU fx h dr g (cur.toList.take (o + k * i.size) ++ news ++ cur.toList.drop (o + k * i.size + news.length)).toArray
     have hg' : mp h' g = some (.cells (cur.toList.take (o + k * i.size) ++ news ++ cur.toList.drop (o + k * i.size + news.length)).toArray e (0, 0)) := by
      have := setRow_heap (W fx h dr) g cur (cur.toList.take (o + k * i.size) ++ news ++ cur.toList.drop (o + k * i.size + news.length)).toArray e (0, 0) hg;rw [hw] at this;exact this
     rw [hw] at hrun;refine ⟨_, h', dr, hexec _ _ hrun, hk _ _ h' ⟨hlen, hroom, .inr ⟨g, o, _, rfl, hg', hcm, ?_, ?_⟩⟩ (Ga (.inl rfl) (by omega) fun j hj hne => hoth j (fun e => hne (by subst e; rfl)))⟩
     ·simp only [List.size_toArray, List.length_append, List.length_take, List.length_drop, Array.length_toList];omega
     ·have e1 : (cur.toList.take (o + k * i.size)).drop o = xs := by
       rw [List.drop_take];have : o + k * i.size - o = k * i.size := by omega
       rw [this];exact htake
      simp only [List.append_assoc];rw [List.drop_append_of_le_length (by rw [List.length_take, Array.length_toList]; omega), e1, <- List.append_assoc, <- hlen];exact List.take_left
    ·have holds : ∀ j u, xs[j]? = some u -> (W fx h dr).cell? ((⟨g, o, none⟩ : Addr).add j) = some u := by
      intro j u hj;rw [<- htake, List.getElem?_take] at hj
      split at hj
      ·rw [w9, Zo];simp only [mc];have hg2 : mp (W fx h dr).heap g = some (.cells cur e (0, 0)) := hg;rw [hg2];rw [List.getElem?_drop] at hj
       simpa using hj
      ·cases hj
     have hrun := run_append_grow (P := P) (W fx h dr) t ty e i zv hu hi hz ⟨g, o, none⟩ k c xs hxl holds ad m c2 news hl hnews (by omega) (by omega) (growslice_fits (by omega) (by rw [hby]; exact hb));obtain ⟨A', c', h', rfl, rfl, hw, h5, h6⟩ := grown c 0 (by omega);refine ⟨_, h', dr + 1, ?_, hk _ _ h' h5 h6⟩;rw [<- hw];exact hexec _ _ hrun
theorem Kk {i : Nat} {v : Value} (ht : kK P t = true) (hx : ev env x = some (.pointer (some ((sa A).add i)))) (hy : ev env y = some v) (hv : uI v = true) (ho : Own (mp h) e 1 A k c xs) (hi : i < k) (hk : ∀ h', Own (mp h') e 1 A k c (xs.set i v) -> (∀ j, qG A j = false -> mp h' j = mp h j) -> h'.size = h.size -> K env h') : qM P n Q ⟨none, .store t x y, ty, pos, aft, gd⟩ env h K := by
 have hrd := ho.rd;obtain ⟨hxl, hkc, ⟨rfl, rfl⟩ | ⟨g, o, cur, rfl, hg, hcm, hcs, htake⟩⟩ := ho
 ·omega
 have hl : i < xs.length := by omega
 have hc := hrd.at_ (List.getElem?_eq_getElem hl);have hsa : (sa (some (⟨g, o, none⟩ : Addr))).add i = ⟨g, o + i, none⟩ := by show (⟨g, o, none⟩ : Addr).add i = _; rw [Addr.add_lit]
 rw [hsa] at hx hc;have hg' : mp h g = some (.cells cur.toList.toArray e (0, 0)) := by simpa using hg
 refine X4 ht hx hy hv hc (by simp [P0, hg]) (hk _ ⟨by simpa using hxl, hkc, .inr ⟨g, o, _, rfl, cH h v hg', hcm, by simpa using hcs, ?_⟩⟩ (fun j hj => je h _ v (by rintro rfl; simp [qG, jO] at hj)) (by simp [jg]));rw [<- htake];simp only [List.drop_set, Nat.mul_one, Nat.add_sub_cancel_left]
 split
 ·omega
 ·rw [List.take_set]
def jc (z : Lv) (k : Nat) : Lv := (List.range k).map fun i => z.toArray[i % z.length]!
theorem ay {len : Nat} {cs : Lv} {parts : List (Nat × Operand)} {ps : List (Nat × Value)} (hs : wO P t = some (e, sz, xn, z)) (hx : evp env parts = some ps) (hsmall : Nat.ble (len * sz) 16777216 = true) (hf : fillS sz (jc (if len * sz = 0 then [] else z) (len * sz)) ps = some cs) (hn : Nat.blt d n = true) (hk : ∀ b h', mp h b = none -> mp h' b = some (.cells cs.toArray e (0, 0)) -> Le (mp h) (mp h') -> K ((d, .slice (some ⟨b, 0, none⟩) len len) :: env) h') :
  qM P n Q ⟨some d, .buildSlice t len parts.toArray, ty, pos, aft, gd⟩ env h K := by
 refine vh rfl hn fun fx dr a ha => ⟨h.push (.cells cs.toArray e), dr, ?_, hk h.size _ (u6 h) (xc h _) (vT h _)⟩;obtain ⟨i, zv, hu, hi, hz, hsi, hby, hzc⟩ := ug hs;have hsm : ¬ len * sz > 16777216 := by have := Nat.le_of_ble_eq_true hsmall; omega
 have h1 := ZH ha.toAg hx;have h2 := kF hf;have hsz : (sizeOf e).run P (W fx h dr) = .ok sz (W fx h dr) := by simp [sizeOf, typeInfo, hi, hsi]
 have hzv : (zeroValue e).run P (W fx h dr) = .ok zv (W fx h dr) := by simp [zeroValue, typeInfo, hi, hz]
 simp only [execOp, h1, Instr.buildSlice, Sem.run_bind, run_underlying hu, Result.andThen_ok, hsz];have hlit : (2 : Nat) ^ 24 = 16777216 := by decide
 rw [hlit, if_neg hsm];by_cases h0 : len * sz = 0
 ·rw [if_pos h0] at h2
  have h3 : (Array.range (len * sz)).map (fun i => (#[] : Array Value)[i % (#[] : Array Value).size]!) = (jc [] (len * sz)).toArray := by
   rw [h0]; simp [jc]
  rw [if_pos h0];simp only [Sem.run_bind, Sem.run_pure, Result.andThen_ok];rw [h3, h2]
  simp [newRow]
  exact ⟨rfl, rfl⟩
 ·rw [if_neg h0] at h2
  have h3 : (Array.range (len * sz)).map (fun i => zv.cells[i % zv.cells.size]!) = (jc z (len * sz)).toArray := by
   rw [hzc]
   apply Array.ext'
   simp [jc]
  rw [if_neg h0];simp only [Sem.run_bind, hzv, Sem.run_pure, Result.andThen_ok];rw [h3, h2]
  simp [newRow]
  exact ⟨rfl, rfl⟩
def z7 (P : Program) (f : FuncId) : Bool := match P.funcs[f]? with
 | some fn => fn.body.isSome && !(fn.name == "runtime.NumGoroutine")
 | none => false
variable {f : FuncId}
theorem wi (h : z7 P f = true) (args : Array Value) (w : World) : (callFunc f args).run P w = .ok (.enter f args) w := by
 unfold z7 at h
 split at h
 ·rename_i fn hf
  simp only [Bool.and_eq_true, Bool.not_eq_true'] at h;obtain ⟨h1, h2⟩ := h;have h1' : fn.body ≠ none := by cases hb : fn.body <;> simp_all
  have h2' : fn.name ≠ "runtime.NumGoroutine" := by simpa using h2
  simp [callFunc, hf, h1', h2']
 ·cases h
variable {R : Value -> zZ -> Prop} {args : List Operand} {ats : Array TypeId} {vs : Lv}
theorem yG (hcl : z7 P f = true) (hx : evs env args = some vs) (hc : C P f vs.toArray h R) (hn : Nat.blt d n = true) (hk : ∀ v h', R v h' -> K ((d, v) :: env) h') : qM P n Q ⟨some d, .call ⟨.value (.func f), args.toArray, ats⟩, ty, pos, aft, gd⟩ env h K := by
 intro fx dr a ha;have h1 := qv ha.toAg hx
 have h2 : (execOp a.eval ⟨some d, .call ⟨.value (.func f), args.toArray, ats⟩, ty, pos, aft, gd⟩).run P (W fx h dr) = .ok (.enter f vs.toArray) (W fx h dr) := by
  simp only [execOp, resolve, h1, Act.eval, Deferred.ofValue, Sem.run_bind, Sem.run_pure, Result.andThen_ok, invoke, Array.empty_append, Array.append_empty];exact wi hcl _ _
 unfold Oper.wp;rw [h2, Oper.upon_enter];refine (hc fx dr).mono ?_;rintro e w' ⟨v, h', d', rfl, rfl, hr⟩;exact ⟨_, h', d', ha.put d v (by simpa [Nat.blt_eq] using hn), rfl, hk v h' hr⟩
theorem vF {fv : Operand} {p q : Lv} (hcl : z7 P f = true) (hf : ev env fv = some (.func (.func f) p.toArray q.toArray)) (hx : evs env args = some vs) (hc : C P f ((p ++ vs) ++ q).toArray h R) (hn : Nat.blt d n = true) (hk : ∀ v h', R v h' -> K ((d, v) :: env) h') : qM P n Q ⟨some d, .call ⟨.value fv, args.toArray, ats⟩, ty, pos, aft, gd⟩ env h K := by
 intro fx dr a ha;have h1 := qv ha.toAg hx
 have h2 : (execOp a.eval ⟨some d, .call ⟨.value fv, args.toArray, ats⟩, ty, pos, aft, gd⟩).run P (W fx h dr) = .ok (.enter f ((p ++ vs) ++ q).toArray) (W fx h dr) := by
  simp only [execOp, resolve, h1, ha.eval hf, Deferred.ofValue, Sem.run_bind, Sem.run_pure, Result.andThen_ok, invoke, List.append_toArray];exact wi hcl _ _
 unfold Oper.wp;rw [h2, Oper.upon_enter];refine (hc fx dr).mono ?_;rintro e w' ⟨v, h', d', rfl, rfl, hr⟩;exact ⟨_, h', d', ha.put d v (by simpa [Nat.blt_eq] using hn), rfl, hk v h' hr⟩
end
def WK : Lv -> Nat -> Env
 | [], _ => []
 | v :: r, i => (i, v) :: WK r (i + 1)
theorem fC : ∀ (l : Lv) (i t : Nat), lk (WK l i) t = if i <= t then l[t - i]? else none
 | [], i, t => by simp [WK, lk]
 | v :: r, i, t => by
   unfold WK;by_cases h : i = t
   ·subst h; rw [gK]; simp
   ·rw [aW _ _ _ _ h, fC r (i + 1) t];by_cases h1 : i <= t
    ·rw [if_pos h1, if_pos (by omega), show t - i = (t - (i + 1)) + 1 by omega]
     simp
    ·rw [if_neg h1, if_neg (by omega)]
def DY (env : Env) : List Nat -> Option Lv
 | [] => some []
 | t :: r => match lk env t with
   | none => none
   | some v => match DY env r with
     | none => none
     | some vs => some (v :: vs)
def VG : Lv -> Value
 | [v] => v
 | vs => .tuple vs.toArray
def L8 (env : Env) (rs : List Nat) : Option Value := match DY env rs with
 | none => none
 | some vs => some (VG vs)
variable {a : Act} {env : Env} {n : Nat}
theorem MY (ha : Ag n env a) : ∀ {l : List Nat} {vs : Lv}, DY env l = some vs -> l.map (fun t => a.tmps.getD t undef) = vs
 | [], vs, h => by simp [DY] at h; simp [<- h]
 | t :: r, vs, h => by
   unfold DY at h
   split at h
   ·cases h
   ·rename_i v hv
    split at h
    ·cases h
    ·rename_i ws hws
     have ih := MY ha hws
     injection h with h
     subst h;have := ha.at_ t v hv;rw [List.map_cons, ih]
     simp [this]
def CQ (rs : List Nat) (R : Value -> zZ -> Prop) : yd
 | .normal, env, h => ∃ v, L8 env rs = some v /\ R v h
 | .ret, env, h => ∃ v, L8 env rs = some v /\ R v h
 | _, _, _ => False
variable {P : Program} {fn : Func} {rs : List Nat}
theorem bH (hrs : fn.results = (rs.map ResultVar.tmp).toArray) (tmps : Array Value) (w : World) :
  (results fn tmps).run P w = .ok (VG (rs.map fun t => tmps.getD t undef)) w := by
 have key : ∀ (f : ResultVar -> Sem Value), (∀ t, f (.tmp t) = pure (tmps.getD t undef)) -> ∀ l : List Nat, ((l.map ResultVar.tmp).mapM f).run P w = .ok (l.map fun t => tmps.getD t undef) w := by
  intro f hf l
  induction l with
  | nil => simp
  | cons t r ih => rw [List.map_cons, List.mapM_cons]; simp only [hf, Sem.run_bind, Sem.run_pure, Result.andThen_ok, ih]; rfl
 unfold results;rw [hrs, List.mapM_toArray];simp only [Sem.run_bind, Sem.run_map];rw [key _ (fun t => rfl)]
 match rs with
 | [] => rfl
 | [t] => rfl
 | t :: u :: r => simp [VG]
variable {v : Value}
theorem KF (hrs : fn.results = (rs.map ResultVar.tmp).toArray) (ha : Ag n env a) (hv : L8 env rs = some v) (w : World) :
  (results fn a.tmps).run P w = .ok v w := by
 rw [bH hrs];unfold L8 at hv
 split at hv
 ·cases hv
 ·rename_i vs hvs
  rw [MY ha hvs]
  injection hv with hv
  rw [hv]
variable {R : Value -> zZ -> Prop} {h : zZ}
theorem bw {f : FuncId} {c : Code} {l : Lv} (rs : List Nat) (hf : P.funcs[f]? = some fn) (hb : fn.body = some c) (hrs : fn.results = (rs.map ResultVar.tmp).toArray) (hl : Nat.ble l.length fn.ntmps = true) (ht : T P fn.ntmps c (WK l 0) h (CQ rs R)) : C P f l.toArray h R := by
 intro x d;have hl' : l.length <= fn.ntmps := Nat.le_of_ble_eq_true hl;refine calls_of_wp hf hb (wp_mono (ht ⟨x.tape, x.os, x.out, []⟩ d _ ⟨⟨?_, ?_⟩, rfl⟩) ?_)
 ·simp; omega
 ·intro t v hv;rw [fC] at hv;simp only [Nat.zero_le, if_true, Nat.sub_zero] at hv;have hlt : t < l.length := (List.getElem?_eq_some_iff.1 hv).1;simp only [List.size_toArray];rw [Array.getElem?_append_left (by simpa using hlt)]
  simpa using hv
 ·rintro e a w' ⟨env, h', d', hag, rfl, hq⟩;cases e with
  | normal =>
    obtain ⟨v, h1, h2⟩ := hq;exact ⟨hag.defers, v, KF hrs hag.toAg h1 _, v, h', d', rfl, rfl, h2⟩
  | ret =>
    obtain ⟨v, h1, h2⟩ := hq;exact ⟨hag.defers, v, KF hrs hag.toAg h1 _, v, h', d', rfl, rfl, h2⟩
  | exit i => exact hq
  | goto l => exact hq
  | panic c => exact hq.elim
  | outgrown => exact hq.elim
theorem z6 {t : Nat} (h1 : lk env t = some v) (h2 : R v h) : CQ [t] R .ret env h := ⟨v, by simp [L8, DY, h1, VG], h2⟩
variable {o : Oper} {p : Prop}
theorem dt [Decidable p] (hr : zP P n o env (.bool (decide p))) (hp : p) : zP P n o env (.bool true) := by rwa [decide_eq_true hp] at hr
theorem df [Decidable p] (hr : zP P n o env (.bool (decide p))) (hp : ¬ p) : zP P n o env (.bool false) := by rwa [decide_eq_false hp] at hr
theorem SF {d : Nat} {Q : yd} {l0 l : List Oper} [Decidable p] (hr : zP P n o env (.bool (decide p))) (hd : o.dst = some d) (hn : Nat.blt d n = true) (hw : wanted l0 env o = some true) (h1 : p -> V P n l0 l ((d, .bool true) :: env) h Q) (h2 : ¬ p -> V P n l0 l ((d, .bool false) :: env) h Q) : V P n l0 (o :: l) env h Q := by
 by_cases hp : p
 ·rw [decide_eq_true hp] at hr; exact zc hr hd hn hw (h1 hp)
 ·rw [decide_eq_false hp] at hr; exact zc hr hd hn hw (h2 hp)
end Go.Eng
namespace Go.Eng
open Go.ChangeShapes Go.WideShapes Go.ChangeAt Go.RowKit
theorem N4 {P : Program} {f : FuncId} {args : Array Value} {w : World} {r : Value} (hc : C P f args w.heap fun v h' => v = r /\ Le (mp w.heap) (mp h')) :
  Calls P f args w fun e w' => e = .returned r /\ Below w.heap.size w w' := by
 refine (hc ⟨w.tape, w.os, w.output, []⟩ w.drawn).mono ?_;rintro e w' ⟨v, h', d', rfl, rfl, rfl, hl⟩;refine ⟨rfl, rfl, rfl, rfl, dv hl, fun k hk => ?_⟩;have h1 : mp w.heap k = some w.heap[k] := by simp [mp, hk]
 have h2 := hl k _ h1;have h3 : w.heap[k]? = some w.heap[k] := h1;rw [h3];exact h2
section
variable {H : Type} {enc : TypeId × Value -> H} {P : Program} {w : World} {base : Nat} {spare : Nat -> Bool} {held : Bool}
end
end Go.Eng
namespace Go.Eng
open Go.ChangeShapes Go.WideShapes Go.ChangeAt Go.RowKit
section
variable {P : Program} {n : Nat} {env : Env} {h : zZ} {Q : yd} {dst : Option Tmp} {d : Nat} {ty : TypeId} {pos : String} {aft : Array Edge} {gd : Option (Nat × Bool)}
variable {t yt : TypeId} {x y : Operand} {k : IntKind} {a b c : Int} {p q : Bool}
theorem DM (ht : u7 P t = true) (hx : ev env x = some (.bool p)) (hy : ev env y = some (.bool q)) : zP P n ⟨dst, .binOp .eql t x y yt, ty, pos, aft, gd⟩ env (.bool (p == q)) := by
 intro a w ha
 have e : (Op.equal t (.bool p) (.bool q)).run P w = .ok (p == q) w := by
  unfold u7 at ht;have hu : P.underlying t = some .bool := by split at ht <;> simp_all
  show (Op.equalIn (9999 + 1) t (.bool p) (.bool q)).run P w = _;rw [Op.equalIn]
  simp [run_underlying hu]
 simp [execOp, ha.eval hx, ha.eval hy, eqGuard_at_bool, binOp, e]
theorem OD (ht : u7 P t = true) (hx : ev env x = some (.bool p)) (hy : ev env y = some (.bool q)) : zP P n ⟨dst, .binOp .neq t x y yt, ty, pos, aft, gd⟩ env (.bool (p != q)) := by
 intro a w ha
 have e : (Op.equal t (.bool p) (.bool q)).run P w = .ok (p == q) w := by
  unfold u7 at ht;have hu : P.underlying t = some .bool := by split at ht <;> simp_all
  show (Op.equalIn (9999 + 1) t (.bool p) (.bool q)).run P w = _;rw [Op.equalIn]
  simp [run_underlying hu]
 simp [execOp, ha.eval hx, ha.eval hy, eqGuard_at_bool, binOp, e, bne]
theorem pv {o : Oper} {r : Bool} (hr : zP P n o env (.bool p)) (e : p = r) : zP P n o env (.bool r) := e ▸ hr
theorem Fl {α : Type} {a b : Code} (S : α -> Env) (H : α -> zZ -> Prop) (h1 : T P n a env h (dY S H (fun _ => 0) 1 Q)) (h2 : ∀ y h, H y h -> T P n b (S y) h Q) : T P n a env h (xJ P n b Q) := by
 refine gW h1 ?_;intro e env' h' hq;cases e with
 | normal =>
   obtain ⟨y, hs, hH, _⟩ := hq;exact Z8 (S y) hs (h2 y h' hH)
 | exit i => exact hq
 | goto l => exact hq
 | ret => exact hq
 | panic c => exact hq
 | outgrown => exact hq
end
section
variable {H : Type} {enc : TypeId × Value -> H} {P : Program} {w : World} {base : Nat} {spare : Nat -> Bool} {held : Bool}
variable {e fuel t : Nat} {x : DataW H × List MemPlace}
theorem WB {len cap : Nat} {k : IntKind} {a : Oa} (ht : P.underlying t = some (.slice e)) (he : P.underlying e = some (.int k)) (hc : P.cellsOf e = 1) (h : DataW.trod enc P w base spare held fuel t [.slice a len cap] = some x) : ∃ zs : List Int, Rd (mp w.heap) a (zs.map (.int k ·)) /\ zs.length = len /\ len <= cap /\ cap <= maxLen /\ ∀ z ∈ zs, (Lit.int k z).wf = true := by
 rcases open_ints ht he hc h with ⟨hcs, _⟩ | ⟨y, l, c, zs, hcs, _, hl, hm, hz, _, hcell, hwz⟩
 ·simp at hcs
  obtain ⟨rfl, rfl, rfl⟩ := hcs;exact ⟨[], Rd.nil _ _, rfl, Nat.le_refl _, Nat.zero_le _, fun z hz => by cases hz⟩
 ·simp only [List.cons.injEq, Value.slice.injEq, and_true] at hcs;obtain ⟨rfl, rfl, rfl⟩ := hcs
  have hxl : len <= zs.length := by
   split at hz <;> omega
  refine ⟨zs.take len, fun i u hi => ⟨rfl, ?_⟩, by simp; omega, hl, hm, fun z hz => hwz z (List.mem_of_mem_take hz)⟩;rw [List.getElem?_map, List.getElem?_take] at hi
  split at hi
  ·rename_i hlt
   have hi2 : i < zs.length := by omega
   rw [List.getElem?_eq_getElem hi2] at hi;simp only [Option.map_some, Option.some.injEq] at hi;subst hi;have := hcell i hi2;rw [w9] at this;have hsa : sa (some y) = y := rfl;rw [hsa]
   simpa [hi2] using this
  ·cases hi
theorem eu {v : Value} (ht : P.underlying t = some (.slice e)) (h : DataW.trod enc P w base spare held fuel t [v] = some x) : ∃ a l c, v = .slice a l c := by
 rcases Deep.open_slice ht h with ⟨hcs, _⟩ | ⟨y, l, c, m, n, D, Pl, hcs, _⟩
 ·simp at hcs; exact ⟨none, 0, 0, hcs⟩
 ·simp at hcs; exact ⟨some y, l, c, hcs⟩
end
end Go.Eng
namespace Go.Eng
def At (m : Mp) (a : Addr) (l : Lv) : Prop := ∀ i u, l[i]? = some u -> mc m (a.add i) = some u
variable {a : Addr} {l : Lv} {m m' : Mp}
theorem At.mono (h : At m a l) (hl : Le m m') : At m' a l := fun i u hi => yA hl (h i u hi)
theorem At.sub (h : At m a l) (o k : Nat) : At m (a.add o) ((l.drop o).take k) := fun i u hi => by
 rw [List.getElem?_take] at hi
 split at hi
 ·rw [List.getElem?_drop] at hi;rw [fF];exact h _ u hi
 ·cases hi
variable {o : Nat}
theorem At.at_ (h : At m a l) {v : Value} (hv : qZ l o = some v) : mc m (a.add o) = some v := h o v (by rw [vS]; exact hv)
variable {b : Nat} {fr : Nat × Nat} {t : TypeId}
theorem At.blk (hb : m b = some (.cells l.toArray t fr)) : At m ⟨b, 0, none⟩ l := fun i u hi => by
 rw [Zo]
 simp [mc, hb, hi]
theorem At.blkO {k : Nat} (hb : m b = some (.cells l.toArray t fr)) : At m ⟨b, o, none⟩ ((l.drop o).take k) := by
 have := (At.blk hb).sub o k;rwa [Addr.add_lit, Nat.zero_add] at this
theorem Rd.elem {A : Oa} {vs : Lv} (h : Rd m A vs) (o k : Nat) : At m ((sa A).add o) ((vs.drop o).take k) := fun i u hi => by
 rw [List.getElem?_take] at hi
 split at hi
 ·rw [List.getElem?_drop] at hi;rw [fF];exact (h _ u hi).2
 ·cases hi
theorem Le.stored {h h1 h2 : zZ} (hl : Le (mp h) (mp h1)) (hn : mp h b = none) (ho : ∀ j, j ≠ b -> mp h2 j = mp h1 j) : Le (mp h) (mp h2) := fun k o hk => by
 rw [ho k (MJ hk hn)];exact hl k o hk
theorem Le.none (hl : Le m m') (hn : m' b = none) : m b = none := by
 cases hb : m b with
 | none => rfl
 | some o => rw [hl _ _ hb] at hn; cases hn
def yi (P : Program) (t : TypeId) : Option (Nat × TypeId × Nat) := match P.underlying t with
 | some (.array n e) => (P.info? e).map fun i => (n, e, i.size)
 | _ => none
theorem xX {P : Program} {t n e sz : Nat} (h : yi P t = some (n, e, sz)) : P.underlying t = some (.array n e) /\ ∀ w, (sizeOf e).run P w = .ok sz w := by
 unfold yi at h
 split at h
 ·rename_i n' e' hu
  cases hi : P.info? e' with
  | none => rw [hi] at h; cases h
  | some i =>
    rw [hi] at h;simp only [Option.map_some, Option.some.injEq, Prod.mk.injEq] at h;obtain ⟨rfl, rfl, rfl⟩ := h;exact ⟨hu, fun w => by simp [sizeOf, typeInfo, hi]⟩
 ·cases h
section
variable {P : Program} {n : Nat} {env : Env} {h : zZ} {Q : yd} {K : Env -> zZ -> Prop} {dst : Option Tmp} {d : Nat} {ty : TypeId} {pos : String} {aft : Array Edge} {gd : Option (Nat × Bool)}
variable {t yt e sz n0 : Nat} {x y : Operand} {k : IntKind}
theorem xa {parts : List (Nat × Operand)} {ps : List (Nat × Value)} {z cs : Lv} (ha : yi P t = some (n0, e, sz)) (hz : yB P t = some z) (hx : evp env parts = some ps) (hf : fillS sz z ps = some cs) :
  zP P n ⟨dst, .build t parts.toArray, ty, pos, aft, gd⟩ env (.agg cs.toArray) := by
 intro a w hag;obtain ⟨zv, hz1, hz2⟩ := kk hz w;obtain ⟨hu, hs⟩ := xX ha;have h1 := ZH hag hx;have h2 := kF hf;simp only [execOp, h1, Instr.build, Sem.run_bind, hz1, Result.andThen_ok, run_underlying hu, hs, hz2, h2]
 simp
variable {i : Int} {l : Lv}
theorem yF {v : Value} (ha : yi P t = some (n0, e, sz)) (hs : single P e = true) (hx : ev env x = some (.agg l.toArray)) (hy : ev env y = some (.int k i)) (h0 : 0 <= i) (h1 : i < n0) (hv : qZ l (i.toNat * sz) = some v) : zP P n ⟨dst, .index t x y, ty, pos, aft, gd⟩ env v := by
 intro a w hag;obtain ⟨hu, hsz⟩ := xX ha;rw [<- vS] at hv
 simp [execOp, Instr.index, hag.eval hx, hag.eval hy, asIntOf, run_underlying hu, h0, h1, hsz, part, vj hs, hv]
theorem Qz (ha : yi P t = some (n0, e, sz)) (hs : xb P e = some sz) (hx : ev env x = some (.agg l.toArray)) (hy : ev env y = some (.int k i)) (h0 : 0 <= i) (h1 : i < n0) :
  zP P n ⟨dst, .index t x y, ty, pos, aft, gd⟩ env (.agg ((l.drop (i.toNat * sz)).take sz).toArray) := by
 intro a w hag;obtain ⟨hu, hsz⟩ := xX ha;obtain ⟨hag2, _⟩ := wF hs
 simp [execOp, Instr.index, hag.eval hx, hag.eval hy, asIntOf, run_underlying hu, h0, h1, hsz, part, hag2]
variable {a : Addr}
theorem zQ (ha : yi P t = some (n0, e, sz)) (hx : ev env x = some (.pointer (some a))) (hy : ev env y = some (.int k i)) (h0 : 0 <= i) (h1 : i < n0) :
  zP P n ⟨dst, .indexAddr t x y, ty, pos, aft, gd⟩ env (.pointer (some (a.add (i.toNat * sz)))) := by
 intro act w hag;obtain ⟨hu, hsz⟩ := xX ha
 simp [execOp, Instr.indexAt, hag.eval hx, hag.eval hy, asIntOf, run_underlying hu, h0, h1, hsz, Instr.sureAddr]
variable {q : Nat}
theorem zI (ht : xb P t = some q) (hx : ev env x = some (.pointer (some a))) (hl : l.length = q) (hc : At (mp h) a l) :
  xM P n ⟨dst, .load t x, ty, pos, aft, gd⟩ env h (.agg l.toArray) := HV ht hx hl hc
theorem yK {b : Nat} {vs : Lv} {e : TypeId} (ht : xb P t = some q) (hx : ev env x = some (.pointer (some ⟨b, 0, none⟩))) (hy : ev env y = some (.agg vs.toArray)) (hq : Nat.beq vs.length q = true) (hb : mp h b = some (.cells l.toArray e (0, 0))) (hl : Nat.beq l.length q = true) (h1 : vs.all uI = true) (hk : ∀ h', mp h' b = some (.cells vs.toArray e (0, 0)) -> (∀ j, j ≠ b -> mp h' j = mp h j) -> h'.size = h.size -> K env h') : qM P n Q ⟨none, .store t x y, ty, pos, aft, gd⟩ env h K :=
 qE rfl fun fx dr act ha => by
  have hq' := Nat.eq_of_beq_eq_true hq;have hl' := Nat.eq_of_beq_eq_true hl;obtain ⟨_, i, hi, hsi⟩ := wF ht;have hst := run_storeCells_at P b 0 e vs 0 l.toArray (W fx h dr) hb (by simp; omega) (fun v hv => eG (by rw [List.all_eq_true] at h1; exact h1 v hv))
  obtain ⟨h', hw, hsz2, hoth⟩ := aU fx h dr b (l.toArray.toList.take (0 + 0) ++ vs ++ l.toArray.toList.drop (0 + 0 + vs.length)).toArray;have hg' := setRow_heap (W fx h dr) b l.toArray (l.toArray.toList.take (0 + 0) ++ vs ++ l.toArray.toList.drop (0 + 0 + vs.length)).toArray e (0, 0) hb;rw [hw] at hg' hst;refine ⟨h', dr, ?_, hk h' ?_ hoth hsz2⟩
  ·have hc : (Value.agg vs.toArray).cells = vs.toArray := rfl;simp only [execOp, Instr.storeAt, ha.eval hx, ha.eval hy, Instr.sureAddr, storeVar, hc]
   simp [sizeOf, typeInfo, hi, hsi, hq', hst]
  ·have : (l.toArray.toList.take (0 + 0) ++ vs ++ l.toArray.toList.drop (0 + 0 + vs.length)).toArray = vs.toArray := by
    simp
    omega
   rw [this] at hg';exact hg'
end
def RvOk (P : Program) (env : Env) (h : zZ) : ResultVar -> Value -> Prop
 | .tmp t, v => lk env t = some v
 | .cell a t, v => ∃ ad, lk env a = some (.pointer (some ad)) /\ ((single P t = true /\ mc (mp h) ad = some v) \/ ∃ l, xb P t = some l.length /\ At (mp h) ad l /\ v = .agg l.toArray)
def gY (P : Program) (env : Env) (h : zZ) : List ResultVar -> Lv -> Prop
 | [], [] => True
 | r :: rs, v :: vs => RvOk P env h r v /\ gY P env h rs vs
 | _, _ => False
def Q2 (P : Program) (rs : List ResultVar) (R : Value -> zZ -> Prop) : yd
 | .normal, env, h => ∃ vs, gY P env h rs vs /\ R (VG vs) h
 | .ret, env, h => ∃ vs, gY P env h rs vs /\ R (VG vs) h
 | _, _, _ => False
variable {P : Program} {a : Act} {env : Env} {h : zZ} {n : Nat}
theorem gY.run {fx : Fx} {dr : Nat} (ha : Ag n env a) (f : ResultVar -> Sem Value) (hf1 : ∀ t, f (.tmp t) = pure (a.tmps.getD t undef)) (hf2 : ∀ c t, f (.cell c t) = (do loadVar t (<- asAddr (a.tmps.getD c undef)))) : ∀ {rs : List ResultVar} {vs : Lv}, gY P env h rs vs -> (rs.mapM f).run P (W fx h dr) = .ok vs (W fx h dr)
 | [], [], _ => by simp
 | r :: rs, v :: vs, hr => by
   obtain ⟨h1, h2⟩ := hr;have ih := gY.run (fx := fx) (dr := dr) ha f hf1 hf2 h2
   have h3 : (f r).run P (W fx h dr) = .ok v (W fx h dr) := by
    cases r with
    | tmp t =>
      have := ha.at_ t v h1;rw [hf1]
      simp [this]
    | cell c t =>
      obtain ⟨ad, h4, h5⟩ := h1;have h6 := ha.at_ c _ h4;rw [hf2];have h7 : a.tmps.getD c undef = .pointer (some ad) := by simp [h6]
      rw [h7];rcases h5 with ⟨h8, h9⟩ | ⟨l, h8, h9, rfl⟩
      ·have h10 : (W fx h dr).cell? ad = some v := by rw [w9]; exact h9
       simp [asAddr, loadVar, vj h8, h10]
      ·obtain ⟨g1, i, hi, hs⟩ := wF h8;have g2 : (loadCells ad l.length).run P (W fx h dr) = .ok l.toArray (W fx h dr) := run_loadCells_list (W fx h dr) ad l fun j v hj => by rw [w9]; exact h9 j v hj
       simp [asAddr, loadVar, g1, sizeOf, typeInfo, hi, hs, g2]
   rw [List.mapM_cons];simp only [Sem.run_bind, h3, Result.andThen_ok, ih, Sem.run_pure]
variable {fn : Func}
theorem gY.results {rs : List ResultVar} {fx : Fx} {dr : Nat} {vs : Lv} (hrs : fn.results = rs.toArray) (ha : Ag n env a) (hv : gY P env h rs vs) :
  (results fn a.tmps).run P (W fx h dr) = .ok (VG vs) (W fx h dr) := by
 unfold Go.results;rw [hrs, List.mapM_toArray];simp only [Sem.run_bind, Sem.run_map];rw [gY.run (fx := fx) (dr := dr) ha _ (fun t => rfl) (fun c t => rfl) hv]
 match vs with
 | [] => rfl
 | [t] => rfl
 | t :: u :: r => simp [VG]
variable {R : Value -> zZ -> Prop} {l : Lv}
theorem OO {f : FuncId} {c : Code} (rs : List ResultVar) (hf : P.funcs[f]? = some fn) (hb : fn.body = some c) (hrs : fn.results = rs.toArray) (hl : Nat.ble l.length fn.ntmps = true) (ht : T P fn.ntmps c (WK l 0) h (Q2 P rs R)) : C P f l.toArray h R := by
 intro x d;have hl' : l.length <= fn.ntmps := Nat.le_of_ble_eq_true hl;refine calls_of_wp hf hb (wp_mono (ht ⟨x.tape, x.os, x.out, []⟩ d _ ⟨⟨?_, ?_⟩, rfl⟩) ?_)
 ·simp; omega
 ·intro t v hv;rw [fC] at hv;simp only [Nat.zero_le, if_true, Nat.sub_zero] at hv;have hlt : t < l.length := (List.getElem?_eq_some_iff.1 hv).1;simp only [List.size_toArray];rw [Array.getElem?_append_left (by simpa using hlt)]
  simpa using hv
 ·rintro e a w' ⟨env, h', d', hag, rfl, hq⟩;cases e with
  | normal =>
    obtain ⟨vs, h1, h2⟩ := hq;exact ⟨hag.defers, _, h1.results hrs hag.toAg, _, h', d', rfl, rfl, h2⟩
  | ret =>
    obtain ⟨vs, h1, h2⟩ := hq;exact ⟨hag.defers, _, h1.results hrs hag.toAg, _, h', d', rfl, rfl, h2⟩
  | exit i => exact hq
  | goto l => exact hq
  | panic c => exact hq.elim
  | outgrown => exact hq.elim
theorem gB {a t b : Nat} {e : TypeId} {fr : Nat × Nat} (h1 : lk env a = some (.pointer (some ⟨b, 0, none⟩))) (h2 : mp h b = some (.cells l.toArray e fr)) (h3 : xb P t = some l.length) (hR : R (.agg l.toArray) h) : Q2 P [.cell a t] R .ret env h := ⟨[.agg l.toArray], ⟨⟨_, h1, .inr ⟨l, h3, At.blk h2, rfl⟩⟩, trivial⟩, hR⟩
def Bz : List IntKind -> List Int -> Lv
 | k :: ks, a :: as => .int k a :: Bz ks as
 | _, _ => []
section
variable {P : Program} {n : Nat} {env : Env} {dst : Option Tmp} {ty : TypeId} {pos : String} {aft : Array Edge} {gd : Option (Nat × Bool)} {t yt : Nat} {x y : Operand} {ks : List IntKind} {as bs : List Int}
end
end Go.Eng
namespace Go.Eng
open Go.ChangeShapes Go.WideShapes Go.ChangeAt Go.RowKit
def fld (P : Program) (t i : Nat) : Option (TypeId × Nat) := match P.underlying t with
 | some (.struct fs) => (fs[i]?).map fun f => (f.type, f.offset)
 | _ => none
def kr (P : Program) (t e : Nat) : Bool := match P.underlying t with
 | some (.slice e') => Nat.beq e' e
 | _ => false
variable {P : Program} {t : Nat}
theorem vi {e : Nat} (h : kr P t e = true) : P.underlying t = some (.slice e) := by
 unfold kr at h
 split at h
 ·rename_i e' he
  rw [he, Nat.eq_of_beq_eq_true h]
 ·cases h
theorem UJ {k : IntKind} (h : qu P t k = true) : P.underlying t = some (.int k) := by
 unfold qu at h
 split at h
 ·simp at h; subst h; assumption
 ·cases h
theorem Zt (h : xz P t = true) : P.underlying t = some .string := by
 unfold xz at h
 split at h <;> simp_all
theorem WA (h : u7 P t = true) : P.underlying t = some .bool := by
 unfold u7 at h
 split at h <;> simp_all
section
variable {H : Type} {enc : TypeId × Value -> H} {P : Program} {w : World} {base : Nat} {spare : Nat -> Bool} {held : Bool}
theorem xf {α : Type} {n : Nat} {p : Nat -> α -> Prop} (h : ∀ i, i < n -> ∃ x, p i x) : ∃ l : List α, l.length = n /\ ∀ (i : Nat) (hi : i < l.length), p i l[i] := by
 induction n with
 | zero => exact ⟨[], rfl, fun i hi => absurd hi (by simp)⟩
 | succ n ih =>
   obtain ⟨l, hl, hp⟩ := ih fun i hi => h i (by omega);obtain ⟨x, hx⟩ := h n (by omega);refine ⟨l ++ [x], by simp [hl], fun i hi => ?_⟩;by_cases hin : i < l.length
   ·rw [List.getElem_append_left hin]; exact hp i hin
   ·have : i = n := by simp at hi; omega
    subst this;simp only [<- hl] at hx ⊢
    simpa using hx
variable {cs : Lv} {fuel t : Nat} {x : DataW H × List MemPlace}
theorem yV {i ft off : Nat} (hf : fld P t i = some (ft, off)) (h : DataW.trod enc P w base spare held fuel t cs = some x) :
  ∃ n y, fuel = n + 1 /\ cs.length = P.cellsOf t /\ DataW.trod enc P w base spare held n ft ((cs.drop off).take (P.cellsOf ft)) = some y := by
 unfold fld at hf
 split at hf
 ·rename_i fs hu
  obtain ⟨xs, n, rfl, _, hl, hlen, hx⟩ := DataW.trod_struct hu h;cases hfi : fs[i]? with
  | none => rw [hfi] at hf; cases hf
  | some f =>
    rw [hfi] at hf;simp only [Option.map_some, Option.some.injEq, Prod.mk.injEq] at hf;obtain ⟨rfl, rfl⟩ := hf;have h1 := hx i f hfi;have hi : i < xs.length := by rw [hlen]; exact (Array.getElem?_eq_some_iff.1 hfi).1
    rw [List.getElem?_eq_getElem hi] at h1;exact ⟨n, _, rfl, hl, h1⟩
 ·cases hf
theorem wZ {k : IntKind} (ht : qu P t k = true) (h : DataW.trod enc P w base spare held fuel t cs = some x) : ∃ n, cs = [.int k n] /\ (Lit.int k n).wf = true := by
 obtain ⟨n, h1, _, h2⟩ := DataW.trod_int (UJ ht) h;exact ⟨n, h1, h2⟩
theorem QO (ht : xz P t = true) (h : DataW.trod enc P w base spare held fuel t cs = some x) : ∃ l : Bt, cs = [.string (bs l)] /\ l.length <= maxLen := by
 obtain ⟨s, h1, _, h2⟩ := DataW.trod_string (Zt ht) h;exact ⟨s.data.toList, by rw [vK]; exact h1, by rw [Array.length_toList]; exact h2⟩
theorem Sn (ht : u7 P t = true) (h : DataW.trod enc P w base spare held fuel t cs = some x) : ∃ b, cs = [.bool b] := by
 obtain ⟨b, h1, _⟩ := DataW.trod_bool (WA ht) h;exact ⟨b, h1⟩
theorem qi {e sz : Nat} (ht : kr P t e = true) (hc : P.cellsOf e = sz) (h : DataW.trod enc P w base spare held fuel t cs = some x) :
  ∃ A len cap vs n, cs = [.slice A len cap] /\ Rd (mp w.heap) A vs /\ vs.length = len * sz /\ len <= cap /\ cap <= maxLen /\ n <= fuel /\
   ∀ i, i < len -> ∃ y, DataW.trod enc P w base spare held n e ((vs.drop (i * sz)).take sz) = some y := by
 rcases DataW.trod_slice (vi ht) h with ⟨hcs, _⟩ | ⟨a, len, cap, elems, rest, n, rfl, rfl, _, _, hl, hm, hel, hx, _⟩
 ·exact ⟨none, 0, 0, [], 0, hcs, Rd.nil _ _, by simp, Nat.le_refl _, Nat.zero_le _, Nat.zero_le _, fun i hi => by omega⟩
 ·rw [hc] at hx
  have h1 : ∀ i, i < len -> ∃ l : Lv, w.cells? base (a.add (i * sz)) sz = some l /\ ∃ y, DataW.trod enc P w base spare held n e l = some y := fun i hi => by
   have h2 := hx i hi;rw [List.getElem?_eq_getElem (by omega)] at h2;obtain ⟨l, h3, h4⟩ := Option.bind_eq_some_iff.1 h2;exact ⟨l, h3, _, h4⟩
  obtain ⟨ls, hls, hp⟩ := xf h1
  have hlen : ∀ l ∈ ls, l.length = sz := fun l hl => by
   obtain ⟨i, hi, rfl⟩ := List.getElem_of_mem hl;exact (World.cells?_some (hp i hi).1).2.1
  have key : ∀ (ls : List Lv), (∀ l ∈ ls, l.length = sz) -> ls.flatten.length = ls.length * sz /\ ∀ (i j : Nat), j < sz -> ls.flatten[i * sz + j]? = (ls[i]?).bind (·[j]?) := by
   intro ls
   induction ls with
   | nil => intro _; exact ⟨by simp, fun i j _ => by simp⟩
   | cons l r ih =>
     intro hl;obtain ⟨h2, h3⟩ := ih fun x hx => hl x (List.mem_cons_of_mem _ hx);have h4 := hl l (by simp);refine ⟨by rw [List.flatten_cons, List.length_append, h2, h4, List.length_cons, Nat.add_mul]; omega, fun i j hj => ?_⟩;rw [List.flatten_cons];cases i with
     | zero => rw [List.getElem?_append_left (by omega)]; simp
     | succ i =>
       rw [List.getElem?_append_right (by rw [h4, Nat.add_mul]; omega), h4, show (i + 1) * sz + j - sz = i * sz + j by rw [Nat.add_mul]; omega, h3 i j hj]
       simp
  obtain ⟨k1, k2⟩ := key ls hlen;refine ⟨some a, len, cap, ls.flatten, n, rfl, fun q u hq => ⟨rfl, ?_⟩, by rw [k1, hls], hl, hm, Nat.le_succ _, fun i hi => ?_⟩
  ·have hq1 : q < ls.length * sz := by rw [<- k1]; exact (List.getElem?_eq_some_iff.1 hq).1
   have hsz : 0 < sz := Nat.pos_of_ne_zero (by rintro rfl; simp at hq1);have hi : q / sz < ls.length := Nat.div_lt_of_lt_mul (by rw [Nat.mul_comm]; exact hq1);have hj : q % sz < sz := Nat.mod_lt _ hsz;have hqe : q / sz * sz + q % sz = q := by rw [Nat.mul_comm]; exact Nat.div_add_mod q sz
   have h5 := k2 (q / sz) (q % sz) hj;rw [hqe, List.getElem?_eq_getElem hi] at h5;have h6 := (World.cells?_some (hp _ hi).1).2.2 _ hj;rw [hq] at h5;simp only [Option.bind_some] at h5;rw [<- h5, w9, fF, hqe] at h6;exact h6
  ·have hi' : i < ls.length := by omega
   obtain ⟨h5, y, h6⟩ := hp i hi';refine ⟨y, ?_⟩
   have : (ls.flatten.drop (i * sz)).take sz = ls[i] := by
    apply List.ext_getElem?
    intro j;rw [List.getElem?_take];have hl2 := hlen ls[i] (List.getElem_mem hi')
    split
    ·rename_i hj
     rw [List.getElem?_drop, k2 i j hj, List.getElem?_eq_getElem hi']
     rfl
    ·rename_i hj
     rw [List.getElem?_eq_none (by omega)]
   rw [this];exact h6
end
end Go.Eng
namespace Go.Eng
inductive vC where
 | mk (op n who : Int) (kids : List vC)
inductive xO where
 | mk (op who : Int) (name : Bt) (nums : List vC) (kids : List xO)
inductive xU where
 | mk (op who : Int) (n : vC) (name : Bt) (cond : xO) (thn els : List xU)
def Fs (n : Int) : Prop := -128 <= n /\ n <= 127
theorem Zx {n : Int} (h : (Lit.int .i8 n).wf = true) : Fs n := by
 simp [Lit.wf, IntKind.min, IntKind.max, IntKind.signed, IntKind.bits] at h
 unfold Fs;omega
inductive js (m : Mp) : Lv -> vC -> Prop
 | mk {op n who : Int} {kids : List vC} {A : Oa} {len c : Nat} {vs : Lv} (ho : Fs op) (hl : kids.length = len) (hm : len <= maxLen) (hr : Rd m A vs) (hv : vs.length = kids.length * 4)
   (hk : ∀ (i : Nat) (hi : i < kids.length), js m ((vs.drop (i * 4)).take 4) kids[i]) : js m [.int .i8 op, .int .i64 n, .int .i8 who, .slice A len c] (.mk op n who kids)
inductive ur (m : Mp) : Lv -> xO -> Prop
 | mk {op who : Int} {name : Bt} {nums : List vC} {kids : List xO} {A B : Oa} {la ca lb cb : Nat} {vs us : Lv} (ho : Fs op) (hw : Fs who) (hn : name.length <= maxLen) (hla : nums.length = la) (hma : la <= maxLen)
   (hra : Rd m A vs) (hva : vs.length = nums.length * 4) (hka : ∀ (i : Nat) (hi : i < nums.length), js m ((vs.drop (i * 4)).take 4) nums[i])
   (hlb : kids.length = lb) (hmb : lb <= maxLen) (hrb : Rd m B us) (hvb : us.length = kids.length * 5) (hkb : ∀ (i : Nat) (hi : i < kids.length), ur m ((us.drop (i * 5)).take 5) kids[i]) :
   ur m [.int .i8 op, .int .i8 who, .string (bs name), .slice A la ca, .slice B lb cb] (.mk op who name nums kids)
inductive vE (m : Mp) : Lv -> xU -> Prop
 | mk {op who : Int} {n : vC} {name : Bt} {cond : xO} {thn els : List xU} {ns cs : Lv} {A B : Oa} {la ca lb cb : Nat} {vs us : Lv} (ho : Fs op) (hw : Fs who) (hn : js m ns n) (hnm : name.length <= maxLen) (hc : ur m cs cond)
   (hla : thn.length = la) (hma : la <= maxLen) (hra : Rd m A vs) (hva : vs.length = thn.length * 14) (hka : ∀ (i : Nat) (hi : i < thn.length), vE m ((vs.drop (i * 14)).take 14) thn[i])
   (hlb : els.length = lb) (hmb : lb <= maxLen) (hrb : Rd m B us) (hvb : us.length = els.length * 14) (hkb : ∀ (i : Nat) (hi : i < els.length), vE m ((us.drop (i * 14)).take 14) els[i]) :
   vE m (.int .i8 op :: .int .i8 who :: (ns ++ .string (bs name) :: (cs ++ [.slice A la ca, .slice B lb cb]))) (.mk op who n name cond thn els)
variable {m m' : Mp} {vs : Lv}
theorem js.mono {x : vC} (h : js m vs x) (hl : Le m m') : js m' vs x := by
 induction h with
 | mk ho hln hm hr hv _ ih => exact .mk ho hln hm (hr.mono hl) hv ih
theorem ur.mono {x : xO} (h : ur m vs x) (hl : Le m m') : ur m' vs x := by
 induction h with
 | mk ho hw hn hla hma hra hva hka hlb hmb hrb hvb _ ih => exact .mk ho hw hn hla hma (hra.mono hl) hva (fun i hi => (hka i hi).mono hl) hlb hmb (hrb.mono hl) hvb ih
variable {x : xU}
theorem vE.mono (h : vE m vs x) (hl : Le m m') : vE m' vs x := by
 induction h with
 | mk ho hw hn hnm hc hla hma hra hva _ hlb hmb hrb hvb _ ih1 ih2 => exact .mk ho hw (hn.mono hl) hnm (hc.mono hl) hla hma (hra.mono hl) hva ih1 hlb hmb (hrb.mono hl) hvb ih2
theorem js.len {x : vC} (h : js m vs x) : vs.length = 4 := by cases h; rfl
theorem ur.len {x : xO} (h : ur m vs x) : vs.length = 5 := by cases h; rfl
theorem vE.len (h : vE m vs x) : vs.length = 14 := by
 cases h with
 | mk ho hw hn hnm hc => simp [hn.len, hc.len]
theorem js.form {x : vC} (h : js m vs x) : ∃ op n who A len c, vs = [.int .i8 op, .int .i64 n, .int .i8 who, .slice A len c] := by
 cases h; exact ⟨_, _, _, _, _, _, rfl⟩
theorem ur.form {x : xO} (h : ur m vs x) : ∃ op who name A la ca B lb cb, vs = [.int .i8 op, .int .i8 who, .string (bs name), .slice A la ca, .slice B lb cb] := by
 cases h; exact ⟨_, _, _, _, _, _, _, _, _, rfl⟩
theorem vE.form (h : vE m vs x) : ∃ op who nop nn nwho nA nlen nc name cop cwho cname cA cla cca cB clb ccb A la ca B lb cb,
  vs = [.int .i8 op, .int .i8 who, .int .i8 nop, .int .i64 nn, .int .i8 nwho, .slice nA nlen nc, .string (bs name), .int .i8 cop, .int .i8 cwho, .string (bs cname), .slice cA cla cca, .slice cB clb ccb, .slice A la ca, .slice B lb cb] := by
 cases h with
 | mk ho hw hn hnm hc =>
   obtain ⟨_, _, _, _, _, _, rfl⟩ := hn.form;obtain ⟨_, _, _, _, _, _, _, _, _, rfl⟩ := hc.form;exact ⟨_, _, _, _, _, _, _, _, _, _, _, _, _, _, _, _, _, _, _, _, _, _, _, _, rfl⟩
def jq (m : Mp) (A : Oa) (len : Nat) (l : List xU) : Prop :=
 l.length = len /\ len <= maxLen /\ ∃ vs, Rd m A vs /\ vs.length = l.length * 14 /\ ∀ (i : Nat) (hi : i < l.length), vE m ((vs.drop (i * 14)).take 14) l[i]
variable {A : Oa}
theorem jq.mono {len : Nat} {l : List xU} (h : jq m A len l) (hl : Le m m') : jq m' A len l := by
 obtain ⟨h1, h2, vs, h3, h4, h5⟩ := h;exact ⟨h1, h2, vs, h3.mono hl, h4, fun i hi => (h5 i hi).mono hl⟩
theorem vE.parts (h : vE m vs x) : ∃ op who nop nn nwho nA nlen nc name cop cwho cname cA cla cca cB clb ccb A la ca B lb cb, ∃ n cond thn els,
  vs = [.int .i8 op, .int .i8 who, .int .i8 nop, .int .i64 nn, .int .i8 nwho, .slice nA nlen nc, .string (bs name), .int .i8 cop, .int .i8 cwho, .string (bs cname), .slice cA cla cca, .slice cB clb ccb, .slice A la ca, .slice B lb cb] /\
  x = .mk op who n name cond thn els /\ Fs op /\ js m [.int .i8 nop, .int .i64 nn, .int .i8 nwho, .slice nA nlen nc] n /\ ur m [.int .i8 cop, .int .i8 cwho, .string (bs cname), .slice cA cla cca, .slice cB clb ccb] cond /\
  jq m A la thn /\ jq m B lb els := by
 cases h with
 | mk ho hw hn hnm hc hla hma hra hva hka hlb hmb hrb hvb hkb =>
   obtain ⟨_, _, _, _, _, _, rfl⟩ := hn.form;obtain ⟨_, _, _, _, _, _, _, _, _, rfl⟩ := hc.form;exact ⟨_, _, _, _, _, _, _, _, _, _, _, _, _, _, _, _, _, _, _, _, _, _, _, _, _, _, _, _, rfl, rfl, ho, hn, hc, ⟨hla, hma, _, hra, hva, hka⟩, ⟨hlb, hmb, _, hrb, hvb, hkb⟩⟩
structure yv where
 name : Bt
 unit : Bool
 cost : Int
 power : Int
 health : Int
 shield : Int
 apow : Int
 aheal : Int
 played : List xU
 dead : List xU
 dawn : List xU
 at_ : Int
def uO (m : Mp) (vs : Lv) (x : yv) : Prop :=
 ∃ A la ca B lb cb D ld cd, vs = [.string (bs x.name), .bool x.unit, .int .i64 x.cost, .int .i64 x.power, .int .i64 x.health, .int .i64 x.shield, .int .i64 x.apow, .int .i64 x.aheal, .slice A la ca, .slice B lb cb, .slice D ld cd, .int .i64 x.at_] /\
  x.name.length <= maxLen /\ jq m A la x.played /\ jq m B lb x.dead /\ jq m D ld x.dawn /\
  (Lit.int .i64 x.cost).wf = true /\ (Lit.int .i64 x.power).wf = true /\ (Lit.int .i64 x.health).wf = true /\ (Lit.int .i64 x.shield).wf = true /\ (Lit.int .i64 x.apow).wf = true /\ (Lit.int .i64 x.aheal).wf = true /\ (Lit.int .i64 x.at_).wf = true
theorem uO.mono {x : yv} (h : uO m vs x) (hl : Le m m') : uO m' vs x := by
 obtain ⟨A, la, ca, B, lb, cb, D, ld, cd, h1, h2, h3, h4, h5, h6⟩ := h;exact ⟨A, la, ca, B, lb, cb, D, ld, cd, h1, h2, h3.mono hl, h4.mono hl, h5.mono hl, h6⟩
def ue (m : Mp) (A : Oa) (len : Nat) (l : List yv) : Prop :=
 l.length = len /\ len <= maxLen /\ ∃ vs, Rd m A vs /\ vs.length = l.length * 12 /\ ∀ (i : Nat) (hi : i < l.length), uO m ((vs.drop (i * 12)).take 12) l[i]
theorem ue.mono {len : Nat} {l : List yv} (h : ue m A len l) (hl : Le m m') : ue m' A len l := by
 obtain ⟨h1, h2, vs, h3, h4, h5⟩ := h;exact ⟨h1, h2, vs, h3.mono hl, h4, fun i hi => (h5 i hi).mono hl⟩
structure OY where
 i8 : Nat
 int : Nat
 str : Nat
 num : Nat
 nums : Nat
 cond : Nat
 conds : Nat
 eff : Nat
 effs : Nat
def qw (P : Program) (t k : Nat) : Bool := Nat.beq (P.cellsOf t) k
variable {P : Program} {t : Nat}
theorem zY {k : Nat} (h : qw P t k = true) : P.cellsOf t = k := Nat.eq_of_beq_eq_true h
def ut (P : Program) (t i ft off : Nat) : Bool := match fld P t i with
 | some (a, b) => Nat.beq a ft && Nat.beq b off
 | none => false
theorem zT {i ft off : Nat} (h : ut P t i ft off = true) : fld P t i = some (ft, off) := by
 unfold ut at h
 split at h
 ·rename_i a b hf
  simp only [Bool.and_eq_true] at h;rw [hf, Nat.eq_of_beq_eq_true h.1, Nat.eq_of_beq_eq_true h.2]
 ·cases h
def OY.ok (P : Program) (y : OY) : Bool :=
 qu P y.i8 .i8 && qu P y.int .i64 && xz P y.str && qw P y.i8 1 && qw P y.int 1 && qw P y.str 1 && qw P y.nums 1 && qw P y.conds 1 && qw P y.effs 1 &&
 qw P y.num 4 && qw P y.cond 5 && qw P y.eff 14 && kr P y.nums y.num && kr P y.conds y.cond && kr P y.effs y.eff &&
 ut P y.num 0 y.i8 0 && ut P y.num 1 y.int 1 && ut P y.num 2 y.i8 2 && ut P y.num 3 y.nums 3 &&
 ut P y.cond 0 y.i8 0 && ut P y.cond 1 y.i8 1 && ut P y.cond 2 y.str 2 && ut P y.cond 3 y.nums 3 && ut P y.cond 4 y.conds 4 &&
 ut P y.eff 0 y.i8 0 && ut P y.eff 1 y.i8 1 && ut P y.eff 2 y.num 2 && ut P y.eff 3 y.str 6 && ut P y.eff 4 y.cond 7 && ut P y.eff 5 y.effs 12 && ut P y.eff 6 y.effs 13
section
variable {H : Type} {enc : TypeId × Value -> H} {P : Program} {w : World} {base : Nat} {spare : Nat -> Bool} {held : Bool} {y : OY}
theorem MG (hy : y.ok P = true) : ∀ (fuel : Nat) (cs : Lv) (x : DataW H × List MemPlace), DataW.trod enc P w base spare held fuel y.num cs = some x -> ∃ T, js (mp w.heap) cs T := by
 intro fuel
 induction fuel using Nat.strongRecOn with
 | _ fuel ih =>
   intro cs x h;simp only [OY.ok, Bool.and_eq_true] at hy;obtain ⟨⟨⟨⟨⟨⟨⟨⟨⟨⟨⟨⟨⟨⟨⟨⟨⟨⟨⟨⟨⟨⟨⟨⟨⟨⟨⟨⟨⟨⟨h1, h2⟩, h3⟩, h4⟩, h5⟩, h6⟩, h7⟩, h8⟩, h9⟩, h10⟩, h11⟩, h12⟩, h13⟩, h14⟩, h15⟩, f0⟩, f1⟩, f2⟩, f3⟩, g0⟩, g1⟩, g2⟩, g3⟩, g4⟩, e0⟩, e1⟩, e2⟩, e3⟩, e4⟩, e5⟩, e6⟩ := hy;obtain ⟨n, x0, rfl, hl, r0⟩ := yV (zT f0) h;obtain ⟨_, x1, hn1, _, r1⟩ := yV (zT f1) h
   obtain ⟨_, x2, hn2, _, r2⟩ := yV (zT f2) h;obtain ⟨n3, x3, hn3, _, r3⟩ := yV (zT f3) h;rw [zY h10] at hl;rw [zY h4] at r0 r2;rw [zY h5] at r1;rw [zY h7] at r3
   match cs, hl with
   | [c0, c1, c2, c3], _ =>
     obtain ⟨op, q0, w0⟩ := wZ h1 r0;obtain ⟨nn, q1, _⟩ := wZ h2 r1;obtain ⟨who, q2, _⟩ := wZ h1 r2;obtain ⟨A, len, cap, vs, n4, q3, hrd, hvl, hlc, hcm, hn4, hel⟩ := qi h13 (zY h10) r3
     simp at q0 q1 q2 q3
     subst q0 q1 q2 q3
     obtain ⟨kids, hkl, hk⟩ := xf (p := fun i T => js (mp w.heap) ((vs.drop (i * 4)).take 4) T) (fun i hi => by
      obtain ⟨z, hz⟩ := hel i hi
      exact ih n4 (by omega) _ _ hz)
     exact ⟨.mk op nn who kids, .mk (Zx w0) hkl (Nat.le_trans hlc hcm) hrd (by rw [hkl]; exact hvl) hk⟩
theorem RW (hy : y.ok P = true) : ∀ (fuel : Nat) (cs : Lv) (x : DataW H × List MemPlace), DataW.trod enc P w base spare held fuel y.cond cs = some x -> ∃ T, ur (mp w.heap) cs T := by
 intro fuel
 induction fuel using Nat.strongRecOn with
 | _ fuel ih =>
   intro cs x h;have hy0 := hy;simp only [OY.ok, Bool.and_eq_true] at hy;obtain ⟨⟨⟨⟨⟨⟨⟨⟨⟨⟨⟨⟨⟨⟨⟨⟨⟨⟨⟨⟨⟨⟨⟨⟨⟨⟨⟨⟨⟨⟨h1, h2⟩, h3⟩, h4⟩, h5⟩, h6⟩, h7⟩, h8⟩, h9⟩, h10⟩, h11⟩, h12⟩, h13⟩, h14⟩, h15⟩, f0⟩, f1⟩, f2⟩, f3⟩, g0⟩, g1⟩, g2⟩, g3⟩, g4⟩, e0⟩, e1⟩, e2⟩, e3⟩, e4⟩, e5⟩, e6⟩ := hy;obtain ⟨n, x0, rfl, hl, r0⟩ := yV (zT g0) h;obtain ⟨_, x1, hn1, _, r1⟩ := yV (zT g1) h
   obtain ⟨_, x2, hn2, _, r2⟩ := yV (zT g2) h;obtain ⟨n3, x3, hn3, _, r3⟩ := yV (zT g3) h;obtain ⟨n4, x4, hn4, _, r4⟩ := yV (zT g4) h;rw [zY h11] at hl;rw [zY h4] at r0 r1;rw [zY h6] at r2;rw [zY h7] at r3;rw [zY h8] at r4
   match cs, hl with
   | [c0, c1, c2, c3, c4], _ =>
     obtain ⟨op, q0, w0⟩ := wZ h1 r0;obtain ⟨who, q1, w1⟩ := wZ h1 r1;obtain ⟨name, q2, w2⟩ := QO h3 r2;obtain ⟨A, la, ca, vs, m3, q3, ha1, ha2, ha3, ha4, ha5, ha6⟩ := qi h13 (zY h10) r3;obtain ⟨B, lb, cb, us, m4, q4, hb1, hb2, hb3, hb4, hb5, hb6⟩ := qi h14 (zY h11) r4
     simp at q0 q1 q2 q3 q4
     subst q0 q1 q2 q3 q4
     obtain ⟨nums, hkl, hk⟩ := xf (p := fun i T => js (mp w.heap) ((vs.drop (i * 4)).take 4) T) (fun i hi => by
      obtain ⟨z, hz⟩ := ha6 i hi
      exact MG hy0 _ _ _ hz)
     obtain ⟨kids, hkl', hk'⟩ := xf (p := fun i T => ur (mp w.heap) ((us.drop (i * 5)).take 5) T) (fun i hi => by
      obtain ⟨z, hz⟩ := hb6 i hi
      exact ih m4 (by omega) _ _ hz)
     exact ⟨.mk op who name nums kids, .mk (Zx w0) (Zx w1) w2 hkl (Nat.le_trans ha3 ha4) ha1 (by rw [hkl]; exact ha2) hk hkl' (Nat.le_trans hb3 hb4) hb1 (by rw [hkl']; exact hb2) hk'⟩
theorem ET (hy : y.ok P = true) : ∀ (fuel : Nat) (cs : Lv) (x : DataW H × List MemPlace), DataW.trod enc P w base spare held fuel y.eff cs = some x -> ∃ T, vE (mp w.heap) cs T := by
 intro fuel
 induction fuel using Nat.strongRecOn with
 | _ fuel ih =>
   intro cs x h;have hy0 := hy;simp only [OY.ok, Bool.and_eq_true] at hy;obtain ⟨⟨⟨⟨⟨⟨⟨⟨⟨⟨⟨⟨⟨⟨⟨⟨⟨⟨⟨⟨⟨⟨⟨⟨⟨⟨⟨⟨⟨⟨h1, h2⟩, h3⟩, h4⟩, h5⟩, h6⟩, h7⟩, h8⟩, h9⟩, h10⟩, h11⟩, h12⟩, h13⟩, h14⟩, h15⟩, f0⟩, f1⟩, f2⟩, f3⟩, g0⟩, g1⟩, g2⟩, g3⟩, g4⟩, e0⟩, e1⟩, e2⟩, e3⟩, e4⟩, e5⟩, e6⟩ := hy;obtain ⟨n, x0, rfl, hl, r0⟩ := yV (zT e0) h;obtain ⟨_, x1, hn1, _, r1⟩ := yV (zT e1) h
   obtain ⟨_, x2, hn2, _, r2⟩ := yV (zT e2) h;obtain ⟨_, x3, hn3, _, r3⟩ := yV (zT e3) h;obtain ⟨_, x4, hn4, _, r4⟩ := yV (zT e4) h;obtain ⟨n5, x5, hn5, _, r5⟩ := yV (zT e5) h;obtain ⟨n6, x6, hn6, _, r6⟩ := yV (zT e6) h;rw [zY h12] at hl;rw [zY h4] at r0 r1;rw [zY h6] at r3;rw [zY h10] at r2
   rw [zY h11] at r4;rw [zY h9] at r5 r6
   match cs, hl with
   | [c0, c1, d0, d1, d2, d3, c3, k0, k1, k2, k3, k4, c5, c6], _ =>
     obtain ⟨op, q0, w0⟩ := wZ h1 r0;obtain ⟨who, q1, w1⟩ := wZ h1 r1;obtain ⟨nt, hnt⟩ := MG hy0 _ _ _ r2;obtain ⟨name, q3, w3⟩ := QO h3 r3;obtain ⟨ct, hct⟩ := RW hy0 _ _ _ r4;obtain ⟨A, la, ca, vs, m3, q5, ha1, ha2, ha3, ha4, ha5, ha6⟩ := qi h15 (zY h12) r5;obtain ⟨B, lb, cb, us, m4, q6, hb1, hb2, hb3, hb4, hb5, hb6⟩ := qi h15 (zY h12) r6
     simp at q0 q1 q3 q5 q6
     subst q0 q1 q3 q5 q6
     obtain ⟨thn, hkl, hk⟩ := xf (p := fun i T => vE (mp w.heap) ((vs.drop (i * 14)).take 14) T) (fun i hi => by
      obtain ⟨z, hz⟩ := ha6 i hi
      exact ih m3 (by omega) _ _ hz)
     obtain ⟨els, hkl', hk'⟩ := xf (p := fun i T => vE (mp w.heap) ((us.drop (i * 14)).take 14) T) (fun i hi => by
      obtain ⟨z, hz⟩ := hb6 i hi
      exact ih m4 (by omega) _ _ hz)
     exact ⟨.mk op who nt name ct thn els, .mk (ns := [d0, d1, d2, d3]) (cs := [k0, k1, k2, k3, k4]) (Zx w0) (Zx w1) hnt w3 hct hkl (Nat.le_trans ha3 ha4) ha1 (by rw [hkl]; exact ha2) hk hkl' (Nat.le_trans hb3 hb4) hb1 (by rw [hkl']; exact hb2) hk'⟩
theorem WL (hy : y.ok P = true) {fuel len cap : Nat} {A : Oa} {x : DataW H × List MemPlace} (h : DataW.trod enc P w base spare held fuel y.effs [.slice A len cap] = some x) : ∃ l, jq (mp w.heap) A len l /\ len <= cap /\ cap <= maxLen := by
 have hy0 := hy;simp only [OY.ok, Bool.and_eq_true] at hy;obtain ⟨⟨⟨⟨⟨⟨⟨⟨⟨⟨⟨⟨⟨⟨⟨⟨⟨⟨⟨⟨⟨⟨⟨⟨⟨⟨⟨⟨⟨⟨h1, h2⟩, h3⟩, h4⟩, h5⟩, h6⟩, h7⟩, h8⟩, h9⟩, h10⟩, h11⟩, h12⟩, h13⟩, h14⟩, h15⟩, f0⟩, f1⟩, f2⟩, f3⟩, g0⟩, g1⟩, g2⟩, g3⟩, g4⟩, e0⟩, e1⟩, e2⟩, e3⟩, e4⟩, e5⟩, e6⟩ := hy;obtain ⟨A', la, ca, vs, m3, q5, ha1, ha2, ha3, ha4, ha5, ha6⟩ := qi h15 (zY h12) h
 simp at q5
 obtain ⟨rfl, rfl, rfl⟩ := q5
 obtain ⟨l, hkl, hk⟩ := xf (p := fun i T => vE (mp w.heap) ((vs.drop (i * 14)).take 14) T) (fun i hi => by
  obtain ⟨z, hz⟩ := ha6 i hi
  exact ET hy0 _ _ _ hz)
 exact ⟨l, ⟨hkl, Nat.le_trans ha3 ha4, vs, ha1, by rw [hkl]; exact ha2, hk⟩, ha3, ha4⟩
end
end Go.Eng
namespace Go.Eng
inductive OT where
 | done
 | step (i : Nat) (k : Kd) (t : OT)
 | fork (s t : OT)
def dL : OT -> Nat -> Bool
 | .done, _ => false
 | .step i k t, j => (Nat.beq i j && k.isWild) || dL t j
 | .fork s t, j => dL s j || dL t j
def uS : OT -> List Nat
 | .done => []
 | .step i _ _ => [i]
 | .fork s t => uS s ++ uS t
def go (l : List Oper) (wild : Nat -> Bool) : OT -> Bool -> Nat -> Array Bool -> Bool
 | .done, b, n, listed => !b && Nat.beq n 0 && (Region.ready .any l.toArray listed).isEmpty
 | .step i k t, b, n, listed => match n with
   | 0 => false
   | m + 1 =>
     (match nth l i with
      | none => false
      | some o => if k.quiet then !b && (Region.ready .any l.toArray listed).contains i && RB l wild listed i o k.isPure else b || Region.ready .any l.toArray listed == [i]) &&
     go l wild t false m (listed.setIfInBounds i true)
 | .fork s t, b, n, listed => (b || (!(Region.ready .any l.toArray listed).isEmpty && (Region.ready .any l.toArray listed).all (uS s ++ uS t).contains)) && go l wild s true n listed && go l wild t true n listed
def aG (P : Program) (l : List Oper) (wild : Nat -> Bool) (Q : Exit -> Act -> World -> Prop) : OT -> Act -> World -> Prop
 | .done, a, w => Q .normal a w
 | .step i k t, a, w =>
   if k.quiet then ∃ o v, nth l i = some o /\ Yl P l.toArray k.isPure o v a w /\ aG P l wild Q t (a.put o.dst v) w
   else opE P l.toArray wild Q i (aG P l wild Q t) a w
 | .fork s t, a, w => aG P l wild Q s a w /\ aG P l wild Q t a w
theorem W2 {P : Program} {l : List Oper} {wild : Nat -> Bool} {Q : Exit -> Act -> World -> Prop} (hsel : bK l = true)
  (hQ : ∀ c a a' w, a'.tmps.size = a.tmps.size -> a'.defers = a.defers -> Q (.panic c) a' w -> Q (.panic c) a w) :
  ∀ (t : OT) (n : Nat) (listed : Array Bool) (a : Act) (w : World), aG P l wild Q t a w ->
   (go l wild t false n listed = true -> W5 P l.toArray wild Q n listed a w) /\
   (go l wild t true n listed = true -> uS t ≠ [] /\ 0 < n /\ ∀ i ∈ uS t, opE P l.toArray wild Q i (W5 P l.toArray wild Q (n - 1) (listed.setIfInBounds i true)) a w) := by
 intro t
 induction t with
 | done =>
   intro n listed a w hs;refine ⟨fun hc => ?_, fun hc => by simp [go] at hc⟩;simp only [go, Bool.not_false, Bool.true_and, Bool.and_eq_true, List.isEmpty_iff] at hc;have hn := Nat.eq_of_beq_eq_true hc.1;subst hn;exact ⟨hc.2, hs⟩
 | step i k t ih =>
   intro n listed a w hs;cases n with
   | zero => exact ⟨fun hc => by simp [go] at hc, fun hc => by simp [go] at hc⟩
   | succ m =>
     unfold aG at hs;cases hk : k.quiet with
     | true =>
       rw [if_pos hk] at hs;obtain ⟨o, v, ho, hy, hs⟩ := hs;refine ⟨fun hc => ?_, fun hc => ?_⟩
       ·unfold go at hc;rw [Bool.and_eq_true] at hc;obtain ⟨hc, hc'⟩ := hc;rw [ho] at hc;simp only [hk, if_true, Bool.not_false, Bool.true_and, Bool.and_eq_true] at hc;obtain ⟨hr, hf⟩ := hc;have hi : l.toArray[i]? = some o := by rw [qr]; exact ho
        unfold RB at hf;rw [Bool.and_eq_true] at hf;obtain ⟨hf, hf2⟩ := hf;refine Z3 rfl hi (eH hsel) (fun c a w h => hQ c a _ w ?_ ?_ h) m listed a w ?_ ?_ (by simpa using hr) hy ((ih m _ _ _ hs).1 hc')
        ·cases o.dst <;> simp [Act.put]
        ·cases o.dst <;> simp [Act.put]
        ·intro j oj hj hji hun hno;rw [List.all_eq_true] at hf
         have hlt : j < l.length := by
          have := (Array.getElem?_eq_some_iff.1 hj).1
          simpa using this
         have := hf j (List.mem_range.2 hlt);rw [qr] at hj;rw [hj] at this
         have hno' : (vG l i).contains j = false := by
          cases hcn : (vG l i).contains j with
          | false => rfl
          | true => exact absurd (List.contains_iff_mem.1 hcn) hno
         simp only [hun, hno', beq_eq_false_iff_ne.2 hji, Bool.false_or, Bool.and_eq_true] at this;exact ⟨this.1, by cases hw : wild j <;> simp [hw] at this ⊢ <;> simp [this]⟩
        ·intro k hk hmem;rw [List.all_eq_true] at hf2;have := hf2 k hmem;rw [hk] at this;cases this
       ·unfold go at hc;rw [Bool.and_eq_true] at hc;rw [ho] at hc
        simp [hk] at hc
     | false =>
       rw [if_neg (by rw [hk]; simp)] at hs
       have hb : ∀ b, go l wild (.step i k t) b (m + 1) listed = true -> opE P l.toArray wild Q i (W5 P l.toArray wild Q m (listed.setIfInBounds i true)) a w := fun b hc => by
        unfold go at hc;rw [Bool.and_eq_true] at hc;exact Zg (fun a w hs => (ih m _ a w hs).1 hc.2) hs
       refine ⟨fun hc => ?_, fun hc => ⟨by simp [uS], Nat.succ_pos _, fun j hj => ?_⟩⟩
       ·have hrd : Region.ready .any l.toArray listed = [i] := by
         unfold go at hc;rw [Bool.and_eq_true] at hc;have hc1 := hc.1
         split at hc1
         ·cases hc1
         ·simp only [hk, Bool.false_eq_true, if_false, Bool.false_or] at hc1
          simpa using hc1
        refine ⟨(fun h => by rw [hrd] at h; cases h), fun j hj => ?_⟩;rw [hrd] at hj;have : j = i := by simpa using hj
        subst this;exact hb _ hc
       ·have : j = i := by simpa [uS] using hj
        subst this;exact hb _ hc
 | fork s t ih1 ih2 =>
   intro n listed a w hs;unfold aG at hs
   have key : ∀ b, go l wild (.fork s t) b n listed = true -> uS (.fork s t) ≠ [] /\ 0 < n /\ ∀ i ∈ uS (.fork s t), opE P l.toArray wild Q i (W5 P l.toArray wild Q (n - 1) (listed.setIfInBounds i true)) a w := fun b hc => by
    unfold go at hc;simp only [Bool.and_eq_true] at hc;obtain ⟨h1, h0, h2⟩ := (ih1 n listed a w hs.1).2 hc.1.2;obtain ⟨_, _, h3⟩ := (ih2 n listed a w hs.2).2 hc.2;refine ⟨by simp [uS, h1], h0, fun i hi => ?_⟩;simp only [uS, List.mem_append] at hi;rcases hi with hi | hi
    ·exact h2 i hi
    ·exact h3 i hi
   refine ⟨fun hc => ?_, key true⟩;obtain ⟨k1, k2, k3⟩ := key false hc;unfold go at hc;simp only [Bool.and_eq_true, Bool.false_or] at hc;have hall := hc.1.1.2;have hne := hc.1.1.1;rw [List.all_eq_true] at hall;obtain ⟨m, rfl⟩ : ∃ m, n = m + 1 := ⟨n - 1, by omega⟩;refine ⟨fun hnil => (by rw [hnil] at hne; cases hne), fun i hi => ?_⟩;have := hall i hi;exact k3 i (by simpa [uS] using this)
def VT (P : Program) (n : Nat) (l : List Oper) (wild : Nat -> Bool) (t : OT) (env : Env) (h : zZ) (Q : yd) : Prop :=
 ∀ (x : Fx) (d : Nat) (a : Act), kj n x env a -> aG P l wild (cL n x Q) t a (W x h d)
def JS (l : List Oper) (t : OT) : Bool := bK l && go l (dL t) t false l.length (Array.replicate l.length false)
section
variable {P : Program} {n : Nat} {env : Env} {h : zZ} {Q : yd} {l : List Oper} {wild : Nat -> Bool} {t : OT} {o : Oper} {v : Value} {d i : Nat}
theorem GL {id : Nat} (t : OT) (hm : P.follows .mixedOrders = true) (hck : JS l t = true) (hQ : ∀ c env env' h, Q (.panic c) env h -> Q (.panic c) env' h)
  (hv : VT P n l (dL t) t env h Q) : T P n (.region id l.toArray true) env h Q := by
 intro x d a hag;unfold JS at hck;simp only [Bool.and_eq_true] at hck;obtain ⟨h1, h3⟩ := hck;have hs := hv x (d + 1) a hag
 have := (W2 h1 (Q := cL n x Q) (by
  rintro c a a' w hsz hdf ⟨env, h, d, hag, rfl, hq⟩
  refine ⟨[], h, d, ⟨⟨by rw [<- hsz]; exact hag.size, fun t v ht => by simp [lk] at ht⟩, by rw [<- hdf]; exact hag.defers⟩, rfl, hQ _ _ _ _ hq⟩) t l.length _ a _ hs).1 h3
 refine wp_region_any hm (jK (wild := dL t) _ _ _ _ ?_);rw [List.size_toArray];exact this
theorem W9 (hq : Q .normal env h) : VT P n l wild .done env h Q := fun _ d _ hag => ⟨env, h, d, hag, rfl, hq⟩
theorem Va {s : OT} (h1 : VT P n l wild s env h Q) (h2 : VT P n l wild t env h Q) : VT P n l wild (.fork s t) env h Q := fun x d a hag => ⟨h1 x d a hag, h2 x d a hag⟩
theorem fG (ho : nth l i = some o) (hr : zP P n o env v) (hd : o.dst = some d) (hn : Nat.blt d n = true) (hw : wanted l env o = some true) (hk : VT P n l wild t ((d, v) :: env) h Q) :
  VT P n l wild (.step i .pure t) env h Q := by
 intro x dr a hag;unfold aG;rw [if_pos (show Kd.quiet _ = true from rfl)];refine ⟨o, v, ho, .inl ⟨yM hag.toAg hw, fun w' _ => hr a w' hag⟩, ?_⟩;rw [hd];exact hk x dr _ (hag.put d v (by simpa [Nat.blt_eq] using hn))
theorem W8 (ho : nth l i = some o) (hr : xM P n o env h v) (hd : o.dst = some d) (hn : Nat.blt d n = true) (hw : wanted l env o = some true) (hk : VT P n l wild t ((d, v) :: env) h Q) :
  VT P n l wild (.step i .read t) env h Q := by
 intro x dr a hag;unfold aG;rw [if_pos (show Kd.quiet _ = true from rfl)];refine ⟨o, v, ho, .inl ⟨yM hag.toAg hw, fun w' hw' => hr a w' hag ?_⟩, ?_⟩
 ·rcases hw' with h0 | h0
  ·cases h0
  ·exact h0
 ·rw [hd];exact hk x dr _ (hag.put d v (by simpa [Nat.blt_eq] using hn))
theorem SG {k : Kd} (hq : k.quiet = true) (ho : nth l i = some o) (hw : wanted l env o = some false) (hd : o.dst = some d) (hn : Nat.blt d n = true) (hk : VT P n l wild t ((d, undef) :: env) h Q) :
  VT P n l wild (.step i k t) env h Q := by
 intro x dr a hag;unfold aG;rw [if_pos hq];refine ⟨o, undef, ho, .inr ⟨yM hag.toAg hw, rfl⟩, ?_⟩;rw [hd];exact hk x dr _ (hag.put d undef (by simpa [Nat.blt_eq] using hn))
theorem qL (ho : nth l i = some o) (hs : qM P n Q o env h fun env' h' => Le (mp h) (mp h') /\ VT P n l wild t env' h' Q) (hw : wanted l env o = some true) :
  VT P n l wild (.step i .kept t) env h Q := by
 intro x dr a hag;unfold aG;rw [if_neg (by simp [Kd.quiet])];unfold opE;rw [qr, ho];simp only;rw [if_pos (yM hag.toAg hw)];refine Oper.wp_mono ?_ (hs x dr a hag);rintro a' w' ⟨env', h', d', hag', rfl, hle, hv⟩;exact ⟨.inr hle, hv x d' a' hag'⟩
theorem dC (ho : nth l i = some o) (hwl : wild i = true) (hs : qM P n Q o env h fun env' h' => VT P n l wild t env' h' Q) (hw : wanted l env o = some true) :
  VT P n l wild (.step i .wild t) env h Q := by
 intro x dr a hag;unfold aG;rw [if_neg (by simp [Kd.quiet])];unfold opE;rw [qr, ho];simp only;rw [if_pos (yM hag.toAg hw)];refine Oper.wp_mono ?_ (hs x dr a hag);rintro a' w' ⟨env', h', d', hag', rfl, hv⟩;exact ⟨.inl hwl, hv x d' a' hag'⟩
end
end Go.Eng
namespace Go.Eng
open Go.ChangeShapes Go.WideShapes Go.ChangeAt Go.RowKit
structure D3 where
 y : OY
 bool : Nat
 card : Nat
 cards : Nat
def D3.ok (P : Program) (c : D3) : Bool :=
 c.y.ok P && (u7 P c.bool && (qw P c.bool 1 && (qw P c.card 12 && (kr P c.cards c.card &&
 (ut P c.card 0 c.y.str 0 && (ut P c.card 1 c.bool 1 && (ut P c.card 2 c.y.int 2 && (ut P c.card 3 c.y.int 3 && (ut P c.card 4 c.y.int 4 && (ut P c.card 5 c.y.int 5 && (ut P c.card 6 c.y.int 6 && (ut P c.card 7 c.y.int 7 &&
 (ut P c.card 8 c.y.effs 8 && (ut P c.card 9 c.y.effs 9 && (ut P c.card 10 c.y.effs 10 && ut P c.card 11 c.y.int 11)))))))))))))))
section
variable {H : Type} {enc : TypeId × Value -> H} {P : Program} {w : World} {base : Nat} {spare : Nat -> Bool} {held : Bool} {c : D3}
variable {fuel : Nat} {x : DataW H × List MemPlace}
theorem R3 (hy : c.ok P = true) {cs : Lv} (h : DataW.trod enc P w base spare held fuel c.card cs = some x) : ∃ T, uO (mp w.heap) cs T := by
 simp only [D3.ok, Bool.and_eq_true] at hy;obtain ⟨y0, b0, b1, k0, s0, f0, f1, f2, f3, f4, f5, f6, f7, f8, f9, f10, f11⟩ := hy;have hy0 := y0;simp only [OY.ok, Bool.and_eq_true] at y0;obtain ⟨⟨⟨⟨⟨⟨⟨⟨⟨⟨⟨⟨⟨⟨⟨⟨⟨⟨⟨⟨⟨⟨⟨⟨⟨⟨⟨⟨⟨⟨h1, h2⟩, h3⟩, h4⟩, h5⟩, h6⟩, h7⟩, h8⟩, h9⟩, _⟩, _⟩, h12⟩, _⟩, _⟩, h15⟩, _⟩, _⟩, _⟩, _⟩, _⟩, _⟩, _⟩, _⟩, _⟩, _⟩, _⟩, _⟩, _⟩, _⟩, _⟩, _⟩ := y0
 obtain ⟨n, x0, rfl, hl, r0⟩ := yV (zT f0) h;obtain ⟨_, _, _, _, r1⟩ := yV (zT f1) h;obtain ⟨_, _, _, _, r2⟩ := yV (zT f2) h;obtain ⟨_, _, _, _, r3⟩ := yV (zT f3) h;obtain ⟨_, _, _, _, r4⟩ := yV (zT f4) h;obtain ⟨_, _, _, _, r5⟩ := yV (zT f5) h;obtain ⟨_, _, _, _, r6⟩ := yV (zT f6) h
 obtain ⟨_, _, _, _, r7⟩ := yV (zT f7) h;obtain ⟨_, _, _, _, r8⟩ := yV (zT f8) h;obtain ⟨_, _, _, _, r9⟩ := yV (zT f9) h;obtain ⟨_, _, _, _, r10⟩ := yV (zT f10) h;obtain ⟨_, _, _, _, r11⟩ := yV (zT f11) h;rw [zY k0] at hl;rw [zY h6] at r0;rw [zY b1] at r1;rw [zY h5] at r2 r3 r4 r5 r6 r7 r11
 rw [zY h9] at r8 r9 r10
 match cs, hl with
 | [c0, c1, c2, c3, c4, c5, c6, c7, c8, c9, c10, c11], _ =>
   obtain ⟨name, q0, w0⟩ := QO h3 r0;obtain ⟨unit, q1⟩ := Sn b0 r1;obtain ⟨i2, q2, w2⟩ := wZ h2 r2;obtain ⟨i3, q3, w3⟩ := wZ h2 r3;obtain ⟨i4, q4, w4⟩ := wZ h2 r4;obtain ⟨i5, q5, w5⟩ := wZ h2 r5;obtain ⟨i6, q6, w6⟩ := wZ h2 r6;obtain ⟨i7, q7, w7⟩ := wZ h2 r7;obtain ⟨i11, CX, w11⟩ := wZ h2 r11;obtain ⟨A, la, ca, hA⟩ := eu (v := c8) (vi h15) r8
   obtain ⟨B, lb, cb, hB⟩ := eu (v := c9) (vi h15) r9;obtain ⟨D, ld, cd, hD⟩ := eu (v := c10) (vi h15) r10
   simp at q0 q1 q2 q3 q4 q5 q6 q7 CX
   subst q0 q1 q2 q3 q4 q5 q6 q7 CX hA hB hD;obtain ⟨e8, g8, _, _⟩ := WL hy0 r8;obtain ⟨e9, g9, _, _⟩ := WL hy0 r9;obtain ⟨e10, g10, _, _⟩ := WL hy0 r10;exact ⟨⟨name, unit, i2, i3, i4, i5, i6, i7, e8, e9, e10, i11⟩, _, _, _, _, _, _, _, _, _, rfl, w0, g8, g9, g10, w2, w3, w4, w5, w6, w7, w11⟩
theorem NY (hy : c.ok P = true) {len cap : Nat} {A : Oa} (h : DataW.trod enc P w base spare held fuel c.cards [.slice A len cap] = some x) : ∃ l, ue (mp w.heap) A len l /\ len <= cap /\ cap <= maxLen := by
 have hy0 := hy;simp only [D3.ok, Bool.and_eq_true] at hy;obtain ⟨y0, b0, b1, k0, s0, _⟩ := hy;obtain ⟨A', la, ca, vs, m3, q5, ha1, ha2, ha3, ha4, ha5, ha6⟩ := qi s0 (zY k0) h
 simp at q5
 obtain ⟨rfl, rfl, rfl⟩ := q5
 obtain ⟨l, hkl, hk⟩ := xf (p := fun i T => uO (mp w.heap) ((vs.drop (i * 12)).take 12) T) (fun i hi => by
  obtain ⟨z, hz⟩ := ha6 i hi
  exact R3 hy0 hz)
 exact ⟨l, ⟨hkl, Nat.le_trans ha3 ha4, vs, ha1, by rw [hkl]; exact ha2, hk⟩, ha3, ha4⟩
end
end Go.Eng
