/- Parts of the proof: contracts of functions of the program, and plain lemmas. No condition. -/
import Derived.Test.YtijakengkacnlaaGreatDoorEv15
import Derived.LoopN
import Derived.Scope
import Derived.Test.YtijakengkacnlaaGreatDoorEng2
set_option linter.all false
namespace Go.Ev
open Go.Eng
section
variable {P : Program} {e e' : Env}
theorem qT {o : Operand} (h : ev e o = ev e' o) (k : KV) : wk e o k = wk e' o k := by unfold wk; rw [h]
theorem uc : ∀ {os : List Operand}, (∀ x ∈ os, ev e x = ev e' x) -> ∀ k, fP e os k = fP e' os k
 | [], _, k => rfl
 | o :: os, h, k => by
   show wk e o (fun v => fP e os fun vs => k (v :: vs)) = wk e' o (fun v => fP e' os fun vs => k (v :: vs));rw [qT (h o (.head _))];exact congrArg _ (funext fun v => uc (fun x hx => h x (.tail _ hx)) _)
theorem eL : ∀ {os : List (Nat × Operand)}, (∀ x ∈ os.map (·.2), ev e x = ev e' x) -> ∀ k, UW e os k = UW e' os k
 | [], _, k => rfl
 | o :: os, h, k => by
   show wk e o.2 (fun v => UW e os fun vs => k ((o.1, v) :: vs)) = wk e' o.2 (fun v => UW e' os fun vs => k ((o.1, v) :: vs));rw [qT (h o.2 (.head _))];exact congrArg _ (funext fun v => eL (fun x hx => h x (.tail _ hx)) _)
theorem ZZ {o : Option Operand} (h : ∀ x, o = some x -> ev e x = ev e' x) (d : Nat) (k : Nat -> Rs) : bd e o d k = bd e' o d k := by
 cases o with
 | none => rfl
 | some x => show wk e x _ = wk e' x _; exact qT (h x rfl) _
variable {o : Op}
theorem gC {H : Tr AO} {k : KV} (h : ∀ x ∈ o.operands, ev e x = ev e' x) : qK P e H k o = qK P e' H k o := by
 have e1 : ∀ x, x ∈ o.operands -> ∀ k, wk e x k = wk e' x k := fun x hx => qT (h x hx);cases o
 case move x => exact e1 x (by simp [Op.operands]) _
 case assign x => exact e1 x (by simp [Op.operands]) _
 case pick c x y =>
  show Xy e k c x y = Xy e' k c x y;unfold Xy;rw [e1 c (by simp [Op.operands]), e1 x (by simp [Op.operands]), e1 y (by simp [Op.operands])]
 case build t ps =>
  show gD P e k t ps = gD P e' k t ps;unfold gD;exact eL (fun x hx => h x (by simpa [Op.operands] using hx)) _
 case load t x => exact e1 x (by simp [Op.operands]) _
 case nilCheck x => exact e1 x (by simp [Op.operands]) _
 case binOp op t x y z =>
  show Mj P e k op t x y z = Mj P e' k op t x y z;cases op <;> (first | show wz _ _ _ _ _ = wz _ _ _ _ _ | show CV _ _ _ _ _ _ _ = CV _ _ _ _ _ _ _) <;> (first | unfold wz | unfold CV) <;> rw [e1 x (by simp [Op.operands])] <;> exact congrArg _ (funext fun _ => e1 y (by simp [Op.operands]) _)
 case unOp op t x => exact e1 x (by simp [Op.operands]) _
 case convert a d x => exact e1 x (by simp [Op.operands]) _
 case sliceToArrayPointer a x => exact e1 x (by simp [Op.operands]) _
 case makeInterface t x => exact e1 x (by simp [Op.operands]) _
 case makeFunc fn as cs =>
  show Wk e k fn as cs = Wk e' k fn as cs;cases fn <;> first | rfl | skip
  show Uf e k _ as cs = Uf e' k _ as cs;unfold Uf;rw [uc (fun x hx => h x (by simp [Op.operands]; exact .inl (by simpa using hx)))];exact congrArg _ (funext fun _ => uc (fun x hx => h x (by simp [Op.operands]; exact .inr (by simpa using hx))) _)
 case slice t x lo hi mx =>
  show aM P e H k t x lo hi mx = aM P e' H k t x lo hi mx;have g1 : ∀ d k, bd e lo d k = bd e' lo d k := ZZ fun y hy => h y (by subst hy; simp [Op.operands]);have g2 : ∀ d k, bd e hi d k = bd e' hi d k := ZZ fun y hy => h y (by subst hy; simp [Op.operands]);have g3 : ∀ d k, bd e mx d k = bd e' mx d k := ZZ fun y hy => h y (by subst hy; simp [Op.operands])
  have g4 : ∀ mo, mx = some mo -> ∀ k, wk e mo k = wk e' mo k := fun mo hm => e1 mo (by subst hm; simp [Op.operands]);unfold aM O7;rw [e1 x (by simp [Op.operands])];cases mx with
  | none => simp only [g1, g2, g3]
  | some mo => simp only [g1, g2, g3, g4 mo rfl]
 case fieldAddr s x f => exact e1 x (by simp [Op.operands]) _
 case field s x f => exact e1 x (by simp [Op.operands]) _
 case indexAddr t x i =>
  show aO P e k t x i = aO P e' k t x i;unfold aO;rw [e1 x (by simp [Op.operands])];exact congrArg _ (funext fun _ => e1 i (by simp [Op.operands]) _)
 case index t x i =>
  show aN P e k t x i = aN P e' k t x i;unfold aN;rw [e1 x (by simp [Op.operands])];exact congrArg _ (funext fun _ => e1 i (by simp [Op.operands]) _)
 case lookup t x i ok =>
  show fm P e H k t x i ok = fm P e' H k t x i ok;unfold fm;rw [e1 x (by simp [Op.operands])];exact congrArg _ (funext fun _ => e1 i (by simp [Op.operands]) _)
 case typeAssert x a b ok => exact e1 x (by simp [Op.operands]) _
 case extract x i => exact e1 x (by simp [Op.operands]) _
 case call c =>
  obtain ⟨callee, args, ts⟩ := c;cases callee with
  | value f => rfl
  | invoke r m => rfl
  | builtin b => exact uc (fun x hx => h x (by simpa [Op.operands, Call.operands] using hx)) _
 all_goals rfl
theorem Uw {i : Nat} {k : AO -> Value -> Rs} (h : ∀ x ∈ o.operands, ev e x = ev e' x) : nK P e k i o = nK P e' k i o := by
 have e1 : ∀ x, x ∈ o.operands -> ∀ k, wk e x k = wk e' x k := fun x hx => qT (h x hx);cases o
 case box t x => exact e1 x (by simp [Op.operands]) _
 case buildSlice t n ps =>
  show cF P e k i t n ps = cF P e' k i t n ps;unfold cF
  congr 1
  funext y
  exact eL (fun x hx => h x (by simpa [Op.operands] using hx)) _
 case makeSlice t x y =>
  show Zj P e k i t x y = Zj P e' k i t x y;unfold Zj;refine congrArg _ (funext fun w => ?_);rw [e1 x (by simp [Op.operands])];exact congrArg _ (funext fun _ => e1 y (by simp [Op.operands]) _)
 case convert a d x => exact e1 x (by simp [Op.operands]) _
 case makeMap t r =>
  cases r with
  | none => rfl
  | some x =>
    show bB _ (wk e x _) = bB _ (wk e' x _);rw [e1 x (by simp [Op.operands])]
 all_goals rfl
variable {D : Nat -> Option DE} {X : ki} {ih : jn} {k : KS} {s : St}
theorem M6 (h : ∀ x ∈ o.operands, ev e x = ev e' x) : lK P X D ih e s k o = lK P X D ih e' s k o := by
 have e1 : ∀ x, x ∈ o.operands -> ∀ k, wk e x k = wk e' x k := fun x hx => qT (h x hx)
 have upd : ∀ {t m x y}, m ∈ o.operands -> x ∈ o.operands -> y ∈ o.operands -> jB P e s k t m x y = jB P e' s k t m x y := fun {t m x y} h1 h2 h3 => by
  unfold jB;refine congrArg _ (funext fun _ => funext fun _ => ?_);rw [e1 m h1];refine congrArg _ (funext fun _ => ?_);rw [e1 x h2];exact congrArg _ (funext fun _ => e1 y h3 _)
 cases o
 case insert t m x y => exact upd (by simp [Op.operands]) (by simp [Op.operands]) (by simp [Op.operands])
 case mapUpdate t m x y => exact upd (by simp [Op.operands]) (by simp [Op.operands]) (by simp [Op.operands])
 case store t x y =>
  show aY P e s k t x y = aY P e' s k t x y;unfold aY;rw [e1 x (by simp [Op.operands])];refine congrArg _ (funext fun _ => congrArg _ (funext fun _ => congrArg _ (funext fun _ => e1 y (by simp [Op.operands]) _)))
 case convert a d x =>
  show bB _ (bB _ (wk e x _)) = bB _ (bB _ (wk e' x _));rw [e1 x (by simp [Op.operands])]
 case mapEntry t m x =>
  show aZ P e s k t m x = aZ P e' s k t m x;unfold aZ;refine congrArg _ (funext fun _ => funext fun _ => ?_);rw [e1 m (by simp [Op.operands])];exact congrArg _ (funext fun _ => e1 x (by simp [Op.operands]) _)
 case entryStore t m x y =>
  show fy e s k t m x y = fy e' s k t m x y;unfold fy;rw [e1 m (by simp [Op.operands])];refine congrArg _ (funext fun _ => ?_);rw [e1 x (by simp [Op.operands])];exact congrArg _ (funext fun _ => e1 y (by simp [Op.operands]) _)
 case call c =>
  obtain ⟨callee, args, ts⟩ := c;cases callee with
  | value f =>
    show Zs P X D ih e s k args.toList f = Zs P X D ih e' s k args.toList f;unfold Zs;rw [e1 f (by simp [Op.operands, Call.operands])];refine congrArg _ (funext fun v => congrArg _ (funext fun fn => funext fun _ => funext fun _ => congrArg _ (funext fun _ => uc (fun x hx => h x (by simp [Op.operands, Call.operands]; exact .inr (by simpa using hx))) _)))
  | invoke r m =>
    show cO P X D ih e s k args.toList r m = cO P X D ih e' s k args.toList r m;unfold cO;rw [e1 r (by simp [Op.operands, Call.operands])];refine congrArg _ (funext fun v => ?_)
    congr 1
    refine funext fun t => funext fun w => congrArg _ (funext fun g => uc (fun x hx => h x (by simp [Op.operands, Call.operands]; exact .inr (by simpa using hx))) _)
  | builtin b => exact uc (fun x hx => h x (by simpa [Op.operands, Call.operands] using hx)) _
 all_goals rfl
theorem Hc (h : ∀ x ∈ o.operands, ev e x = ev e' x) : ∀ kd, ME P X D ih e s k o kd = ME P X D ih e' s k o kd
 | 0 => gC h
 | 1 => gC h
 | 2 => Uw h
 | _ + 3 => M6 h
end
def OG (h h' : Tr AO) : Prop := ∀ i o, get h i = some o -> get h' i = some o
theorem OG.refl (h : Tr AO) : OG h h := fun _ _ g => g
theorem OG.trans {h h' h'' : Tr AO} (a : OG h h') (b : OG h' h'') : OG h h'' := fun i o g => b i o (a i o g)
section
variable {P : Program} {e : Env} {h h' : Tr AO} {k : KV} {r : Rs}
theorem Pw {o : Op} (hk : Ys P o = 0) (hu : Kq P o = false) : qK P e h k o = qK P e h' k o := by
 cases o
 case load => cases hu
 case slice => cases hu
 case lookup => cases hu
 case call => cases hu
 case convert a d x =>
  have hb : qF P a = false := hu;show wk e x _ = wk e x _;refine congrArg _ (funext fun v => ?_);cases v
  case slice p n c =>
   show bB _ (bB _ _) = bB _ (bB _ _);rw [hb]; rfl
  all_goals rfl
 all_goals rfl
end
end Go.Ev
namespace Go.Ev
open Go.Eng
def has {α : Type} : Tr α -> Nat -> Bool
 | .lf, _ => false
 | .nd _ _ _, 0 => true
 | .nd l _ r, n + 1 => if n % 2 = 0 then has l (n / 2) else has r (n / 2)
def pt {α : Type} (v : Option α) : Tr α -> Nat -> Tr α
 | .lf, _ => .lf
 | .nd l _ r, 0 => .nd l v r
 | .nd l w r, n + 1 => if n % 2 = 0 then .nd (pt v l (n / 2)) w r else .nd l w (pt v r (n / 2))
variable {α : Type}
theorem Je (v : Option α) (t : Tr α) : ∀ (n : Nat) {R : Type} (k : Tr α -> R), put v t n k = k (pt v t n) := by
 induction t with
 | lf => exact fun _ _ _ => rfl
 | nd l w r ihl ihr =>
   intro n R k;cases n with
   | zero => rfl
   | succ n =>
     rw [Wm];unfold pt
     split
     ·exact ihl _ _
     ·exact ihr _ _
theorem JD (v : Option α) (t : Tr α) : ∀ (n m : Nat), has (pt v t n) m = has t m := by
 induction t with
 | lf => exact fun _ _ => rfl
 | nd l w r ihl ihr =>
   intro n m;cases n with
   | zero => cases m <;> rfl
   | succ n =>
     unfold pt
     split
     ·cases m with
      | zero => rfl
      | succ m => unfold has; split
                  ·exact ihl _ _
                  ·rfl
     ·cases m with
      | zero => rfl
      | succ m => unfold has; split
                  ·rfl
                  ·exact ihr _ _
theorem bf (v : Option α) (t : Tr α) : ∀ (n m : Nat), get (pt v t n) m = if m = n then (if has t n then v else none) else get t m := by
 induction t with
 | lf => intro n m; simp [pt, EJ, has]
 | nd l w r ihl ihr =>
   intro n m;cases n with
   | zero =>
     cases m with
     | zero => simp [pt, dx, has]
     | succ m => simp [pt, xV]
   | succ n =>
     unfold pt;by_cases hn : n % 2 = 0
     ·rw [if_pos hn];cases m with
      | zero => simp [dx]
      | succ m =>
        rw [xV, xV];unfold has;rw [if_pos hn];by_cases hm : m % 2 = 0
        ·rw [if_pos hm, if_pos hm, ihl];by_cases e : m = n
         ·subst e; simp
         ·rw [if_neg (by omega), if_neg (by omega)]
        ·rw [if_neg hm, if_neg hm, if_neg (by intro e; have : m = n := by omega
                                              subst this; exact hm hn)]
     ·rw [if_neg hn];cases m with
      | zero => simp [dx]
      | succ m =>
        rw [xV, xV];unfold has;rw [if_neg hn];by_cases hm : m % 2 = 0
        ·rw [if_pos hm, if_pos hm, if_neg (by intro e; have : m = n := by omega
                                              subst this; exact hn hm)]
        ·rw [if_neg hm, if_neg hm, ihr];by_cases e : m = n
         ·subst e; simp
         ·rw [if_neg (by omega), if_neg (by omega)]
def Vp (d : Option Nat) (v : Value) (e : Env) : Env := match d with
 | none => e
 | some t => pt (some v) e t
theorem dq (d : Option Nat) (r : Env -> St -> Rs) (e : Env) (v : Value) (s : St) : da d r e v s = r (Vp d v e) s := by
 cases d with
 | none => rfl
 | some t => exact Je _ _ _ _
theorem KJ {d : Option Nat} {v : Value} {e : Env} {t : Nat} {u : Value} (h : get (Vp d v e) t = some u) : (d = some t /\ u = v) \/ (d ≠ some t /\ get e t = some u) := by
 cases d with
 | none => exact .inr ⟨by simp, h⟩
 | some m =>
   simp only [Vp, bf] at h;by_cases e1 : t = m
   ·subst e1;rw [if_pos rfl] at h
    split at h
    ·cases h; exact .inl ⟨rfl, rfl⟩
    ·cases h
   ·rw [if_neg e1] at h;exact .inr ⟨fun e2 => e1 (by cases e2; rfl), h⟩
section
variable {P : Program} {x : Fx} {n : Nat} {B : Mp} {I : As} {e : Env} {s : St} {a : Act} {w : World}
theorem Mk (a : Act) (d : Option Nat) (u : Value) : (a.put d u).tmps.size = a.tmps.size := by cases d <;> simp [Act.put]
theorem put_defers (a : Act) (d : Option Nat) (u : Value) : (a.put d u).defers = a.defers := by cases d <;> rfl
variable {J : As} {d : Option Nat} {u v : Value}
theorem PF (hd : ∀ t, d = some t -> t < a.tmps.size) (hv : Rl J v u) (h : ∀ t v, get e t = some v -> ∃ u, a.tmps[t]? = some u /\ Rl J v u) :
  ∀ t y, get (Vp d v e) t = some y -> ∃ z, (a.put d u).tmps[t]? = some z /\ Rl J y z := by
 intro t y hy;rcases KJ hy with ⟨h1, rfl⟩ | ⟨h1, h2⟩
 ·subst h1;exact ⟨u, by simp [Act.put, hd t rfl], hv⟩
 ·obtain ⟨z, g1, g2⟩ := h t y h2;refine ⟨z, ?_, g2⟩;cases d with
  | none => exact g1
  | some m => simp only [Act.put]; rw [Array.getElem?_setIfInBounds_ne fun e1 => h1 (by rw [e1])]; exact g1
theorem Mt.next {s' : St} {w' : World} (M : Mt P x n B I e s a w) (hd : ∀ t, d = some t -> t < n) (hE : dp I J) (hv : Rl J v u) (hw : Ms P x B J s' w') : Mt P x n B J (Vp d v e) s' (a.put d u) w' :=
 hw.mt (by rw [Mk]; exact M.sz) (by rw [put_defers]; exact M.df) (PF (by rw [M.sz]; exact hd) hv fun t v ht => by
  obtain ⟨u, h1, h2⟩ := M.env t v ht
  exact ⟨u, h1, h2.ext hE⟩)
theorem ko (M : Mt P x n B I e s a w) {l : List Oper} {o : Oper} {b : Bool} (h : wanted l e o = some b) : Region.wanted o (yielded l.toArray a.tmps) = b := by
 unfold wanted at h;unfold Region.wanted;cases hg : o.guard with
 | none => rw [hg] at h; cases h; rfl
 | some p =>
   obtain ⟨j, want⟩ := p;rw [hg] at h
   replace h : dM l e j want = some b := h
   unfold dM at h;rw [wC] at h;show (yielded l.toArray a.tmps j == some want) = b;unfold yielded;have e1 : l.toArray[j]? = l[j]? := by simp
   rw [e1];cases ho : l[j]? with
   | none => rw [ho] at h; cases h
   | some o' =>
     rw [ho] at h
     replace h : Option.rec (motive := fun _ => Option Bool) none (fun t => Option.rec (motive := fun _ => Option Bool) none (fun v => some (isB want v)) (get e t)) o'.dst = some b := h
     cases hd : o'.dst with
     | none => rw [hd] at h; cases h
     | some t =>
       rw [hd] at h
       replace h : Option.rec (motive := fun _ => Option Bool) none (fun v => some (isB want v)) (get e t) = some b := h
       cases hv : get e t with
       | none => rw [hv] at h; cases h
       | some v =>
         rw [hv] at h;cases (show some (isB want v) = some b from h);obtain ⟨u, h1, h2⟩ := M.env t v hv;simp only [Option.bind_some, hd, h1];cases h2 <;> first | rfl | skip
         rename_i c
         cases c <;> cases want <;> rfl
end
section
variable {P : Program} {X : ki} {D : Nat -> Option DE} {ih : jn} {r : Rs}
theorem F7 {e : Env} {s : St} {k : KS} (o : Op) : opD P X D ih e s k o = ME P X D ih e s k o (Ys P o) := by cases o <;> rfl
theorem Hb (l0 l : List Oper) (o : Oper) (e : Env) (s : St) : Wq P X D ih l0 (o :: l) e s = oB (wanted l0 e o) (Ba P X D ih o (Wq P X D ih l0 l) e s) := by
 obtain ⟨dst, op, ty, pos, aft, gd⟩ := o;cases gd with
 | none => rfl
 | some p => rfl
theorem du (hX : kN P X) (hD : aC P D) (hI : vP P ih) (hN : wq P) {nt : Nat} {l0 : List Oper} : ∀ (l : List Oper) {e : Env} {s : St}, gw nt l = true -> Wq P X D ih l0 l e s = r -> r ≠ .no ->
  ∃ e' s', r = .ok .normal e' s' /\ ∀ {x : Fx} {n : Nat} {B : Mp} {I0 I : As} {s0 : St} {a : Act} {w : World}, nt <= n -> wm I0 s0 I s -> Mt P x n B I e s a w -> wpList P l0.toArray (fun ext a' w' => ext = Nu .normal /\ ∃ J, wm I0 s0 J s' /\ Mt P x n B J e' s' a' w') l a w
 | [], e, s, _, h, _ => ⟨e, s, h.symm, fun _ hS M => ⟨rfl, _, hS, M⟩⟩
 | o :: l, e, s, hs, h, hr => by
   have hsl : (∀ t, o.dst = some t -> t < nt) /\ gw nt l = true := by
    unfold gw at hs;rw [List.all_cons, Bool.and_eq_true] at hs;refine ⟨fun t ht => ?_, hs.2⟩;rw [ht] at hs
    simpa [Nat.blt_eq] using hs.1
   rw [Hb] at h;obtain ⟨b, h1, h2⟩ := zt h hr;cases b with
   | false =>
     have h3 : da o.dst (Wq P X D ih l0 l) e qn s = r := h2;rw [dq] at h3;obtain ⟨e', s', h4, h5⟩ := du hX hD hI hN l hsl.2 h3 hr;refine ⟨e', s', h4, fun {x n B I0 I s0 a w} hn hS M => ?_⟩;unfold wpList;rw [if_neg (by rw [ko M h1]; decide)];exact h5 hn hS (M.next (fun t ht => Nat.lt_of_lt_of_le (hsl.1 t ht) hn) (dp.refl I) (.tuple .nil) M.ms)
   | true =>
     obtain ⟨v, s1, h3, h4⟩ := Ji hX hD hI hN ((F7 o.op).symm.trans (show opD P X D ih e s (da o.dst (Wq P X D ih l0 l) e) o.op = r from h2)) hr;rw [dq] at h3;obtain ⟨e', s', h5, h6⟩ := du hX hD hI hN l hsl.2 h3 hr;refine ⟨e', s', h5, fun {x n B I0 I s0 a w} hn hS M => ?_⟩;unfold wpList;rw [if_pos (ko M h1)];obtain ⟨dst, op, ty, pos, aft, gd⟩ := o
     refine .inl (h4 M dst ty pos aft gd _ _ fun J u w' g1 g2 g3 => ?_);exact h6 hn (hS.trans g1) (M.next (fun t ht => Nat.lt_of_lt_of_le (hsl.1 t ht) hn) g1.ext g2 g3)
end
end Go.Ev
namespace Go.Ev
open Go.Eng
theorem WW (m i j : Nat) : (m ||| (1 <<< i)).testBit j = true ↔ m.testBit j = true \/ j = i := by
 rw [Nat.testBit_or, Bool.or_eq_true, Nat.one_shiftLeft, Nat.testBit_two_pow, decide_eq_true_eq]
 constructor
 ·rintro (h | h)
  ·exact .inl h
  ·exact .inr h.symm
 ·rintro (h | h)
  ·exact .inl h
  ·exact .inr h.symm
theorem Uy {o : Oper} {k : Nat} : k ∈ aj o ↔ ∃ ed ∈ o.after, Region.binds .any ed = true /\ ed.on = k := by
 unfold aj;rw [List.mem_filterMap]
 constructor
 ·rintro ⟨ed, h1, h2⟩
  split at h2
  ·rename_i h3; cases h2; exact ⟨ed, by simpa using h1, h3, rfl⟩
  ·cases h2
 ·rintro ⟨ed, h1, h2, h3⟩;exact ⟨ed, by simpa using h1, by rw [if_pos h2, h3]⟩
section
variable {P : Program} {l : List Oper} {dl : List (Nat × Nat)} {bs : List Nat}
theorem Mv : ∀ (pl : Pl) (don : Nat) (lds rds : List Nat), FX P l dl bs pl don lds rds = true -> ∀ (p i : Nat) (ck : List Nat), pl[p]? = some (i, ck) -> ∃ (o : Oper) (don' : Nat) (lds' rds' : List Nat), l[i]? = some o /\ Jj P l dl bs don' lds' rds' i o ck = true /\
  (∀ j, don'.testBit j = true ↔ don.testBit j = true \/ ∃ (p' : Nat) (ck' : List Nat), p' < p /\ pl[p']? = some (j, ck')) /\ (∀ j ∈ lds, j ∈ lds') /\ (∀ j ∈ rds, j ∈ rds') /\
  ∀ (p' j : Nat) (ck' : List Nat) (o' : Oper), p' < p -> pl[p']? = some (j, ck') -> l[j]? = some o' -> (qU P o'.op = 3 -> j ∈ lds') /\ (qU P o'.op = 1 -> j ∈ rds')
 | [], _, _, _, _, p, i, ck, hp => by simp at hp
 | (i0, ck0) :: pl, don, lds, rds, h, p, i, ck, hp => by
   unfold FX at h;cases ho : l[i0]? with
   | none => rw [ho] at h; cases h
   | some o0 =>
     rw [ho] at h;simp only [Bool.and_eq_true] at h;obtain ⟨h1, h2⟩ := h;cases p with
     | zero =>
       simp only [List.getElem?_cons_zero, Option.some.injEq, Prod.mk.injEq] at hp;obtain ⟨rfl, rfl⟩ := hp;exact ⟨o0, don, lds, rds, ho, h1, fun j => ⟨.inl, fun h => h.elim id fun ⟨_, _, h, _⟩ => absurd h (Nat.not_lt_zero _)⟩, fun _ h => h, fun _ h => h, fun _ _ _ _ h => absurd h (Nat.not_lt_zero _)⟩
     | succ p =>
       rw [List.getElem?_cons_succ] at hp;obtain ⟨o, don', lds', rds', g1, g2, g3, g4, g5, g6⟩ := Mv pl _ _ _ h2 p i ck hp;refine ⟨o, don', lds', rds', g1, g2, fun j => ?_, fun j hj => g4 j (by split <;> simp [hj]), fun j hj => g5 j (by split <;> simp [hj]), fun p' j ck' o' hp' hj ho' => ?_⟩
       ·rw [g3, WW]
        constructor
        ·rintro ((h | rfl) | ⟨p', ck', h, h'⟩)
         ·exact .inl h
         ·exact .inr ⟨0, ck0, Nat.succ_pos _, rfl⟩
         ·exact .inr ⟨p' + 1, ck', Nat.succ_lt_succ h, h'⟩
        ·rintro (h | ⟨p', ck', h, h'⟩)
         ·exact .inl (.inl h)
         ·cases p' with
          | zero => simp only [List.getElem?_cons_zero, Option.some.injEq, Prod.mk.injEq] at h'; exact .inl (.inr h'.1.symm)
          | succ p' => exact .inr ⟨p', ck', Nat.lt_of_succ_lt_succ h, h'⟩
       ·cases p' with
        | zero =>
          simp only [List.getElem?_cons_zero, Option.some.injEq, Prod.mk.injEq] at hj;obtain ⟨rfl, rfl⟩ := hj;rw [ho] at ho'; cases ho';exact ⟨fun hc => g4 _ (by rw [if_pos hc]; exact .head _), fun hc => g5 _ (by rw [if_pos hc]; exact .head _)⟩
        | succ p' => exact g6 p' j ck' o' (Nat.lt_of_succ_lt_succ hp') hj ho'
theorem KL : ∀ (pl : Pl) (don : Nat) (lds rds : List Nat), FX P l dl bs pl don lds rds = true -> ∀ (j : Nat), j < l.length -> don.testBit j = true \/ ∃ (p : Nat) (ck : List Nat), pl[p]? = some (j, ck)
 | [], don, _, _, h, j, hj => by
   unfold FX at h;exact .inl (List.all_eq_true.1 h j (List.mem_range.2 hj))
 | (i0, ck0) :: pl, don, lds, rds, h, j, hj => by
   unfold FX at h;cases ho : l[i0]? with
   | none => rw [ho] at h; cases h
   | some o0 =>
     rw [ho] at h;simp only [Bool.and_eq_true] at h;rcases KL pl _ _ _ h.2 j hj with h3 | ⟨p, ck, h3⟩
     ·rw [WW] at h3;rcases h3 with h3 | rfl
      ·exact .inl h3
      ·exact .inr ⟨0, ck0, rfl⟩
     ·exact .inr ⟨p + 1, ck, h3⟩
structure Pf (P : Program) (l : List Oper) (pl : Pl) (bs : List Nat) : Prop where
 op : ∀ {p : Nat} {i : Nat} {ck : List Nat}, pl[p]? = some (i, ck) -> ∃ o : Oper, l[i]? = some o
 inj : ∀ {p : Nat} {p' : Nat} {i : Nat} {ck : List Nat} {ck' : List Nat}, pl[p]? = some (i, ck) -> pl[p']? = some (i, ck') -> p = p'
 all : ∀ {i : Nat}, i < l.length -> ∃ (p : Nat) (ck : List Nat), pl[p]? = some (i, ck)
 bnd : ∀ {p : Nat} {i : Nat} {ck : List Nat} {o : Oper} {k : Nat}, pl[p]? = some (i, ck) -> l[i]? = some o -> k ∈ aj o -> ∃ (p' : Nat) (ck' : List Nat), p' < p /\ pl[p']? = some (k, ck')
 lk : ∀ {p : Nat} {i : Nat} {ck : List Nat} {o : Oper} {t : Nat} {p' : Nat} {j : Nat} {ck' : List Nat}, pl[p]? = some (i, ck) -> l[i]? = some o -> t ∈ fY l o -> pl[p']? = some (j, ck') -> qg l j = some t -> p' = p \/ (p' < p /\ Vq bs i j = true) \/ (p < p' /\ Vq bs j i = true)
 ld : ∀ {p : Nat} {i : Nat} {ck : List Nat} {o : Oper} {p' : Nat} {j : Nat} {ck' : List Nat} {o' : Oper}, pl[p]? = some (i, ck) -> l[i]? = some o -> pl[p']? = some (j, ck') -> l[j]? = some o' -> p' < p -> qU P o'.op = 3 -> qU P o.op ≠ 0 -> Vq bs i j = true
 rd : ∀ {p : Nat} {i : Nat} {ck : List Nat} {o : Oper} {p' : Nat} {j : Nat} {ck' : List Nat} {o' : Oper}, pl[p]? = some (i, ck) -> l[i]? = some o -> pl[p']? = some (j, ck') -> l[j]? = some o' -> p' < p -> qU P o'.op = 1 -> qU P o.op = 3 -> Vq bs i j = true \/ (j ∈ ck /\ L9 l (TX l 0) bs j = true)
 ds : ∀ {i : Nat} {j : Nat} {t : Nat}, qg l i = some t -> qg l j = some t -> i = j
 ju : ∀ {i : Nat} {j : Nat}, i < l.length -> j < l.length -> Vq bs i j = true -> ∃ (o : Oper) (k : Nat), l[i]? = some o /\ k ∈ aj o /\ (k = j \/ Vq bs k j = true)
theorem KZ : ∀ (l : List Oper) (i j t : Nat), (j, t) ∈ TX l i ↔ i <= j /\ qg l (j - i) = some t
 | [], i, j, t => by simp [TX, qg]
 | o :: r, i, j, t => by
   have ih := KZ r (i + 1) j t
   have key : (i <= j /\ qg (o :: r) (j - i) = some t) ↔ (j = i /\ o.dst = some t) \/ (i + 1 <= j /\ qg r (j - (i + 1)) = some t) := by
    by_cases e : j = i
    ·subst e
     simp [qg]
     omega
    ·constructor
     ·rintro ⟨h1, h2⟩;refine .inr ⟨by omega, ?_⟩;rw [show j - i = (j - (i + 1)) + 1 by omega] at h2;exact h2
     ·rintro (⟨h1, -⟩ | ⟨h1, h2⟩)
      ·exact absurd h1 e
      ·refine ⟨by omega, ?_⟩;rw [show j - i = (j - (i + 1)) + 1 by omega];exact h2
   unfold TX;cases hd : o.dst with
   | none =>
     simp only;rw [ih, key, hd]
     simp
   | some d =>
     simp only [List.mem_cons, Prod.mk.injEq];rw [ih, key, hd]
     constructor
     ·rintro (⟨h1, h2⟩ | h)
      ·exact .inl ⟨h1, by rw [h2]⟩
      ·exact .inr h
     ·rintro (⟨h1, h2⟩ | h)
      ·exact .inl ⟨h1, by injection h2 with h2; exact h2.symm⟩
      ·exact .inr h
variable {j t : Nat}
theorem Wx : (j, t) ∈ TX l 0 ↔ qg l j = some t := by
 rw [KZ]; simp
theorem KT : ∀ (ks : List Nat) (m : Nat), (ks.foldl (fun m k => m ||| (1 <<< k) ||| bs.getD k 0) m).testBit j = true -> m.testBit j = true \/ ∃ k ∈ ks, k = j \/ Vq bs k j = true
 | [], m, h => .inl h
 | k :: ks, m, h => by
   rcases KT ks _ h with h1 | ⟨k', h1, h2⟩
   ·rw [Nat.testBit_or, Bool.or_eq_true] at h1;rcases h1 with h1 | h1
    ·rw [WW] at h1;rcases h1 with h1 | h1
     ·exact .inl h1
     ·exact .inr ⟨k, .head _, .inl h1.symm⟩
    ·exact .inr ⟨k, .head _, .inr h1⟩
   ·exact .inr ⟨k', .tail _ h1, h2⟩
theorem U5 {i : Nat} (h : qg l i = some t) : i < l.length := by
 unfold qg at h;cases hl : l[i]? with
 | none => rw [hl] at h; cases h
 | some o => exact (List.getElem?_eq_some_iff.1 hl).1
theorem Jf {pl : Pl} (h : XD P l pl = true) : Pf P l pl (Do l) := by
 unfold XD Tz at h;simp only [Bool.and_eq_true, beq_iff_eq] at h;obtain ⟨⟨⟨h1, h2⟩, h3⟩, h4⟩ := h;have at_ := Mv pl 0 [] [] h4
 have hop : ∀ {p i : Nat} {ck : List Nat}, pl[p]? = some (i, ck) -> ∃ o : Oper, l[i]? = some o := fun {p i ck} hp => by
  obtain ⟨o, -, -, -, g, -⟩ := at_ p i ck hp; exact ⟨o, g⟩
 have hinj : ∀ {p p' i : Nat} {ck ck' : List Nat}, p' < p -> pl[p]? = some (i, ck) -> pl[p']? = some (i, ck') -> False := fun {p p' i ck ck'} hlt hp hp' => by
  obtain ⟨o, don', lds', rds', g1, g2, g3, -⟩ := at_ p i ck hp;unfold Jj at g2;simp only [Bool.and_eq_true, Bool.not_eq_true'] at g2;have := (g3 i).2 (.inr ⟨p', ck', hlt, hp'⟩);rw [g2.1.1.1] at this; cases this
 have hds : ∀ {i j t : Nat}, qg l i = some t -> qg l j = some t -> i = j := fun {i j t} hi hj => by
  unfold BH at h3;have := List.all_eq_true.1 (List.all_eq_true.1 h3 _ (Wx.2 hi)) _ (Wx.2 hj);simp only [Bool.or_eq_true, beq_iff_eq, bne_iff_ne] at this;rcases this with h | h
  ·exact h
  ·exact absurd rfl h
 refine ⟨hop, fun {p p' i ck ck'} hp hp' => ?_, fun {i} hi => ?_, ?_, ?_, ?_, ?_, hds, ?_⟩
 ·rcases Nat.lt_trichotomy p p' with h | h | h
  ·exact (hinj h hp' hp).elim
  ·exact h
  ·exact (hinj h hp hp').elim
 ·rcases KL pl 0 [] [] h4 i hi with h | h
  ·simp at h
  ·exact h
 ·intro p i ck o k hp ho hk;obtain ⟨o', don', lds', rds', g1, g2, g3, -⟩ := at_ p i ck hp;rw [ho] at g1; cases g1;unfold Jj at g2;simp only [Bool.and_eq_true, List.all_eq_true] at g2;rcases (g3 k).1 (g2.1.1.2 k hk) with h | ⟨p', ck', h, h'⟩
  ·simp at h
  ·exact ⟨p', ck', h, h'⟩
 ·intro p i ck o t p' j ck' hp ho ht hp' hj;obtain ⟨o', don', lds', rds', g1, g2, g3, -⟩ := at_ p i ck hp;rw [ho] at g1; cases g1;unfold Jj at g2;simp only [Bool.and_eq_true, List.all_eq_true] at g2;have := g2.1.2 t ht _ (Wx.2 hj);simp only [Bool.or_eq_true, Bool.and_eq_true, bne_iff_ne, beq_iff_eq, Bool.not_eq_true'] at this;rcases this with ((h | h) | ⟨h, h'⟩) | ⟨h, h'⟩
  ·exact absurd rfl h
  ·subst h;rcases Nat.lt_trichotomy p p' with h | h | h
   ·exact (hinj h hp' hp).elim
   ·exact .inl h.symm
   ·exact (hinj h hp hp').elim
  ·rcases (g3 j).1 h' with h0 | ⟨p2, ck2, h2, h3⟩
   ·simp at h0
   ·refine .inr (.inl ⟨?_, h⟩);rcases Nat.lt_trichotomy p2 p' with h4 | h4 | h4
    ·exact (hinj h4 hp' h3).elim
    ·omega
    ·exact (hinj h4 h3 hp').elim
  ·rcases Nat.lt_trichotomy p p' with h4 | h4 | h4
   ·exact .inr (.inr ⟨h4, h⟩)
   ·exact .inl h4.symm
   ·have := (g3 j).2 (.inr ⟨p', ck', h4, hp'⟩);rw [h'] at this; cases this
 ·intro p i ck o p' j ck' o' hp ho hp' ho' hlt h3 h0;obtain ⟨o1, don', lds', rds', g1, g2, g3, -, -, g6⟩ := at_ p i ck hp;rw [ho] at g1; cases g1;have hm := (g6 p' j ck' o' hlt hp' ho').1 h3;unfold Jj at g2;simp only [Bool.and_eq_true] at g2;have g4 := g2.2
  split at g4
  ·rename_i hc; exact absurd hc h0
  ·simp only [Bool.and_eq_true, List.all_eq_true] at g4; exact g4.1 j hm
  ·simp only [List.all_eq_true] at g4; exact g4 j hm
 ·intro p i ck o p' j ck' o' hp ho hp' ho' hlt h1' h3';obtain ⟨o1, don', lds', rds', g1, g2, g3, -, -, g6⟩ := at_ p i ck hp;rw [ho] at g1; cases g1;have hm := (g6 p' j ck' o' hlt hp' ho').2 h1';unfold Jj at g2;simp only [Bool.and_eq_true] at g2;have g4 := g2.2;rw [h3'] at g4;simp only [Bool.and_eq_true, List.all_eq_true] at g4;have := g4.2 j hm
  simp only [Bool.or_eq_true, Bool.and_eq_true] at this;exact this.imp id fun h => ⟨by simpa using h.1, h.2⟩
 ·intro i j hi hj hpm;unfold TL at h2;rw [h1] at h2;have := List.all_eq_true.1 h2 i (List.mem_range.2 hi);cases ho : l[i]? with
  | none => rw [ho] at this; cases this
  | some o =>
    rw [ho] at this;simp only [beq_iff_eq] at this;unfold Vq at hpm;rw [<- this, Nat.testBit_and, Bool.and_eq_true] at hpm;rcases KT (aj o) 0 hpm.2 with h5 | ⟨k, h5, h6⟩
    ·simp at h5
    ·exact ⟨o, k, rfl, h5, h6⟩
end
end Go.Ev
namespace Go.Ev
open Go.Eng
variable {k r : Rs}
theorem RQ {a b : Addr} (h : eqA a b k = r) (hr : r ≠ .no) : a = b /\ k = r := by
 obtain ⟨a1, a2, a3⟩ := a;obtain ⟨b1, b2, b3⟩ := b;obtain ⟨h1, h2⟩ := zl (show bB _ (bB _ _) = r from h) hr;obtain ⟨h3, h4⟩ := zl h2 hr;cases Nat.eq_of_beq_eq_true h1;cases Nat.eq_of_beq_eq_true h3;cases a3 <;> cases b3
 ·exact ⟨rfl, h4⟩
 ·exact absurd h4.symm hr
 ·exact absurd h4.symm hr
 ·obtain ⟨h5, h6⟩ := zl (show bB _ _ = r from h4) hr;cases Nat.eq_of_beq_eq_true h5;exact ⟨rfl, h6⟩
theorem Gk {a b : Oa} (h : BG a b k = r) (hr : r ≠ .no) : a = b /\ k = r := by
 cases a <;> cases b
 ·exact ⟨rfl, h⟩
 ·exact absurd h.symm hr
 ·exact absurd h.symm hr
 ·obtain ⟨h1, h2⟩ := RQ h hr; exact ⟨by rw [h1], h2⟩
theorem RO {a b : Option Nat} (h : eqN a b k = r) (hr : r ≠ .no) : a = b /\ k = r := by
 cases a <;> cases b
 ·exact ⟨rfl, h⟩
 ·exact absurd h.symm hr
 ·exact absurd h.symm hr
 ·obtain ⟨h1, h2⟩ := zl (show bB _ _ = r from h) hr;cases Nat.eq_of_beq_eq_true h1;exact ⟨rfl, h2⟩
mutual
theorem qI (hr : r ≠ .no) : ∀ (a : Value) {b : Value} {k : Rs}, Gj a b k = r -> a = b /\ k = r
 | .bool x, b, k, h => by
   obtain ⟨y, rfl, h1⟩ := qP (show eS b _ = r from h) hr;obtain ⟨h2, h3⟩ := zl h1 hr;have e1 : x = y := by revert h2; cases x <;> cases y <;> decide
   exact ⟨by rw [e1], h3⟩
 | .int kd i, b, k, h => by
   obtain ⟨kd', j, rfl, h1⟩ := yW (show ja b _ = r from h) hr;obtain ⟨h2, h3⟩ := zl h1 hr;obtain ⟨h4, h5⟩ := zl h3 hr;rw [eM, decide_eq_true_eq] at h4;rw [eJ h2, h4];exact ⟨rfl, h5⟩
 | .float _ _, _, _, h => absurd h.symm hr
 | .complex _ _ _, _, _, h => absurd h.symm hr
 | .string s, b, k, h => by
   obtain ⟨t, rfl, h1⟩ := jT (show X8 b _ = r from h) hr;obtain ⟨h2, h3⟩ := zl h1 hr;rw [ZK, decide_eq_true_eq] at h2;obtain ⟨⟨s⟩⟩ := s;obtain ⟨⟨t⟩⟩ := t;cases (show s = t from h2);exact ⟨rfl, h3⟩
 | .pointer p, b, k, h => by
   obtain ⟨q, rfl, h1⟩ := jU (show Yh b _ = r from h) hr;obtain ⟨h2, h3⟩ := Gk h1 hr;exact ⟨by rw [h2], h3⟩
 | .slice p n c, b, k, h => by
   obtain ⟨q, m, d, rfl, h1⟩ := jt (show Ll b _ = r from h) hr;obtain ⟨h2, h3⟩ := zl h1 hr;obtain ⟨h4, h5⟩ := zl h3 hr;obtain ⟨h6, h7⟩ := Gk h5 hr;cases Nat.eq_of_beq_eq_true h2;cases Nat.eq_of_beq_eq_true h4;exact ⟨by rw [h6], h7⟩
 | .map m, b, k, h => by
   obtain ⟨m', rfl, h1⟩ := dO (show GX b _ = r from h) hr;obtain ⟨h2, h3⟩ := RO h1 hr;exact ⟨by rw [h2], h3⟩
 | .chan _, _, _, h => absurd h.symm hr
 | .func fn ⟨as⟩ ⟨cs⟩, b, k, h => by
   obtain ⟨fn', ⟨as'⟩, ⟨cs'⟩, rfl, h1⟩ := dP (show GY b _ = r from h) hr;obtain ⟨g, rfl, h2⟩ := dz h1 hr;obtain ⟨g', rfl, h3⟩ := dz h2 hr;obtain ⟨h4, h5⟩ := zl h3 hr;cases Nat.eq_of_beq_eq_true h4;obtain ⟨h6, h7⟩ := vN hr as h5;obtain ⟨h8, h9⟩ := vN hr cs h7;exact ⟨by rw [h6, h8], h9⟩
 | .nilFunc, b, k, h => by
   replace h : wy ff yL ff ff xT ff xT k yL .no ff ff b = r := h
   cases b <;> first | exact ⟨rfl, h⟩ | exact absurd h.symm hr
 | .iface t v, b, k, h => by
   replace h : wy ff yL ff ff xT ff xT .no (fun t' v' => bB (Nat.beq t t') (Gj v v' k)) .no ff ff b = r := h
   cases b <;> first | exact absurd h.symm hr | skip
   obtain ⟨h2, h3⟩ := zl (show bB _ _ = r from h) hr;cases Nat.eq_of_beq_eq_true h2;obtain ⟨h4, h5⟩ := qI hr v h3;exact ⟨by rw [h4], h5⟩
 | .nilIface, b, k, h => by
   replace h : wy ff yL ff ff xT ff xT .no yL k ff ff b = r := h
   cases b <;> first | exact ⟨rfl, h⟩ | exact absurd h.symm hr
 | .agg ⟨as⟩, b, k, h => by
   obtain ⟨⟨bs⟩, rfl, h1⟩ := eT (show QL b _ = r from h) hr;obtain ⟨h2, h3⟩ := vN hr as h1;exact ⟨by rw [h2], h3⟩
 | .tuple ⟨as⟩, b, k, h => by
   obtain ⟨⟨bs⟩, rfl, h1⟩ := VC (show Lk b _ = r from h) hr;obtain ⟨h2, h3⟩ := vN hr as h1;exact ⟨by rw [h2], h3⟩
theorem vN (hr : r ≠ .no) : ∀ (as : Lv) {bs : Lv} {k : Rs}, JO as bs k = r -> as = bs /\ k = r
 | [], bs, k, h => by
   cases bs with
   | nil => exact ⟨rfl, h⟩
   | cons b bs => exact absurd h.symm hr
 | a :: as, bs, k, h => by
   cases bs with
   | nil => exact absurd h.symm hr
   | cons b bs =>
     obtain ⟨h1, h2⟩ := qI hr a (show Gj a b (JO as bs k) = r from h);obtain ⟨h3, h4⟩ := vN hr as h2;exact ⟨by rw [h1, h3], h4⟩
end
variable {v v' : Value}
theorem bc {s s' : St} (h : kI v s = kI v' s') : v = v' /\ s = s' := by
 unfold kI one at h
 injection h with _ h1 h2
 injection h1 with _ h3 _
 injection h3 with h4
 exact ⟨h4, h2⟩
theorem Eu (h : kJ v = kJ v') : v = v' := by
 unfold kJ one at h
 injection h with _ h1 _
 injection h1 with _ h3 _
 injection h3
theorem XM (v : Value) (s : St) : kI v s ≠ .no := nofun
theorem Bu (v : Value) : kJ v ≠ .no := nofun
structure En where
 ck : List Nat
 o : Oper
 e : Env
 s : St
 w : Bool
 v : Value
 s1 : St
def Rck (P : Program) (l : List Oper) (e : Env) (s : St) (ck : List Nat) : Prop :=
 ∀ j ∈ ck, ∃ o w, l[j]? = some o /\ wanted l e o = some w /\ (w = true -> ∃ d v, o.dst = some d /\ get e d = some v /\ qK P e s.h kJ o.op = kJ v)
structure RnE (P : Program) (X : ki) (D : Nat -> Option DE) (ih : jn) (l : List Oper) (en : En) : Prop where
 wn : wanted l en.e en.o = some en.w
 run : en.w = true -> ME P X D ih en.e en.s kI en.o.op (Ys P en.o.op) = kI en.v en.s1 /\ (Ys P en.o.op = 2 -> get en.s.h en.s.nx = none)
 no : en.w = false -> en.v = qn /\ en.s1 = en.s
 rck : Rck P l (Vp en.o.dst en.v en.e) en.s1 en.ck
def Rn (P : Program) (X : ki) (D : Nat -> Option DE) (ih : jn) (l : List Oper) (ef : Env) (sf : St) : List En -> Env -> St -> Prop
 | [], e, s => e = ef /\ s = sf
 | en :: T, e, s => en.e = e /\ en.s = s /\ RnE P X D ih l en /\ Rn P X D ih l ef sf T (Vp en.o.dst en.v e) en.s1
def eA (T : List En) (ef : Env) (p : Nat) : Env := match T[p]? with
 | some en => en.e
 | none => ef
def sA (T : List En) (sf : St) (p : Nat) : St := match T[p]? with
 | some en => en.s
 | none => sf
section
variable {P : Program} {X : ki} {D : Nat -> Option DE} {ih : jn} {l : List Oper} {ef : Env} {sf : St} {r : Rs}
theorem Wj {e : Env} {s : St} : ∀ {ck : List Nat} {q : Rs}, Pt P l e s ck q = r -> r ≠ .no -> q = r /\ Rck P l e s ck
 | [], q, h, _ => ⟨h, fun _ h => by cases h⟩
 | j :: ck, q, h, hr => by
   obtain ⟨o, h1, h2⟩ := zt (show oB (vZ l j) _ = r from h) hr;obtain ⟨w, h3, h4⟩ := zt h2 hr;rw [wC] at h1
   have key : Pt P l e s ck q = r /\ (w = true -> ∃ d v, o.dst = some d /\ get e d = some v /\ qK P e s.h kJ o.op = kJ v) := by
    cases w with
    | false => exact ⟨h4, fun h => by cases h⟩
    | true =>
      obtain ⟨d, h5, h6⟩ := zt (show oB o.dst _ = r from h4) hr;obtain ⟨v, h7, h8⟩ := zt h6 hr;have hne : qK P e s.h kJ o.op ≠ .no := fun e1 => by rw [e1] at h8; exact hr h8.symm
      obtain ⟨v', h9, -⟩ := Ue (P := P) (e := e) (s := s) (k := kJ) (o := o.op) rfl hne;rw [<- h9] at h8;obtain ⟨h10, h11⟩ := qI hr v (show Gj v v' (Pt P l e s ck q) = r from h8);exact ⟨h11, fun _ => ⟨d, v, h5, h7, by rw [<- h9, h10]⟩⟩
   obtain ⟨h5, h6⟩ := Wj key.1 hr;refine ⟨h5, fun i hi => ?_⟩;rcases List.mem_cons.1 hi with rfl | hi
   ·exact ⟨o, w, h1, h3, key.2⟩
   ·exact h6 i hi
theorem Zf (hX : kN P X) (hD : aC P D) (hI : vP P ih) (hN : wq P) : ∀ (xs : List (Oper × List Nat)) {e : Env} {s : St}, Yr P X D ih l xs e s = r -> r ≠ .no ->
  ∃ T ef sf, r = .ok .normal ef sf /\ T.map (fun en => (en.o, en.ck)) = xs /\ Rn P X D ih l ef sf T e s
 | [], e, s, h, _ => ⟨[], e, s, h.symm, rfl, rfl, rfl⟩
 | (o, ck) :: xs, e, s, h, hr => by
   obtain ⟨w, h1, h2⟩ := zt (show oB (wanted l e o) (C9 P X D ih l o ck (Yr P X D ih l xs) e s) = r from h) hr;cases w with
   | false =>
     have h3 : da o.dst (fun e s => Pt P l e s ck (Yr P X D ih l xs e s)) e qn s = r := h2;rw [dq] at h3;obtain ⟨h4, h5⟩ := Wj h3 hr;obtain ⟨T, ef, sf, h6, h7, h8⟩ := Zf hX hD hI hN xs h4 hr;exact ⟨⟨ck, o, e, s, false, qn, s⟩ :: T, ef, sf, h6, by rw [List.map_cons, h7], rfl, rfl, ⟨h1, fun h => (by cases h), fun _ => ⟨rfl, rfl⟩, h5⟩, h8⟩
   | true =>
     have h3 : fN (Ys P o.op) (fun kd => frK s kd (Pu (ME P X D ih e s kI o.op kd) (da o.dst (fun e s => Pt P l e s ck (Yr P X D ih l xs e s)) e))) = r := h2;rw [ji] at h3
     have h4 : Pu (ME P X D ih e s kI o.op (Ys P o.op)) (da o.dst (fun e s => Pt P l e s ck (Yr P X D ih l xs e s)) e) = r /\ (Ys P o.op = 2 -> get s.h s.nx = none) := by
      unfold frK at h3;cases hb : Nat.beq (Ys P o.op) 2 with
      | false => rw [hb] at h3; exact ⟨h3, fun h => by rw [h] at hb; cases hb⟩
      | true =>
        rw [hb] at h3
        replace h3 : frB s _ = r := h3
        unfold frB at h3;cases hg : get s.h s.nx with
        | none => rw [hg] at h3; exact ⟨h3, fun _ => rfl⟩
        | some y => rw [hg] at h3; exact absurd h3.symm hr
     obtain ⟨h4, hfr⟩ := h4;have hne : ME P X D ih e s kI o.op (Ys P o.op) ≠ .no := fun e1 => by rw [e1] at h4; exact hr h4.symm
     obtain ⟨v, s1, h9, -⟩ := Ji hX hD hI hN (k := kI) rfl hne;rw [<- h9] at h4;have h5 : da o.dst (fun e s => Pt P l e s ck (Yr P X D ih l xs e s)) e v s1 = r := h4;rw [dq] at h5;obtain ⟨h6, h7⟩ := Wj h5 hr;obtain ⟨T, ef, sf, h10, h11, h12⟩ := Zf hX hD hI hN xs h6 hr
     exact ⟨⟨ck, o, e, s, true, v, s1⟩ :: T, ef, sf, h10, by rw [List.map_cons, h11], rfl, rfl, ⟨h1, fun _ => ⟨h9.symm, hfr⟩, fun h => (by cases h), h7⟩, h12⟩
variable {e : Env} {s : St}
theorem Gn {T : List En} (h : Rn P X D ih l ef sf T e s) : eA T ef 0 = e /\ sA T sf 0 = s := by
 cases T with
 | nil => exact ⟨h.1.symm, h.2.symm⟩
 | cons en T => exact ⟨h.1, h.2.1⟩
theorem Tw : ∀ (T : List En) {e : Env} {s : St}, Rn P X D ih l ef sf T e s -> ∀ (p : Nat) (en : En), T[p]? = some en -> RnE P X D ih l en /\ eA T ef (p + 1) = Vp en.o.dst en.v en.e /\ sA T sf (p + 1) = en.s1
 | [], _, _, _, p, en, hp => by simp at hp
 | en0 :: T, e, s, h, p, en, hp => by
   obtain ⟨h1, h2, h3, h4⟩ := h;cases p with
   | zero =>
     cases (show some en0 = some en from hp);obtain ⟨g1, g2⟩ := Gn h4;refine ⟨h3, ?_, ?_⟩
     ·rw [h1, <- g1]; rfl
     ·rw [<- g2]; rfl
   | succ p => exact Tw T h4 p en hp
end
def uN (e0 : Env) (T : List En) (ê : Env) (S : Nat -> Prop) : Prop :=
 (∀ t, has ê t = has e0 t) /\ (∀ (p : Nat) (en : En) (t : Nat), T[p]? = some en -> S p -> en.o.dst = some t -> get ê t = if has e0 t then some en.v else none) /\
 ∀ t, (∀ (p : Nat) (en : En), T[p]? = some en -> S p -> en.o.dst ≠ some t) -> get ê t = get e0 t
variable {S : Nat -> Prop}
theorem uN.start (e0 : Env) (T : List En) (h : ∀ p, ¬ S p) : uN e0 T e0 S := ⟨fun _ => rfl, fun p _ _ _ hs => absurd hs (h p), fun _ _ => rfl⟩
variable {T : List En} {e0 : Env}
theorem uN.cong {ê : Env} {S' : Nat -> Prop} (h : uN e0 T ê S) (hs : ∀ p, p < T.length -> (S p ↔ S' p)) : uN e0 T ê S' :=
 ⟨h.1, fun p en t hp hS hd => h.2.1 p en t hp ((hs p (List.getElem?_eq_some_iff.1 hp).1).2 hS) hd, fun t ht => h.2.2 t fun p en hp hS => ht p en hp ((hs p (List.getElem?_eq_some_iff.1 hp).1).1 hS)⟩
theorem uN.add {ê : Env} (h : uN e0 T ê S) {p : Nat} {en : En} (hp : T[p]? = some en) (hd : ∀ (p p' : Nat) (en en' : En) (t : Nat), T[p]? = some en -> T[p']? = some en' -> en.o.dst = some t -> en'.o.dst = some t -> p = p') :
  uN e0 T (Vp en.o.dst en.v ê) (fun p' => S p' \/ p' = p) := by
 cases hdst : en.o.dst with
 | none =>
   refine ⟨h.1, fun p' en' t hp' hS ht => ?_, fun t ht => h.2.2 t fun p' en' hp' hS => ht p' en' hp' (.inl hS)⟩;rcases hS with hS | rfl
   ·exact h.2.1 p' en' t hp' hS ht
   ·rw [hp] at hp'; cases hp'; rw [hdst] at ht; cases ht
 | some d =>
   refine ⟨fun t => (JD _ _ _ _).trans (h.1 t), fun p' en' t hp' hS ht => ?_, fun t ht => ?_⟩
   ·show get (pt (some en.v) ê d) t = _;rw [bf];rcases hS with hS | rfl
    ·by_cases e1 : t = d
     ·subst e1;have := hd p' p en' en t hp' hp ht hdst;subst this;rw [hp] at hp'; cases hp';rw [if_pos rfl, h.1]
     ·rw [if_neg e1]; exact h.2.1 p' en' t hp' hS ht
    ·rw [hp] at hp'; cases hp';rw [hdst] at ht; cases ht;rw [if_pos rfl, h.1]
   ·show get (pt (some en.v) ê d) t = _;rw [bf, if_neg fun e1 => ht p en hp (.inr rfl) (by rw [hdst, e1])];exact h.2.2 t fun p' en' hp' hS => ht p' en' hp' (.inl hS)
end Go.Ev
namespace Go.Ev
open Go.Eng
def Sx (pl : Pl) (listed : Array Bool) (p : Nat) : Prop := ∃ (i : Nat) (ck : List Nat), pl[p]? = some (i, ck) /\ listed.getD i false = true
structure Cx (P : Program) (X : ki) (D : Nat -> Option DE) (ih : jn) (nt : Nat) (l : List Oper) (pl : Pl) (bs : List Nat) (T : List En) (e0 : Env) (s0 : St) (ef : Env) (sf : St) : Prop where
 pf : Pf P l pl bs
 at' : ∀ {p i : Nat} {ck : List Nat}, pl[p]? = some (i, ck) -> ∃ en, T[p]? = some en /\ l[i]? = some en.o /\ en.ck = ck
 ta : ∀ {p : Nat} {en : En}, T[p]? = some en -> ∃ i, pl[p]? = some (i, en.ck) /\ l[i]? = some en.o
 rn : ∀ {p : Nat} {en : En}, T[p]? = some en -> RnE P X D ih l en /\ eA T ef (p + 1) = Vp en.o.dst en.v en.e /\ sA T sf (p + 1) = en.s1
 st : eA T ef 0 = e0 /\ sA T sf 0 = s0
 sl : ∀ {i : Nat} {o : Oper} {t : Nat}, l[i]? = some o -> o.dst = some t -> t < nt
variable {T : List En} {en : En} {p : Nat}
theorem KA {sf : St} (h : T[p]? = some en) : sA T sf p = en.s := by unfold sA; rw [h]
theorem TV {ef : Env} (h : T[p]? = some en) : eA T ef p = en.e := by unfold eA; rw [h]
theorem Qr (h : T[p]? = some en) : p < T.length := (List.getElem?_eq_some_iff.1 h).1
theorem Qs (h : p < T.length) : ∃ en, T[p]? = some en := ⟨_, List.getElem?_eq_getElem h⟩
theorem XV (P : Program) (o : Op) : (qU P o = 0 /\ Ys P o = 0 /\ Kq P o = false) \/ (qU P o = 1 /\ (Ys P o = 0 \/ Ys P o = 1)) \/ (qU P o = 2 /\ Ys P o = 2) \/ (qU P o = 3 /\ 3 <= Ys P o) := by
 unfold qU;generalize Ys P o = k
 match k with
 | 0 => cases hu : Kq P o <;> simp
 | 1 => simp
 | 2 => simp
 | k + 3 => simp
section
variable {P : Program} {X : ki} {D : Nat -> Option DE} {ih : jn} {nt : Nat} {l : List Oper} {pl : Pl} {bs : List Nat} {T : List En} {e0 ef : Env} {s0 sf : St}
theorem Cx.dist (cx : Cx P X D ih nt l pl bs T e0 s0 ef sf) : ∀ (p p' : Nat) (en en' : En) (t : Nat), T[p]? = some en -> T[p']? = some en' -> en.o.dst = some t -> en'.o.dst = some t -> p = p' := by
 intro p p' en en' t hp hp' hd hd';obtain ⟨i, h1, h2⟩ := cx.ta hp;obtain ⟨j, h3, h4⟩ := cx.ta hp';have e1 : i = j := cx.pf.ds (t := t) (by unfold qg; rw [h2]; exact hd) (by unfold qg; rw [h4]; exact hd');subst e1;exact cx.pf.inj h1 h3
theorem Cx.canon (cx : Cx P X D ih nt l pl bs T e0 s0 ef sf) : ∀ p, p <= T.length -> uN e0 T (eA T ef p) (· < p)
 | 0, _ => by rw [cx.st.1]; exact uN.start e0 T fun p => Nat.not_lt_zero p
 | p + 1, h => by
   obtain ⟨en, hp⟩ := Qs (T := T) (p := p) h;rw [(cx.rn hp).2.1, <- TV (ef := ef) hp];exact ((cx.canon p (Nat.le_of_succ_le h)).add hp cx.dist).cong fun q _ => by show (q < p \/ q = p) ↔ q < p + 1; omega
variable {en : En} {p : Nat}
theorem Cx.agree (cx : Cx P X D ih nt l pl bs T e0 s0 ef sf) {ê : Env} {S : Nat -> Prop} {q i : Nat} {ck : List Nat} (hE : uN e0 T ê S) (hq : q <= T.length) (hp : pl[p]? = some (i, ck)) (ht : T[p]? = some en) (h : ∀ (t : Nat) (p' j : Nat) (ck' : List Nat), t ∈ fY l en.o -> pl[p']? = some (j, ck') -> qg l j = some t -> (S p' ↔ p' < q)) : ∀ t ∈ fY l en.o, get ê t = get (eA T ef q) t := by
 intro t htm;have hC := cx.canon q hq;by_cases hex : ∃ (p' : Nat) (en' : En), T[p']? = some en' /\ en'.o.dst = some t
 ·obtain ⟨p', en', h1, h2⟩ := hex;obtain ⟨j, h3, h4⟩ := cx.ta h1;have hiff := h t p' j en'.ck htm h3 (by unfold qg; rw [h4]; exact h2);by_cases hS : S p'
  ·rw [hE.2.1 p' en' t h1 hS h2, hC.2.1 p' en' t h1 (hiff.1 hS) h2]
  ·rw [hE.2.2 t fun p2 en2 g1 g2 g3 => hS (by have := cx.dist p2 p' en2 en' t g1 h1 g3 h2; subst this; exact g2),
    hC.2.2 t fun p2 en2 g1 g2 g3 => hS (hiff.2 (by have := cx.dist p2 p' en2 en' t g1 h1 g3 h2; subst this; exact g2))]
 ·have hno : ∀ (p' : Nat) (en' : En), T[p']? = some en' -> en'.o.dst ≠ some t := fun p' en' h1 h2 => hex ⟨p', en', h1, h2⟩;rw [hE.2.2 t fun p2 en2 g1 _ => hno p2 en2 g1, hC.2.2 t fun p2 en2 g1 _ => hno p2 en2 g1]
variable {o : Oper}
theorem UX {ê e : Env} (h : ∀ t ∈ fY l o, get ê t = get e t) : ∀ y ∈ o.op.operands, ev e y = ev ê y := by
 intro y hy;cases y with
 | tmp t => exact (h t (List.mem_append_left _ (List.mem_filterMap.2 ⟨.tmp t, by simpa using hy, rfl⟩))).symm
 | _ => rfl
theorem eR {ê e : Env} (h : ∀ t ∈ fY l o, get ê t = get e t) : wanted l ê o = wanted l e o := by
 unfold wanted;cases hg : o.guard with
 | none => rfl
 | some pw =>
   obtain ⟨j, w⟩ := pw;show dM l ê j w = dM l e j w;unfold dM;cases hj : vZ l j with
   | none => rfl
   | some o' =>
     show Option.rec (motive := fun _ => Option Bool) none _ o'.dst = Option.rec (motive := fun _ => Option Bool) none _ o'.dst;cases hd : o'.dst with
     | none => rfl
     | some t =>
       show Option.rec (motive := fun _ => Option Bool) none _ (get ê t) = Option.rec (motive := fun _ => Option Bool) none _ (get e t);rw [h t (List.mem_append_right _ (by rw [hg]; simp [hj, hd]))]
structure Ke (P : Program) (T : List En) (sf : St) (a b : Nat) : Prop where
 nx : (sA T sf a).nx <= (sA T sf b).nx
 le : OG (sA T sf a).h (sA T sf b).h
 old : ∀ id, id < (sA T sf a).nx -> get (sA T sf b).h id = get (sA T sf a).h id
 hi : ∀ id, (sA T sf b).nx <= id -> get (sA T sf b).h id = get (sA T sf a).h id
 new : ∀ (p : Nat) (en : En), a <= p -> p < b -> T[p]? = some en -> qU P en.o.op = 2 -> en.w = true -> (sA T sf a).nx <= en.s.nx /\ en.s.nx < (sA T sf b).nx /\ ∀ u, get (sA T sf b).h en.s.nx = some u -> get en.s1.h en.s.nx = some u
theorem Ke.refl (a : Nat) : Ke P T sf a a := ⟨Nat.le_refl _, OG.refl _, fun _ _ => rfl, fun _ _ => rfl, fun p en h1 h2 => absurd h2 (Nat.not_lt_of_le h1)⟩
theorem Cx.quiet (cx : Cx P X D ih nt l pl bs T e0 s0 ef sf) (hX : kN P X) (hD : aC P D) (hI : vP P ih) (hN : wq P) (hp : T[p]? = some en) (hc : qU P en.o.op ≠ 3) :
  (en.s1 = en.s /\ ¬ (qU P en.o.op = 2 /\ en.w = true)) \/ (en.s1.nx = en.s.nx + 1 /\ get en.s.h en.s.nx = none /\ ∀ m, m ≠ en.s.nx -> get en.s1.h m = get en.s.h m) := by
 obtain ⟨hr, -, -⟩ := cx.rn hp;cases hw : en.w with
 | false => exact .inl ⟨(hr.no hw).2, by simp⟩
 | true =>
   obtain ⟨h1, h2⟩ := hr.run hw
   have q0 : ∀ {H : Tr AO}, qK P en.e H (fun v => kI v en.s) en.o.op = kI en.v en.s1 -> en.s1 = en.s := fun {H} h => by
    obtain ⟨v, h3, -⟩ := Ue (P := P) (s := ⟨H, 0⟩) h (XM _ _);exact (bc h3).2.symm
   rcases XV P en.o.op with ⟨g1, g2, -⟩ | ⟨g1, g2 | g2⟩ | ⟨g1, g2⟩ | ⟨g1, g2⟩
   ·rw [g2] at h1; exact .inl ⟨q0 h1, by rw [g1]; decide⟩
   ·rw [g2] at h1; exact .inl ⟨q0 h1, by rw [g1]; decide⟩
   ·rw [g2] at h1; exact .inl ⟨q0 h1, by rw [g1]; decide⟩
   ·rw [g2] at h1;obtain ⟨ao, v, h3, -⟩ := MK (P := P) (show nK P en.e (fun ao v => bC en.s ao fun _ s => kI v s) en.s.nx en.o.op = kI en.v en.s1 from h1) (XM _ _);obtain ⟨s', h4, h5, h6, h7⟩ := qQ h3;obtain ⟨-, rfl⟩ := bc h4;exact .inr ⟨h5, h2 g2, h6⟩
   ·exact absurd g1 hc
variable {a : Nat}
theorem Cx.seg (cx : Cx P X D ih nt l pl bs T e0 s0 ef sf) (hX : kN P X) (hD : aC P D) (hI : vP P ih) (hN : wq P) : ∀ b, a <= b -> b <= T.length -> (∀ (p : Nat) (en : En), a <= p -> p < b -> T[p]? = some en -> qU P en.o.op ≠ 3) -> Ke P T sf a b
 | 0, h, _, _ => by
   have : a = 0 := Nat.le_zero.1 h;subst this; exact Ke.refl 0
 | b + 1, h, hb, hq => by
   by_cases e1 : a = b + 1
   ·subst e1; exact Ke.refl _
   have hab : a <= b := by omega
   have g := cx.seg hX hD hI hN b hab (Nat.le_of_succ_le hb) fun p en h1 h2 => hq p en h1 (Nat.lt_succ_of_lt h2);obtain ⟨en, hp⟩ := Qs (T := T) (p := b) hb;have hs := KA (sf := sf) hp;have hs1 := (cx.rn hp).2.2;rcases cx.quiet hX hD hI hN hp (hq b en hab (Nat.lt_succ_self b) hp) with ⟨h1, h2⟩ | ⟨h1, h2, h3⟩
   ·have e2 : sA T sf (b + 1) = sA T sf b := by rw [hs1, h1, hs]
    refine ⟨by rw [e2]; exact g.nx, by rw [e2]; exact g.le, by rw [e2]; exact g.old, by rw [e2]; exact g.hi, fun p en' g1 g2 g3 g4 g5 => ?_⟩;by_cases e3 : p = b
    ·subst e3; rw [hp] at g3; cases g3; exact absurd ⟨g4, g5⟩ h2
    ·rw [e2]; exact g.new p en' g1 (by omega) g3 g4 g5
   ·have hnx : (sA T sf (b + 1)).nx = (sA T sf b).nx + 1 := by rw [hs1, h1, hs]
    have hne : ∀ m, m ≠ (sA T sf b).nx -> get (sA T sf (b + 1)).h m = get (sA T sf b).h m := fun m hm => by rw [hs1, hs]; exact h3 m (by rw [hs] at hm; exact hm)
    have hfr : get (sA T sf b).h (sA T sf b).nx = none := by rw [hs]; exact h2
    refine ⟨by have := g.nx; omega, g.le.trans fun i o ho => ?_, fun id hid => ?_, fun id hid => (hne id (by omega)).trans (g.hi id (by omega)), fun p en' g1 g2 g3 g4 g5 => ?_⟩
    ·rw [hne i fun e => by rw [e, hfr] at ho; cases ho]; exact ho
    ·rw [hne id fun e => by have := g.nx; omega]; exact g.old id hid
    ·by_cases e3 : p = b
     ·subst e3; rw [hp] at g3; cases g3;refine ⟨by rw [<- hs]; exact g.nx, by rw [hnx, hs]; exact Nat.lt_succ_self _, fun u hu => ?_⟩;rw [hs1] at hu; exact hu
     ·obtain ⟨k1, k2, k3⟩ := g.new p en' g1 (by omega) g3 g4 g5;refine ⟨k1, by omega, fun u hu => k3 u ?_⟩;rw [<- hne _ (by omega)]; exact hu
variable {B : Mp} {I : As} {w : World} {x : Fx}
theorem Ke.ms {b : Nat} (q : Ke P T sf a b) (M : Ms P x B I (sA T sf a) w) : Ms P x B I (sA T sf b) w /\ wm I (sA T sf a) I (sA T sf b) := by
 have sub : ∀ {i : Nat} {o : AO} {y : Nat × Nat × Option Nat}, get (sA T sf b).h i = some o -> I i = some y -> get (sA T sf a).h i = some o := fun {i o y} h g => by
  rcases Nat.lt_or_ge i (sA T sf a).nx with h1 | h1
  ·rw [<- q.old i h1]; exact h
  ·rw [M.hp.new i h1] at g; cases g
 exact ⟨⟨M.gl, M.wd, ⟨fun i o y h g => M.hp.obj i o y (sub h g) g, fun i j o o' y z h h' g g' e => M.hp.sep i j o o' y z (sub h g) (sub h' g') g g' e, fun i hi => M.hp.new i (Nat.le_trans q.nx hi), fun i o y h g => M.hp.out i o y (sub h g) g, M.hp.base, fun i hi => (q.hi i hi).trans (M.hp.fre i (Nat.le_trans q.nx hi))⟩⟩,
  ⟨dp.refl I, fun _ _ => rfl, fun j hj _ => q.old j hj, q.nx⟩⟩
theorem Mt.le {n : Nat} {e : Env} {s : St} {a : Act} (M : Mt P x n B I e s a w) {h : Tr AO} (hl : OG h s.h) : Mt P x n B I e ⟨h, s.nx⟩ a w :=
 ⟨M.sz, M.df, M.env, M.gl, M.wd, ⟨fun i o y h1 => M.hp.obj i o y (hl i o h1), fun i j o o' y z h1 h2 => M.hp.sep i j o o' y z (hl i o h1) (hl j o' h2), M.hp.new, fun i o y h1 => M.hp.out i o y (hl i o h1), M.hp.base, fun i hi => by
  cases hg : get h i with
  | none => rfl
  | some o => have := hl i o hg; rw [M.hp.fre i hi] at this; cases this⟩⟩
end
end Go.Ev
namespace Go.Ev
open Go.Eng
def Iv (P : Program) (x : Fx) (n : Nat) (B : Mp) (I0 : As) (l : List Oper) (pl : Pl) (T : List En) (e0 : Env) (s0 sf : St) (listed : Array Bool) (a : Act) (w : World) : Prop :=
 listed.size = l.length /\ (∀ (i : Nat) (o : Oper) (k : Nat), listed.getD i false = true -> l[i]? = some o -> k ∈ aj o -> listed.getD k false = true) /\
 ∃ (q : Nat) (J : As) (ê : Env), q <= T.length /\ (∀ (p : Nat) (en : En), T[p]? = some en -> qU P en.o.op = 3 -> (Sx pl listed p ↔ p < q)) /\ (∀ en, T[q]? = some en -> qU P en.o.op = 3) /\
  uN e0 T ê (Sx pl listed) /\ wm I0 s0 J (sA T sf q) /\ Mt P x n B J ê (sA T sf q) a w /\
  (∀ (p : Nat) (en : En), p < q -> T[p]? = some en -> qU P en.o.op = 2 -> en.w = true -> ¬ Sx pl listed p -> J en.s.nx = none /\ s0.nx <= en.s.nx /\ en.s.nx < (sA T sf q).nx /\ ∀ u, get (sA T sf q).h en.s.nx = some u -> get en.s1.h en.s.nx = some u) /\
  ∀ (p p' : Nat) (en en' : En), p < p' -> p' < q -> T[p]? = some en -> T[p']? = some en' -> qU P en.o.op = 2 -> qU P en'.o.op = 2 -> en.w = true -> en'.w = true -> ¬ Sx pl listed p -> ¬ Sx pl listed p' -> en.s.nx < en'.s.nx
section
variable {P : Program} {X : ki} {D : Nat -> Option DE} {ih : jn} {nt : Nat} {l : List Oper} {pl : Pl} {bs : List Nat} {T : List En} {e0 ef : Env} {s0 sf : St}
variable {i : Nat} {listed : Array Bool}
theorem WD (h : listed.getD i false = true) : i < listed.size := by
 rcases Nat.lt_or_ge i listed.size with h1 | h1
 ·exact h1
 ·simp [Array.getElem?_eq_none h1] at h
theorem Cx.closed (cx : Cx P X D ih nt l pl bs T e0 s0 ef sf) (hs : listed.size = l.length) (hc : ∀ (i : Nat) (o : Oper) (k : Nat), listed.getD i false = true -> l[i]? = some o -> k ∈ aj o -> listed.getD k false = true) :
  ∀ (p i : Nat) (ck : List Nat) (j : Nat), pl[p]? = some (i, ck) -> listed.getD i false = true -> j < l.length -> Vq bs i j = true -> listed.getD j false = true := by
 intro p
 induction p using Nat.strongRecOn with
 | ind p ih =>
   intro i ck j hp hi hj hpm;obtain ⟨o, k, h1, h2, h3⟩ := cx.pf.ju (by rw [<- hs]; exact WD hi) hj hpm;have hk := hc i o k hi h1 h2;rcases h3 with rfl | h3
   ·exact hk
   ·obtain ⟨p', ck', h4, h5⟩ := cx.pf.bnd hp h1 h2;exact ih p' h4 k ck' j h5 hk hj h3
variable {ck : List Nat} {p : Nat}
theorem QN (cx : Cx P X D ih nt l pl bs T e0 s0 ef sf) (hp : pl[p]? = some (i, ck)) : Sx pl listed p ↔ listed.getD i false = true :=
 ⟨fun ⟨j, ck', h1, h2⟩ => by rw [hp] at h1; cases h1; exact h2, fun h => ⟨i, ck, hp, h⟩⟩
theorem LO (cx : Cx P X D ih nt l pl bs T e0 s0 ef sf) (hp : pl[p]? = some (i, ck)) (hi : i < listed.size) (p' : Nat) : Sx pl (listed.setIfInBounds i true) p' ↔ (Sx pl listed p' \/ p' = p) := by
 constructor
 ·rintro ⟨j, ck', h1, h2⟩;by_cases e : i = j
  ·subst e; exact .inr (cx.pf.inj h1 hp)
  ·rw [getD_set_ne false e] at h2; exact .inl ⟨j, ck', h1, h2⟩
 ·rintro (⟨j, ck', h1, h2⟩ | rfl)
  ·exact ⟨j, ck', h1, getD_set_true h2⟩
  ·exact ⟨i, ck, hp, by simp [hi]⟩
theorem aS (P : Program) (T : List En) : ∀ (k a : Nat), a + k = T.length -> ∃ b, a <= b /\ b <= T.length /\ (∀ (p : Nat) (en : En), a <= p -> p < b -> T[p]? = some en -> qU P en.o.op ≠ 3) /\ ∀ en, T[b]? = some en -> qU P en.o.op = 3
 | 0, a, h => ⟨a, Nat.le_refl _, by omega, fun p en h1 h2 => absurd h2 (Nat.not_lt_of_le h1), fun en he => by have := Qr he; omega⟩
 | k + 1, a, h => by
   obtain ⟨en, he⟩ := Qs (T := T) (p := a) (by omega);by_cases hc : qU P en.o.op = 3
   ·exact ⟨a, Nat.le_refl _, by omega, fun p en h1 h2 => absurd h2 (Nat.not_lt_of_le h1), fun en' he' => by rw [he] at he'; cases he'; exact hc⟩
   ·obtain ⟨b, h1, h2, h3, h4⟩ := aS P T k (a + 1) (by omega);refine ⟨b, by omega, h2, fun p en' g1 g2 g3 => ?_, h4⟩;by_cases e : p = a
    ·subst e; rw [he] at g3; cases g3; exact hc
    ·exact h3 p en' (by omega) g2 g3
theorem Cx.loudEnd (cx : Cx P X D ih nt l pl bs T e0 s0 ef sf) (hX : kN P X) (hD : aC P D) (hI : vP P ih) (hN : wq P) {x : Fx} {n : Nat} {B : Mp} {I0 J J' : As} {listed : Array Bool} {q : Nat} {en : En} {ê : Env} {a' : Act} {w' : World} (hs : listed.size = l.length) (hc' : ∀ (i' : Nat) (o : Oper) (k : Nat), (listed.setIfInBounds i true).getD i' false = true -> l[i']? = some o -> k ∈ aj o -> (listed.setIfInBounds i true).getD k false = true) (hp : pl[q]? = some (i, ck)) (he : T[q]? = some en) (hcl : qU P en.o.op = 3) (hi : i < listed.size) (hl : ∀ (p : Nat) (en : En), T[p]? = some en -> qU P en.o.op = 3 -> (Sx pl listed p ↔ p < q)) (hE : uN e0 T ê (Sx pl listed)) (hS : wm I0 s0 J (sA T sf q)) (hA : ∀ (p : Nat) (en : En), p < q -> T[p]? = some en -> qU P en.o.op = 2 -> en.w = true -> ¬ Sx pl listed p -> J en.s.nx = none /\ s0.nx <= en.s.nx /\ en.s.nx < (sA T sf q).nx /\ ∀ u, get (sA T sf q).h en.s.nx = some u -> get en.s1.h en.s.nx = some u) (hO : ∀ (p p' : Nat) (en en' : En), p < p' -> p' < q -> T[p]? = some en -> T[p']? = some en' -> qU P en.o.op = 2 -> qU P en'.o.op = 2 -> en.w = true -> en'.w = true -> ¬ Sx pl listed p -> ¬ Sx pl listed p' -> en.s.nx < en'.s.nx) (hJ : wm J (sA T sf q) J' (sA T sf (q + 1))) (M' : Mt P x n B J' (Vp en.o.dst en.v ê) (sA T sf (q + 1)) a' w') : Iv P x n B I0 l pl T e0 s0 sf (listed.setIfInBounds i true) a' w' := by
 have jg := LO cx (listed := listed) hp hi;obtain ⟨b, g1, g2, g3, g4⟩ := aS P T (T.length - (q + 1)) (q + 1) (by have := Qr he; omega);have sg := cx.seg hX hD hI hN b g1 g2 g3;obtain ⟨m1, m2⟩ := sg.ms M'.ms
 refine ⟨by simp [hs], hc', b, J', _, g2, fun p en' h1 h2 => ?_, g4, (hE.add he cx.dist).cong fun p _ => (jg p).symm, (hS.trans hJ).trans m2, m1.mt M'.sz M'.df M'.env, fun p en' h1 h2 h3 h4 h5 => ?_, fun p p' en1 en2 h1 h2 h3 h4 h5 h6 h7 h8 h9 h10 => ?_⟩
 ·rw [jg, hl p en' h1 h2];rcases Nat.lt_trichotomy p q with h | h | h
  ·omega
  ·omega
  ·have := g3 p en' (by omega)
   constructor
   ·omega
   ·intro h5; exact absurd h2 (this h5 h1)
 ·have hno : ¬ Sx pl listed p := fun h => h5 ((jg p).2 (.inl h));rcases Nat.lt_trichotomy p q with h | h | h
  ·obtain ⟨k1, k2, k3, k4⟩ := hA p en' h h2 h3 h4 hno;have hlt1 := Nat.lt_of_lt_of_le k3 hJ.nx;refine ⟨(hJ.same _ k3).trans k1, k2, Nat.lt_of_lt_of_le hlt1 sg.nx, fun u hu => k4 u ?_⟩;rw [sg.old _ hlt1, hJ.gh _ k3 k1] at hu;exact hu
  ·subst h; rw [he] at h2; cases h2; rw [hcl] at h3; cases h3
  ·obtain ⟨k1, k2, k3⟩ := sg.new p en' (by omega) h1 h2 h3 h4;exact ⟨M'.hp.new _ k1, Nat.le_trans (Nat.le_trans hS.nx hJ.nx) k1, k2, k3⟩
 ·have hn1 : ¬ Sx pl listed p := fun h => h9 ((jg p).2 (.inl h));have hn2 : ¬ Sx pl listed p' := fun h => h10 ((jg p').2 (.inl h));rcases Nat.lt_trichotomy p' q with h | h | h
  ·exact hO p p' en1 en2 h1 h h3 h4 h5 h6 h7 h8 hn1 hn2
  ·subst h; rw [he] at h4; cases h4; rw [hcl] at h6; cases h6
  ·obtain ⟨k1, -, -⟩ := sg.new p' en2 (by omega) h2 h4 h6 h8;rcases Nat.lt_trichotomy p q with h' | h' | h'
   ·obtain ⟨-, -, k3, -⟩ := hA p en1 h' h3 h5 h7 hn1;exact Nat.lt_of_lt_of_le k3 (Nat.le_trans hJ.nx k1)
   ·subst h'; rw [he] at h3; cases h3; rw [hcl] at h5; cases h5
   ·have DV := cx.seg hX hD hI hN (a := q + 1) p' (by omega) (by omega) fun p3 en3 r1 r2 r3 => g3 p3 en3 r1 (by omega) r3;obtain ⟨-, k5, -⟩ := DV.new p en1 (by omega) h1 h3 h5 h7;rw [KA h4] at k5;exact k5
end
end Go.Ev
namespace Go.Ev
open Go.Eng
section
variable {P : Program} {X : ki} {D : Nat -> Option DE} {ih : jn} {nt : Nat} {l : List Oper} {pl : Pl} {bs : List Nat} {T : List En} {e0 ef : Env} {s0 sf : St}
variable {B : Mp} {I0 : As} {i n : Nat} {x : Fx}
theorem Cx.quietEnd (cx : Cx P X D ih nt l pl bs T e0 s0 ef sf) {J' : As} {listed : Array Bool} {q p : Nat} {ck : List Nat} {en : En} {ê : Env} {a' : Act} {w' : World} (hs : listed.size = l.length) (hc' : ∀ (i' : Nat) (o : Oper) (k : Nat), (listed.setIfInBounds i true).getD i' false = true -> l[i']? = some o -> k ∈ aj o -> (listed.setIfInBounds i true).getD k false = true) (hp : pl[p]? = some (i, ck)) (he : T[p]? = some en) (hcl : qU P en.o.op ≠ 3) (hi : i < listed.size) (hq : q <= T.length) (hl : ∀ (p : Nat) (en : En), T[p]? = some en -> qU P en.o.op = 3 -> (Sx pl listed p ↔ p < q)) (hl' : ∀ en, T[q]? = some en -> qU P en.o.op = 3) (hE : uN e0 T ê (Sx pl listed)) (hS : wm I0 s0 J' (sA T sf q)) (hA : ∀ (p' : Nat) (en' : En), p' < q -> T[p']? = some en' -> qU P en'.o.op = 2 -> en'.w = true -> ¬ Sx pl listed p' -> p' ≠ p -> J' en'.s.nx = none /\ s0.nx <= en'.s.nx /\ en'.s.nx < (sA T sf q).nx /\ ∀ u, get (sA T sf q).h en'.s.nx = some u -> get en'.s1.h en'.s.nx = some u) (hO : ∀ (p p' : Nat) (en en' : En), p < p' -> p' < q -> T[p]? = some en -> T[p']? = some en' -> qU P en.o.op = 2 -> qU P en'.o.op = 2 -> en.w = true -> en'.w = true -> ¬ Sx pl listed p -> ¬ Sx pl listed p' -> en.s.nx < en'.s.nx) (M' : Mt P x n B J' (Vp en.o.dst en.v ê) (sA T sf q) a' w') : Iv P x n B I0 l pl T e0 s0 sf (listed.setIfInBounds i true) a' w' := by
 have jg := LO cx (listed := listed) hp hi;refine ⟨by simp [hs], hc', q, J', _, hq, fun p' en' h1 h2 => ?_, hl', (hE.add he cx.dist).cong fun p _ => (jg p).symm, hS, M', fun p' en' h1 h2 h3 h4 h5 => ?_, fun p1 p2 en1 en2 h1 h2 h3 h4 h5 h6 h7 h8 h9 h10 => ?_⟩
 ·rw [jg, hl p' en' h1 h2]
  constructor
  ·rintro (h | rfl)
   ·exact h
   ·rw [he] at h1; cases h1; exact absurd h2 hcl
  ·exact .inl
 ·exact hA p' en' h1 h2 h3 h4 (fun h => h5 ((jg p').2 (.inl h))) fun h => h5 ((jg p').2 (.inr h))
 ·exact hO p1 p2 en1 en2 h1 h2 h3 h4 h5 h6 h7 h8 (fun h => h9 ((jg p1).2 (.inl h))) fun h => h10 ((jg p2).2 (.inl h))
theorem XJ (P : Program) (T : List En) (p : Nat) : ∀ q, p < q -> q <= T.length -> ∃ m, p <= m /\ m <= q /\ (∀ (p' : Nat) (en : En), m <= p' -> p' < q -> T[p']? = some en -> p' ≠ p -> qU P en.o.op ≠ 3) /\ (m = p \/ ∃ m' en, m = m' + 1 /\ p < m' /\ T[m']? = some en /\ qU P en.o.op = 3)
 | 0, h, _ => absurd h (Nat.not_lt_zero _)
 | q + 1, h, hq => by
   by_cases e : p = q
   ·subst e; exact ⟨p, Nat.le_refl _, Nat.le_succ _, fun p' en h1 h2 h3 h4 => absurd (by omega) h4, .inl rfl⟩
   obtain ⟨en, he⟩ := Qs (T := T) (p := q) hq;by_cases hc : qU P en.o.op = 3
   ·exact ⟨q + 1, by omega, Nat.le_refl _, fun p' en h1 h2 => absurd h2 (Nat.not_lt_of_le h1), .inr ⟨q, en, rfl, by omega, he, hc⟩⟩
   ·obtain ⟨m, h1, h2, h3, h4⟩ := XJ P T p q (by omega) (Nat.le_of_succ_le hq);refine ⟨m, h1, by omega, fun p' en' g1 g2 g3 g4 => ?_, h4⟩;by_cases e1 : p' = q
    ·subst e1; rw [he] at g3; cases g3; exact hc
    ·exact h3 p' en' g1 (by omega) g3 g4
variable {listed : Array Bool}
theorem Cx.step (cx : Cx P X D ih nt l pl bs T e0 s0 ef sf) (hX : kN P X) (hD : aC P D) (hI : vP P ih) (hN : wq P) (hn : nt <= n) {a : Act} {w : World} (h : Iv P x n B I0 l pl T e0 s0 sf listed a w) (hr : i ∈ Region.ready .any l.toArray listed) {Q : Exit -> Act -> World -> Prop} : wpOp P l.toArray Q i (Iv P x n B I0 l pl T e0 s0 sf (listed.setIfInBounds i true)) a w := by
 obtain ⟨hs, hc, q, J, ê, hq, hl, hl', hE, hS, M, hA, hO⟩ := h;obtain ⟨hun, o, ho, hrd⟩ := mem_ready.1 hr;have ho' : l[i]? = some o := by simpa using ho
 have hil : i < l.length := (List.getElem?_eq_some_iff.1 ho').1;have hi : i < listed.size := by rw [hs]; exact hil
 have hunf : listed.getD i false = false := by
  simp only [Array.getD_eq_getD_getElem?, Array.getElem?_eq_getElem hi, Option.getD_some] at hun ⊢;exact hun
 have hrd' : ∀ k ∈ aj o, listed.getD k false = true := fun k hk => by
  obtain ⟨ed, h1, h2, h3⟩ := Uy.1 hk;rw [<- h3]; exact hrd ed h1 h2
 obtain ⟨p, ck, hp⟩ := cx.pf.all hil;obtain ⟨en, he, heo, heck⟩ := cx.at' hp;rw [ho'] at heo;cases heo;have hcl' := cx.closed hs hc;have hnS : ¬ Sx pl listed p := fun h => by rw [QN cx hp, hunf] at h; cases h
 -- what the operation waits for is done; what waits for it is not
 have hpm : ∀ j, j < l.length -> Vq bs i j = true -> listed.getD j false = true := fun j hj hpm => by
  obtain ⟨o', k, h1, h2, h3⟩ := cx.pf.ju hil hj hpm;rw [ho'] at h1; cases h1;rcases h3 with rfl | h3
  ·exact hrd' _ h2
  ·obtain ⟨p', ck', h4, h5⟩ := cx.pf.bnd hp ho' h2;exact hcl' p' k ck' j h5 (hrd' k h2) hj h3
 have hpm2 : ∀ (p' j : Nat) (ck' : List Nat), pl[p']? = some (j, ck') -> Vq bs j i = true -> ¬ Sx pl listed p' := fun p' j ck' hj h1 h2 => by
  rw [QN cx hj] at h2;have := hcl' p' j ck' i hj h2 hil h1;rw [hunf] at this; cases this
 have hc' : ∀ (i' : Nat) (o : Oper) (k : Nat), (listed.setIfInBounds i true).getD i' false = true -> l[i']? = some o -> k ∈ aj o -> (listed.setIfInBounds i true).getD k false = true := fun i' o2 k h1 h2 h3 => by
  by_cases e : i = i'
  ·subst e; rw [ho'] at h2; cases h2; exact getD_set_true (hrd' k h3)
  ·rw [getD_set_ne false e] at h1; exact getD_set_true (hc i' o2 k h1 h2 h3)
 obtain ⟨hrn, heA, hsA⟩ := cx.rn he;have hsp := KA (sf := sf) he
 have hag : ∀ t ∈ fY l en.o, get ê t = get en.e t := by
  rw [<- TV (ef := ef) he];refine cx.agree hE (Nat.le_of_lt (Qr he)) hp he fun t p' j ck' ht hp' hd => ?_;rcases cx.pf.lk hp ho' ht hp' hd with rfl | ⟨h1, h2⟩ | ⟨h1, h2⟩
  ·exact ⟨fun h => absurd h hnS, fun h => absurd h (Nat.lt_irrefl _)⟩
  ·exact ⟨fun _ => h1, fun _ => ⟨j, ck', hp', hpm j (U5 hd) h2⟩⟩
  ·exact ⟨fun h => absurd h (hpm2 p' j ck' hp' h2), fun h => absurd h (by omega)⟩
 have hops := UX hag;have hw : wanted l ê en.o = some en.w := by rw [eR hag]; exact hrn.wn
 have hslot : ∀ t, en.o.dst = some t -> t < n := fun t ht => Nat.lt_of_lt_of_le (cx.sl ho' ht) hn
 -- where it stands among the loud ones
 have hlq : qU P en.o.op ≠ 0 -> ∀ en', T[q]? = some en' -> ¬ q < p := fun h0 en' hen' hlt => by
  obtain ⟨j, h1, h2⟩ := cx.ta hen';have h3 := hl' en' hen';have := cx.pf.ld hp ho' h1 h2 hlt h3 h0;have hj := hpm j (List.getElem?_eq_some_iff.1 h2).1 this;exact absurd ((hl q en' hen' h3).1 ⟨j, _, h1, hj⟩) (Nat.lt_irrefl _)
 have hlt_q : qU P en.o.op ≠ 0 -> qU P en.o.op ≠ 3 -> p < q := fun h0 h3 => by
  rcases Nat.lt_trichotomy p q with h | h | h
  ·exact h
  ·subst h; exact absurd (hl' en he) h3
  ·obtain ⟨en', hen'⟩ := Qs (T := T) (p := q) (Nat.lt_trans h (Qr he));exact absurd h (hlq h0 en' hen')
 have heq_q : qU P en.o.op = 3 -> p = q := fun h3 => by
  rcases Nat.lt_trichotomy p q with h | h | h
  ·exact absurd ((hl p en he h3).2 h) hnS
  ·exact h
  ·obtain ⟨en', hen'⟩ := Qs (T := T) (p := q) (Nat.lt_trans h (Qr he));exact absurd h (hlq (by rw [h3]; decide) en' hen')
 unfold wpOp;rw [ho];simp only;cases hwv : en.w with
 | false =>
   rw [if_neg (by rw [ko M (hw.trans (by rw [hwv]))]; decide)];obtain ⟨hv, hs1⟩ := hrn.no hwv;have M' : Mt P x n B J (Vp en.o.dst en.v ê) (sA T sf q) (a.put en.o.dst undef) w := M.next hslot (dp.refl J) (by rw [hv]; exact .tuple .nil) M.ms;by_cases h3 : qU P en.o.op = 3
   ·have e1 := heq_q h3;subst e1;have e2 : sA T sf (p + 1) = sA T sf p := by rw [hsA, hs1, hsp]
    exact cx.loudEnd hX hD hI hN hs hc' hp he h3 hi hl hE hS hA hO (by rw [e2]; exact wm.refl _ _) (by rw [e2]; exact M')
   ·exact cx.quietEnd hs hc' hp he h3 hi hq hl hl' hE hS (fun p' en' g1 g2 g3 g4 g5 _ => hA p' en' g1 g2 g3 g4 g5) hO M'
 | true =>
   rw [if_pos (ko M (hw.trans (by rw [hwv])))];obtain ⟨hrun, -⟩ := hrn.run hwv
   -- a quiet operation whose value is told at blocks that are there
   have quiet : qU P en.o.op ≠ 3 -> qU P en.o.op ≠ 2 -> (∃ (h : Tr AO) (k : KV), OG h (sA T sf q).h /\ qK P ê h k en.o.op ≠ .no /\ (∀ v, k v = qK P ê h k en.o.op -> v = en.v)) ->
     en.o.wp P a w (Iv P x n B I0 l pl T e0 s0 sf (listed.setIfInBounds i true)) Q := by
    rintro h3 h2 ⟨h, k, hle, hne, hkv⟩;obtain ⟨v, g1, g2⟩ := Ue (P := P) (e := ê) (s := ⟨h, (sA T sf q).nx⟩) (k := k) (o := en.o.op) rfl hne;have hv := hkv v g1;subst hv;obtain ⟨u, g3, g4⟩ := g2 (M.le hle) en.o.dst en.o.type en.o.pos en.o.after en.o.guard;unfold Oper.wp;rw [show (⟨en.o.dst, en.o.op, en.o.type, en.o.pos, en.o.after, en.o.guard⟩ : Oper) = en.o from rfl] at g4
    rw [g4, Oper.upon_value];exact cx.quietEnd hs hc' hp he h3 hi hq hl hl' hE hS (fun p' en' g1 g2 g3 g4 g5 _ => hA p' en' g1 g2 g3 g4 g5) hO (M.next hslot (dp.refl J) g3 M.ms)
   rcases XV P en.o.op with ⟨c1, c2, c3⟩ | ⟨c1, c2⟩ | ⟨c1, c2⟩ | ⟨c1, c2⟩
   ·-- of slots alone
    rw [c2] at hrun
    have e1 : qK P ê (sA T sf q).h (fun v => kI v en.s) en.o.op = kI en.v en.s1 := by
     rw [<- hrun];exact (gC hops).symm.trans (Pw c2 c3)
    exact .inl (quiet (by rw [c1]; decide) (by rw [c1]; decide) ⟨_, _, OG.refl _, by rw [e1]; exact XM _ _, fun v hv => by rw [e1] at hv; exact (bc hv).1⟩)
   ·-- fY at blocks
    have hlt := hlt_q (by rw [c1]; decide) (by rw [c1]; decide);obtain ⟨m, g1, g2, g3, g4⟩ := XJ P T p q hlt hq
    have sg := cx.seg hX hD hI hN (a := m) q g2 hq fun p' en' r1 r2 r3 => by
     by_cases e1 : p' = p
     ·subst e1; rw [he] at r3; cases r3; rw [c1]; decide
     ·exact g3 p' en' r1 r2 r3 e1
    rcases g4 with rfl | ⟨m', en', rfl, g5, g6, g7⟩
    ·have e1 : qK P ê en.s.h (fun v => kI v en.s) en.o.op = kI en.v en.s1 := by
      rw [<- gC hops];rcases c2 with c2 | c2 <;> rw [c2] at hrun <;> exact hrun
     have sgle := sg.le;rw [hsp] at sgle;exact .inl (quiet (by rw [c1]; decide) (by rw [c1]; decide) ⟨_, _, sgle, by rw [e1]; exact XM _ _, fun v hv => by rw [e1] at hv; exact (bc hv).1⟩)
    ·obtain ⟨j, k1, k2⟩ := cx.ta g6;have hnp : Vq bs j i = true -> False := fun h => hpm2 m' j _ k1 h ((hl m' en' g6 g7).2 (by omega));rcases cx.pf.rd k1 k2 hp ho' g5 c1 g7 with h | ⟨h1, h2⟩
     ·exact (hnp h).elim
     obtain ⟨hrn', heA', hsA'⟩ := cx.rn g6;obtain ⟨o2, w2, r1, r2, r3⟩ := hrn'.rck i h1;rw [ho'] at r1; cases r1
     have hag2 : ∀ t ∈ fY l en.o, get ê t = get (eA T ef (m' + 1)) t := by
      refine cx.agree hE (by have := Qr g6; omega) hp he fun t p' j' ck' ht hp' hd => ?_;unfold L9 at h2;rw [ho'] at h2;have := List.all_eq_true.1 (List.all_eq_true.1 h2 t ht) _ (Wx.2 hd);rw [Bool.or_eq_true, bne_iff_ne] at this;rcases this with this | this
      ·exact absurd rfl this
      ·have hSp : Sx pl listed p' := ⟨j', ck', hp', hpm j' (U5 hd) this⟩;refine ⟨fun _ => ?_, fun _ => hSp⟩;rcases cx.pf.lk hp ho' ht hp' hd with rfl | ⟨k3, -⟩ | ⟨-, k4⟩
       ·exact absurd hSp hnS
       ·omega
       ·exact absurd hSp (hpm2 p' j' ck' hp' k4)
     rw [heA'] at hag2
     have hw2 : w2 = true := by
      rw [<- eR hag2, hw, hwv] at r2;cases r2; rfl
     obtain ⟨d, v', r4, r5, r6⟩ := r3 hw2
     have hv' : v' = en.v := by
      rw [<- heA'] at r5;have := (cx.canon (m' + 1) (Qr g6)).2.1 p en d he (by omega) r4;rw [this] at r5
      split at r5
      ·cases r5; rfl
      ·cases r5
     subst hv'
     have e1 : qK P ê en'.s1.h kJ en.o.op = kJ en.v := by
      rw [<- gC (UX hag2)]; exact r6
     rw [<- hsA'] at e1;exact .inl (quiet (by rw [c1]; decide) (by rw [c1]; decide) ⟨_, _, sg.le, by rw [e1]; exact Bu _, fun v hv => by rw [e1] at hv; exact Eu hv⟩)
   ·-- makes a block
    have hlt := hlt_q (by rw [c1]; decide) (by rw [c1]; decide);rw [c2] at hrun
    have e1 : nK P ê (fun ao v => bC en.s ao fun _ s => kI v s) en.s.nx en.o.op = kI en.v en.s1 := by
     rw [<- Uw hops]; exact hrun
    obtain ⟨ao, v, h3, h4⟩ := MK (P := P) e1 (XM _ _);obtain ⟨s', h5, h6, h7, h8⟩ := qQ h3;obtain ⟨rfl, rfl⟩ := bc h5;obtain ⟨k1, k2, k3, k4⟩ := hA p en hlt he c1 hwv hnS;obtain ⟨u, h', g, q', c, d', r1, r2, r3, r4, r5⟩ := h4 M k1 en.o.dst en.o.type en.o.pos en.o.after en.o.guard
    rw [show (⟨en.o.dst, en.o.op, en.o.type, en.o.pos, en.o.after, en.o.guard⟩ : Oper) = en.o from rfl] at r1;refine .inl ?_;unfold Oper.wp;rw [r1, Oper.upon_value];have hne : ∀ {j : Nat}, j ≠ en.s.nx -> upd J en.s.nx (g, q', c) j = J j := fun h => xo _ h
    have hid : ∀ (p' : Nat) (en' : En), p' < q -> T[p']? = some en' -> qU P en'.o.op = 2 -> en'.w = true -> ¬ Sx pl listed p' -> p' ≠ p -> en'.s.nx ≠ en.s.nx := fun p' en' y1 y2 y3 y4 y5 y6 => by
     rcases Nat.lt_trichotomy p' p with y7 | y7 | y7
     ·have := hO p' p en' en y7 hlt y2 he y3 c1 y4 hwv y5 hnS; omega
     ·exact absurd y7 y6
     ·have := hO p p' en en' y7 y1 he y2 c1 y3 hwv y4 hnS y5; omega
    have Ms' : Ms P x B (upd J en.s.nx (g, q', c)) (sA T sf q) (W x h' d') := by
     refine ⟨fun g' hg' => ?_, rfl, M.hp.add k1 r3 r2 r5 (fun j o hj => ?_) fun j hj => ⟨by omega, hj⟩⟩
     ·rw [hne fun e => by have := M.gl g' hg'; rw [e, k1] at this; cases this]; exact M.gl g' hg'
     ·by_cases e : j = en.s.nx
      ·subst e; exact .inl ⟨rfl, (h8 o (k4 o hj)).symm⟩
      ·exact .inr ⟨e, hj⟩
    refine cx.quietEnd hs hc' hp he (by rw [c1]; decide) hi hq hl hl' hE ⟨hS.ext.trans (u5 _ k1), fun j hj => (hne (by omega)).trans (hS.same j hj), hS.gh, hS.nx⟩ (fun p' en' y1 y2 y3 y4 y5 y6 => ?_) hO (M.next hslot (u5 _ k1) r4 Ms');obtain ⟨z1, z2, z3, z4⟩ := hA p' en' y1 y2 y3 y4 y5;exact ⟨(hne (hid p' en' y1 y2 y3 y4 y5 y6)).trans z1, z2, z3, z4⟩
   ·-- loud
    have e1 := heq_q c1;subst e1;obtain ⟨k, hk⟩ : ∃ k, Ys P en.o.op = k + 3 := ⟨Ys P en.o.op - 3, by omega⟩;rw [hk, Hc hops, <- hsp] at hrun;obtain ⟨v, s1, h1, h2⟩ := Ji hX hD hI hN hrun (XM _ _);obtain ⟨rfl, rfl⟩ := bc h1;refine .inl (h2 M en.o.dst en.o.type en.o.pos en.o.after en.o.guard _ _ fun J' u w' g1 g2 g3 => ?_);rw [<- hsA] at g1 g3
    exact cx.loudEnd hX hD hI hN hs hc' hp he c1 hi hl hE hS hA hO g1 (M.next hslot g1.ext g2 g3)
end
end Go.Ev
namespace Go.Ev
open Go.Eng
section
variable {P : Program} {X : ki} {D : Nat -> Option DE} {ih : jn} {nt : Nat} {l : List Oper} {pl : Pl} {bs : List Nat} {T : List En} {e0 ef : Env} {s0 sf : St}
theorem uN.uniq {ê ê' : Env} {S : Nat -> Prop} (h : uN e0 T ê S) (h' : uN e0 T ê' S) (t : Nat) : get ê t = get ê' t := by
 by_cases hex : ∃ (p : Nat) (en : En), T[p]? = some en /\ S p /\ en.o.dst = some t
 ·obtain ⟨p, en, h1, h2, h3⟩ := hex;rw [h.2.1 p en t h1 h2 h3, h'.2.1 p en t h1 h2 h3]
 ·rw [h.2.2 t fun p en h1 h2 h3 => hex ⟨p, en, h1, h2, h3⟩, h'.2.2 t fun p en h1 h2 h3 => hex ⟨p, en, h1, h2, h3⟩]
variable {B : Mp} {I0 : As} {n : Nat} {x : Fx}
theorem Cx.fin (cx : Cx P X D ih nt l pl bs T e0 s0 ef sf) {listed : Array Bool} {a : Act} {w : World} (h : Iv P x n B I0 l pl T e0 s0 sf listed a w) (hr : Region.ready .any l.toArray listed = []) :
  ∃ J, wm I0 s0 J sf /\ Mt P x n B J ef sf a w := by
 obtain ⟨hs, hc, q, J, ê, hq, hl, hl', hE, hS, M, -, -⟩ := h
 have all : ∀ p, p < T.length -> Sx pl listed p := by
  intro p
  induction p using Nat.strongRecOn with
  | ind p ih =>
    intro hp;obtain ⟨en, he⟩ := Qs hp;obtain ⟨i, h1, h2⟩ := cx.ta he;have hi : i < listed.size := by rw [hs]; exact (List.getElem?_eq_some_iff.1 h2).1
    cases hb : listed.getD i false with
    | true => exact ⟨i, _, h1, hb⟩
    | false =>
      have : i ∈ Region.ready .any l.toArray listed := mem_ready.2 ⟨by simp only [Array.getD_eq_getD_getElem?, Array.getElem?_eq_getElem hi, Option.getD_some] at hb ⊢; exact hb, en.o, by simpa using h2, fun ed h3 h4 => by
       obtain ⟨p', ck', h5, h6⟩ := cx.pf.bnd h1 h2 (Uy.2 ⟨ed, h3, h4, rfl⟩)
       exact (QN cx h6).1 (ih p' h5 (Nat.lt_trans h5 hp))⟩
      rw [hr] at this; cases this
 have hqe : q = T.length := by
  rcases Nat.lt_or_ge q T.length with h | h
  ·obtain ⟨en, he⟩ := Qs h;exact absurd ((hl q en he (hl' en he)).1 (all q h)) (Nat.lt_irrefl _)
  ·omega
 subst hqe;have e1 : sA T sf T.length = sf := by unfold sA; simp
 have e2 : eA T ef T.length = ef := by unfold eA; simp
 rw [e1] at hS M;have hcan := cx.canon T.length (Nat.le_refl _);rw [e2] at hcan;have := (hE.cong fun p hp => ⟨fun _ => hp, fun _ => all p hp⟩).uniq hcan;exact ⟨J, hS, M.sz, M.df, fun t v ht => M.env t v ((this t).trans ht), M.gl, M.wd, M.hp⟩
theorem HG {l : List Bool} : ∀ {i : Nat}, l[i]? = some false -> (l.set i true).count false + 1 = l.count false := by
 induction l with
 | nil => intro i h; simp at h
 | cons b l ih =>
   intro i h;cases i with
   | zero => simp at h; subst h; simp
   | succ i =>
     simp only [List.getElem?_cons_succ] at h;have := ih h;simp only [List.set_cons_succ, List.count_cons];omega
theorem Cx.any (cx : Cx P X D ih nt l pl bs T e0 s0 ef sf) (hX : kN P X) (hD : aC P D) (hI : vP P ih) (hN : wq P) (hn : nt <= n) : ∀ (fuel : Nat) (listed : Array Bool) (a : Act) (w : World), listed.toList.count false = fuel ->
  Iv P x n B I0 l pl T e0 s0 sf listed a w -> wpAny P .any l.toArray (fun ext a' w' => ext = Nu .normal /\ ∃ J, wm I0 s0 J sf /\ Mt P x n B J ef sf a' w') fuel listed a w
 | 0, listed, a, w, hf, h => by
   have hr : Region.ready .any l.toArray listed = [] := by
    cases hr : Region.ready .any l.toArray listed with
    | nil => rfl
    | cons i r =>
      have hm : i ∈ Region.ready .any l.toArray listed := by rw [hr]; exact .head _
      obtain ⟨h1, o, h2, -⟩ := mem_ready.1 hm;have hi : i < listed.size := by rw [h.1]; simpa using (Array.getElem?_eq_some_iff.1 h2).1
      have h3 : false ∈ listed.toList := by
       simp only [Array.getD_eq_getD_getElem?, Array.getElem?_eq_getElem hi, Option.getD_some] at h1;rw [<- h1]; simp
      rw [List.count_eq_zero] at hf;exact absurd h3 hf
   exact ⟨hr, rfl, cx.fin h hr⟩
 | fuel + 1, listed, a, w, hf, h => by
   refine ⟨fun hr => ⟨rfl, cx.fin h hr⟩, fun i hi => ?_⟩;refine wpOp_mono (fun a' w' h' => cx.any hX hD hI hN hn fuel _ a' w' ?_ h') (cx.step hX hD hI hN hn h hi);obtain ⟨h1, o, h2, -⟩ := mem_ready.1 hi;have hi : i < listed.size := by rw [h.1]; simpa using (Array.getElem?_eq_some_iff.1 h2).1
   have h3 : listed.toList[i]? = some false := by
    simp only [Array.getD_eq_getD_getElem?, Array.getElem?_eq_getElem hi, Option.getD_some] at h1;rw [<- h1]; simp
   have := HG h3;rw [Array.toList_setIfInBounds];omega
theorem Cx.ok (cx : Cx P X D ih nt l pl bs T e0 s0 ef sf) (hX : kN P X) (hD : aC P D) (hI : vP P ih) (hN : wq P) (hm : P.follows .mixedOrders = true) {id : Nat} : qk P nt (.region id l.toArray true) e0 s0 .normal ef sf := by
 intro x n B I a w hn M;have hwd := M.wd;refine wp_region_any hm (cx.any hX hD hI hN hn _ _ _ _ (by simp) ?_);have M1 : Mt P x n B I e0 s0 a { w with drawn := w.drawn + 1 } := ⟨M.sz, M.df, M.env, M.gl, by rw [hwd]; rfl, M.hp⟩;obtain ⟨b, g1, g2, g3, g4⟩ := aS P T T.length 0 (by omega);have sg := cx.seg hX hD hI hN b g1 g2 g3;have hS0 := cx.st.2
 have hno : ∀ p, ¬ Sx pl (Array.replicate l.length false) p := fun p ⟨i, ck, _, h⟩ => by
  have hi := WD h
  simp at hi
  simp [hi] at h
 obtain ⟨m1, m2⟩ := sg.ms (hS0 ▸ M1.ms);rw [hS0] at m2;refine ⟨by simp, fun i o k h => ?_, b, I, e0, g2, fun p en h1 h2 => ⟨fun h => absurd h (hno p), fun h => absurd h2 (g3 p en (Nat.zero_le _) h h1)⟩, g4, uN.start e0 T hno, m2, m1.mt M1.sz M1.df M1.env, fun p en h1 h2 h3 h4 _ => ?_, fun p p' en en' h1 h2 h3 h4 h5 h6 h7 h8 _ _ => ?_⟩
 ·have hi := WD h
  simp at hi
  simp [hi] at h
 ·obtain ⟨k1, k2, k3⟩ := sg.new p en (Nat.zero_le _) h1 h2 h3 h4;rw [hS0] at k1;exact ⟨M1.hp.new _ k1, k1, k2, k3⟩
 ·have DV := cx.seg hX hD hI hN (a := 0) p' (Nat.zero_le _) (by omega) fun p3 en3 r1 r2 r3 => g3 p3 en3 r1 (by omega) r3;obtain ⟨-, k5, -⟩ := DV.new p en (Nat.zero_le _) h1 h3 h5 h7;rw [KA h4] at k5;exact k5
end
section
variable {P : Program} {X : ki} {D : Nat -> Option DE} {ih : jn} {r : Rs}
theorem GJ (l : List Oper) : SC l = l.map fun o => (o, []) := by
 induction l with
 | nil => rfl
 | cons o l ih => show (o, []) :: SC l = _; rw [ih]; rfl
theorem XC {l0 : List Oper} : ∀ (pl : Pl) {k : List (Oper × List Nat) -> Rs}, KK l0 pl k = r -> r ≠ .no -> ∃ xs, k xs = r /\ xs.length = pl.length /\ ∀ (p i : Nat) (ck : List Nat), pl[p]? = some (i, ck) -> ∃ o, l0[i]? = some o /\ xs[p]? = some (o, ck)
 | [], k, h, _ => ⟨[], h, rfl, fun p i ck hp => by simp at hp⟩
 | (i0, ck0) :: pl, k, h, hr => by
   obtain ⟨o, h1, h2⟩ := zt (show oB (vZ l0 i0) (fun o => KK l0 pl fun l => k ((o, ck0) :: l)) = r from h) hr;obtain ⟨xs, h3, h4, h5⟩ := XC pl h2 hr;rw [wC] at h1;refine ⟨(o, ck0) :: xs, h3, by simp [h4], fun p i ck hp => ?_⟩;cases p with
   | zero => simp only [List.getElem?_cons_zero, Option.some.injEq, Prod.mk.injEq] at hp; obtain ⟨rfl, rfl⟩ := hp; exact ⟨o, h1, rfl⟩
   | succ p => exact h5 p i ck hp
variable {e : Env} {nt : Nat} {s : St}
theorem BJ {l : List Oper} {pl : Pl} {xs : List (Oper × List Nat)} {T : List En} {ef : Env} {sf : St} (hp : XD P l pl = true) (hs : gw nt l = true) (hl : xs.length = pl.length) (hx : ∀ (p i : Nat) (ck : List Nat), pl[p]? = some (i, ck) -> ∃ o, l[i]? = some o /\ xs[p]? = some (o, ck)) (hT : T.map (fun en => (en.o, en.ck)) = xs) (hR : Rn P X D ih l ef sf T e s) : Cx P X D ih nt l pl (Do l) T e s ef sf where
 pf := Jf hp
 at' := fun {p i ck} h => by
  obtain ⟨o, h1, h2⟩ := hx p i ck h;rw [<- hT, List.getElem?_map] at h2;cases hp : T[p]? with
  | none => rw [hp] at h2; cases h2
  | some en => rw [hp] at h2; cases h2; exact ⟨en, rfl, h1, rfl⟩
 ta := fun {p en} h => by
  have h0 : p < pl.length := by rw [<- hl, <- hT, List.length_map]; exact Qr h
  obtain ⟨i, ck, h1⟩ : ∃ i ck, pl[p]? = some (i, ck) := ⟨_, _, List.getElem?_eq_getElem h0⟩;obtain ⟨o, h2, h3⟩ := hx p i ck h1;rw [<- hT, List.getElem?_map, h] at h3;cases h3;exact ⟨i, h1, h2⟩
 rn := fun {p en} h => Tw T hR p en h
 st := Gn hR
 sl := fun {i o t} h1 h2 => by
  have := List.all_eq_true.1 hs o (List.mem_of_getElem? h1);rw [h2] at this
  simpa [Nat.blt_eq] using this
theorem Sw (hX : kN P X) (hD : aC P D) (hI : vP P ih) (hN : wq P) (hm : P.follows .mixedOrders = true) {rp : RP} {id : Nat} {ops : Array Oper} {dr : Bool} (hc : uX P rp nt (.region id ops dr) = true) (h : Sy P X D ih rp e s id ops dr = r) (hr : r ≠ .no) :
  ∃ e' s', r = .ok .normal e' s' /\ qk P nt (.region id ops dr) e s .normal e' s' := by
 obtain ⟨l⟩ := ops;unfold uX at hc;rw [Bool.and_eq_true] at hc;obtain ⟨hs, hp⟩ := hc;cases dr with
 | false =>
   obtain ⟨e', s', h1, h2⟩ := du hX hD hI hN l hs (show Wq P X D ih l l e s = r from h) hr;exact ⟨e', s', h1, fun {x n B I a w} hn M => wp_region_list (h2 hn (wm.refl I s) M)⟩
 | true =>
   replace hp : XD P l ((plF rp id).getD (Nk l.length)) = true := by simpa using hp
   have key : ∀ {pl xs}, XD P l pl = true -> xs.length = pl.length -> (∀ (p i : Nat) (ck : List Nat), pl[p]? = some (i, ck) -> ∃ o, l[i]? = some o /\ xs[p]? = some (o, ck)) -> Yr P X D ih l xs e s = r -> ∃ e' s', r = .ok .normal e' s' /\ qk P nt (.region id ⟨l⟩ true) e s .normal e' s' := fun {pl xs} hp hl hx h => by
    obtain ⟨T, ef, sf, h1, h2, h3⟩ := Zf hX hD hI hN xs h hr;exact ⟨ef, sf, h1, (BJ hp hs hl hx h2 h3).ok hX hD hI hN hm⟩
   cases hpl : plF rp id with
   | none =>
     rw [hpl] at hp;refine key hp (xs := SC l) (by simp [GJ, Nk]) (fun p i ck h1 => ?_) ?_
     ·have h1' : (Nk l.length)[p]? = some (i, ck) := h1;unfold Nk at h1';rw [List.getElem?_map] at h1';rcases Nat.lt_or_ge p l.length with hlt | hge
      ·rw [List.getElem?_range hlt] at h1';cases h1';exact ⟨l[p], List.getElem?_eq_getElem hlt, by rw [GJ, List.getElem?_map, List.getElem?_eq_getElem hlt]; rfl⟩
      ·rw [List.getElem?_eq_none (by simpa using hge)] at h1'; cases h1'
     ·unfold Sy at h;rw [hpl] at h;exact h
   | some pl =>
     rw [hpl] at hp;unfold Sy at h;rw [hpl] at h;obtain ⟨xs, h1, h2, h3⟩ := XC pl (show KK l pl (fun xs => Yr P X D ih l xs e s) = r from h) hr;exact key hp h2 h3 h1
end
end Go.Ev
namespace Go.Ev
open Go.Eng
section
variable {P : Program} {X : ki} {D : Nat -> Option DE} {ih : jn} {r : Rs} {nt : Nat}
variable {a b : Code} {e e' : Env} {ex : Ex} {s s' : St}
theorem qk.seq {e1 : Env} {s1 : St} (h1 : qk P nt a e s .normal e1 s1) (h2 : qk P nt b e1 s1 ex e' s') : qk P nt (.seq a b) e s ex e' s' := fun {x n B I a w} hn M =>
 wp_seq (wp_mono (h1 hn M) fun ext a1 w1 ⟨he, J, g1, g2⟩ => by
  subst he
  exact wp_mono (h2 hn g2) fun ext a2 w2 ⟨he, K, g3, g4⟩ => ⟨he, K, g1.trans g3, g4⟩)
theorem qk.stop (h1 : qk P nt a e s ex e' s') (hx : ex ≠ .normal) : qk P nt (.seq a b) e s ex e' s' := fun {x n B I a w} hn M =>
 wp_seq (wp_mono (h1 hn M) fun ext a1 w1 ⟨he, h2⟩ => by
  subst he;cases ex with
  | normal => exact absurd rfl hx
  | exit i => exact ⟨rfl, h2⟩
  | ret => exact ⟨rfl, h2⟩)
theorem qk.blk {ex' : Ex} {i : Nat} (h : qk P nt b e s ex e' s') (hx : (ex = .exit i /\ ex' = .normal) \/ (ex ≠ .exit i /\ ex' = ex)) : qk P nt (.block i b) e s ex' e' s' := fun {x n B I a w} hn M =>
 wp_block (wp_mono (h hn M) fun ext a1 w1 ⟨he, h2⟩ => by
  subst he;rcases hx with ⟨rfl, rfl⟩ | ⟨hx, rfl⟩
  ·show if i = i then _ else _
   rw [if_pos rfl]; exact ⟨rfl, h2⟩
  ·cases ex' with
   | normal => exact ⟨rfl, h2⟩
   | exit j =>
     show if j = i then _ else _
     rw [if_neg fun e => hx (by rw [e])]; exact ⟨rfl, h2⟩
   | ret => exact ⟨rfl, h2⟩)
def LM (f : Env -> St -> Rs) : Nat -> Env -> St -> Env -> St -> Prop
 | 0, e, s, e', s' => e = e' /\ s = s'
 | n + 1, e, s, e', s' => ∃ e1 s1, f e s = .ok .normal e1 s1 /\ LM f n e1 s1 e' s'
variable {f : Env -> St -> Rs}
theorem LM.app : ∀ {n m : Nat} {e e1 e' : Env} {s s1 s' : St}, LM f n e s e1 s1 -> LM f m e1 s1 e' s' -> LM f (n + m) e s e' s'
 | 0, m, e, e1, e', s, s1, s', ⟨h1, h2⟩, g => by rw [Nat.zero_add, h1, h2]; exact g
 | n + 1, m, e, e1, e', s, s1, s', ⟨e2, s2, h1, h2⟩, g => by rw [Nat.succ_add]; exact ⟨e2, s2, h1, LM.app h2 g⟩
theorem cS : ∀ (j : Nat) {e : Env} {s : St} {r : Rs}, kA f j e s = r -> r ≠ .no ->
  (∃ n e1 s1, r = .more e1 s1 /\ LM f n e s e1 s1) \/ (∃ n e1 s1 x e' s', r = .ok x e' s' /\ LM f n e s e1 s1 /\ f e1 s1 = .ok x e' s' /\ x ≠ .normal)
 | 0, e, s, r, h, hr => by
   replace h : Mc (f e s) = r := h
   unfold Mc at h;cases hf : f e s with
   | no => rw [hf] at h; exact absurd h.symm hr
   | more e1 s1 => rw [hf] at h; exact absurd h.symm hr
   | ok x e1 s1 =>
     rw [hf] at h;cases x with
     | normal => exact .inl ⟨1, e1, s1, h.symm, e1, s1, hf, rfl, rfl⟩
     | exit i => exact .inr ⟨0, e, s, _, e1, s1, h.symm, ⟨rfl, rfl⟩, hf, nofun⟩
     | ret => exact .inr ⟨0, e, s, _, e1, s1, h.symm, ⟨rfl, rfl⟩, hf, nofun⟩
 | j + 1, e, s, r, h, hr => by
   replace h : Mb (kA f j e s) (kA f j) = r := h
   unfold Mb at h;cases hf : kA f j e s with
   | no => rw [hf] at h; exact absurd h.symm hr
   | ok x e1 s1 =>
     rw [hf] at h;rcases cS j hf nofun with ⟨n, e2, s2, h1, -⟩ | h1
     ·cases h1
     ·rw [show r = .ok x e1 s1 from h.symm]; exact .inr h1
   | more e1 s1 =>
     rw [hf] at h;rcases cS j hf nofun with ⟨n, e2, s2, h1, h2⟩ | ⟨n, e2, s2, x, e', s', h1, -⟩
     ·cases h1;rcases cS j (show kA f j e1 s1 = r from h) hr with ⟨m, e3, s3, h3, h4⟩ | ⟨m, e3, s3, x, e', s', h3, h4, h5, h6⟩
      ·exact .inl ⟨n + m, e3, s3, h3, h2.app h4⟩
      ·exact .inr ⟨n + m, e3, s3, x, e', s', h3, h2.app h4, h5, h6⟩
     ·cases h1
variable {rp : RP}
theorem K2 (hI : vP P ih) (hc : uX P rp nt b = true) {x : Ex} (hx : x ≠ .normal) : ∀ (n : Nat) {e e1 : Env} {s s1 : St}, LM (ih rp b) n e s e1 s1 -> ih rp b e1 s1 = .ok x e' s' ->
  ∀ {fx : Fx} {m : Nat} {B : Mp} {I0 I : As} {s0 : St} {a : Act} {w : World}, nt <= m -> wm I0 s0 I s -> Mt P fx m B I e s a w -> Code.rounds P b (fun ext a' w' => ext = Nu x /\ ∃ J, wm I0 s0 J s' /\ Mt P fx m B J e' s' a' w') (n + 1) a w
 | 0, e, e1, s, s1, ⟨h1, h2⟩, hf, fx, m, B, I0, I, s0, a, w, hm, hS, M => by
   subst h1; subst h2;obtain ⟨ex, e2, s2, h3, h4⟩ := hI hc hf nofun;cases h3;refine wp_mono (h4 hm M) fun ext a1 w1 ⟨he, J, g1, g2⟩ => ?_;subst he;cases x with
   | normal => exact absurd rfl hx
   | exit i => exact ⟨rfl, J, hS.trans g1, g2⟩
   | ret => exact ⟨rfl, J, hS.trans g1, g2⟩
 | n + 1, e, e1, s, s1, ⟨e2, s2, h1, h2⟩, hf, fx, m, B, I0, I, s0, a, w, hm, hS, M => by
   obtain ⟨ex, e3, s3, h3, h4⟩ := hI hc h1 nofun;cases h3;refine wp_mono (h4 hm M) fun ext a1 w1 ⟨he, J, g1, g2⟩ => ?_;subst he;exact K2 hI hc hx n h2 hf hm (hS.trans g1) g2
theorem N3 (hX : kN P X) (hD : aC P D) (hI : vP P ih) (hN : wq P) (hm : P.follows .mixedOrders = true) {c : Code} (hc : uX P rp nt c = true) (h : T9 P X D ih rp c e s = r) (hr : r ≠ .no) : ∃ ex e' s', r = .ok ex e' s' /\ qk P nt c e s ex e' s' := by
 cases c with
 | skip => exact ⟨.normal, e, s, h.symm, fun _ M => wp_skip ⟨rfl, _, wm.refl _ _, M⟩⟩
 | region id ops dr =>
   obtain ⟨e', s', h1, h2⟩ := Sw hX hD hI hN hm hc h hr;exact ⟨_, e', s', h1, h2⟩
 | seq a b =>
   unfold uX at hc;rw [Bool.and_eq_true] at hc
   replace h : FP (ih rp a e s) (ih rp b) = r := h
   have hne : ih rp a e s ≠ .no := fun e1 => by rw [e1] at h; exact hr h.symm
   obtain ⟨ex, e1, s1, h1, h2⟩ := hI hc.1 rfl hne;rw [h1] at h;cases ex with
   | normal =>
     obtain ⟨ex, e', s', h3, h4⟩ := hI hc.2 (show ih rp b e1 s1 = r from h) hr;exact ⟨ex, e', s', h3, h2.seq h4⟩
   | exit i => exact ⟨_, e1, s1, h.symm, h2.stop nofun⟩
   | ret => exact ⟨_, e1, s1, h.symm, h2.stop nofun⟩
 | cond o a b =>
   unfold uX at hc;rw [Bool.and_eq_true] at hc;obtain ⟨v, h1, h2⟩ := zS (show wk e o _ = r from h) hr;obtain ⟨t, rfl, h3⟩ := qP h2 hr
   have hv : ∀ {x : Fx} {n : Nat} {B : Mp} {I : As} {a : Act} {w : World}, Mt P x n B I e s a w -> a.eval o = .bool t := fun M => by
    obtain ⟨u, g1, g2, -⟩ := zG M h1;cases g1; exact g2
   cases t with
   | true =>
     obtain ⟨ex, e', s', h4, h5⟩ := hI hc.1 (show ih rp a e s = r from h3) hr;exact ⟨ex, e', s', h4, fun hn M => wp_cond_true (hv M) (h5 hn M)⟩
   | false =>
     obtain ⟨ex, e', s', h4, h5⟩ := hI hc.2 (show ih rp b e s = r from h3) hr;exact ⟨ex, e', s', h4, fun hn M => wp_cond_false (hv M) (h5 hn M)⟩
 | block i b =>
   replace h : CT i (ih rp b e s) = r := h
   have hne : ih rp b e s ≠ .no := fun e1 => by rw [e1] at h; exact hr h.symm
   obtain ⟨ex, e1, s1, h1, h2⟩ := hI (show uX P rp nt b = true from hc) rfl hne;rw [h1] at h;cases ex with
   | normal => exact ⟨.normal, e1, s1, h.symm, h2.blk (.inr ⟨nofun, rfl⟩)⟩
   | exit j =>
     replace h : Bool.rec (motive := fun _ => Rs) (.ok (.exit j) e1 s1) (.ok .normal e1 s1) (Nat.beq i j) = r := h
     cases hb : Nat.beq i j with
     | true => rw [hb] at h; cases Nat.eq_of_beq_eq_true hb; exact ⟨.normal, e1, s1, h.symm, h2.blk (.inl ⟨rfl, rfl⟩)⟩
     | false => rw [hb] at h; exact ⟨.exit j, e1, s1, h.symm, h2.blk (.inr ⟨fun e => (by injection e with e; rw [e] at hb; rw [show Nat.beq i i = true from Nat.beq_refl i] at hb; cases hb), rfl⟩)⟩
   | ret => exact ⟨.ret, e1, s1, h.symm, h2.blk (.inr ⟨nofun, rfl⟩)⟩
 | loop b =>
   replace h : CR (kA (ih rp b) 12 e s) = r := h
   have hne : kA (ih rp b) 12 e s ≠ .no := fun e1 => by rw [e1] at h; exact hr h.symm
   rcases cS 12 rfl hne with ⟨n, e1, s1, h1, -⟩ | ⟨n, e1, s1, x, e', s', h1, h2, h3, h4⟩
   ·rw [h1] at h; exact absurd h.symm hr
   ·rw [h1] at h;exact ⟨x, e', s', h.symm, fun {fx m B I a w} hn M => wp_loop_rounds (n + 1) (K2 hI (show uX P rp nt b = true from hc) h4 n h2 h3 hn (wm.refl _ _) M)⟩
 | rangeFunc f ps a b => exact absurd h.symm hr
 | exit i => exact ⟨.exit i, e, s, h.symm, fun _ M => wp_exit ⟨rfl, _, wm.refl _ _, M⟩⟩
 | scope b =>
   obtain ⟨ex, e', s', h1, h2⟩ := hI (show uX P rp nt b = true from hc) (show ih rp b e s = r from h) hr;refine ⟨ex, e', s', h1, fun hn M => wp_scope_straight (wp_mono (h2 hn M) fun ext a1 w1 ⟨he, h3⟩ => ?_)⟩;subst he;cases ex <;> exact ⟨rfl, h3⟩
 | label l => exact ⟨.normal, e, s, h.symm, fun _ M => wp_label ⟨rfl, _, wm.refl _ _, M⟩⟩
 | goto l => exact absurd h.symm hr
 | ret => exact ⟨.ret, e, s, h.symm, fun _ M => wp_ret ⟨rfl, _, wm.refl _ _, M⟩⟩
 | refuse why => exact absurd h.symm hr
theorem LZ (hX : kN P X) (hD : aC P D) (hN : wq P) (hm : P.follows .mixedOrders = true) (d : Nat) : vP P (run P X D d) := by
 induction d with
 | zero => intro rp nt c e s r _ h hr; exact absurd h.symm hr
 | succ d ih => intro rp nt c e s r hc h hr; exact N3 hX hD ih hN hm hc h hr
theorem gS (hX : kN P X) (hD : aC P D) (hN : wq P) (hm : P.follows .mixedOrders = true) {d g : Nat} {vs : Lv} {k : KS} (h : qA P X D d g vs s k = r) (hr : r ≠ .no) : z7 P g = true /\ ∃ v s', k v s' = r /\ wv P s g vs v s' :=
 Z6 hX hD (LZ hX hD hN hm d) hN h hr
end
end Go.Ev
noncomputable section
namespace Go.Ev
open Go.Eng
abbrev DI := Option (Nat × Lv)
abbrev KD := Ex -> Env -> St -> List DI -> Rs
section
variable (P : Program) (X : ki) (D : Nat -> Option DE) (ih : jn) (rp : RP) (Z : Nat -> Lv -> St -> Rs -> Rs)
def XU (r : Rs) (ds : List DI) (k : KD) : Rs := Rs.rec (motive := fun _ => Rs) .no (fun x e s => k x e s ds) yL r
def U6 (ops : List Oper) : Option (Nat × Nat × List Operand) := match ops with
 | [⟨some t, .makeFunc (.func g) fs ca, _, _, _, none⟩, ⟨none, .defer ⟨.value (.tmp t'), as, _⟩, _, _, _, none⟩] => match fs.toList, as.toList with
   | [], [] => bif Nat.beq t t' then some (t, g, ca.toList) else none
   | _, _ => none
 | _ => none
def jN : Code -> Env -> St -> List DI -> KD -> Rs
 | .region id ops dr, e, s, ds, k => match dr with
   | true => XU (ih rp (.region id ops true) e s) ds k
   | false => match U6 ops.toList with
     | some (t, g, ca) => fP e ca fun vs => k .normal (Vp (some t) (.func (.func g) #[] ⟨vs⟩) e) s (some (g, vs) :: ds)
     | none => XU (ih rp (.region id ops false) e s) ds k
 | .seq a b, e, s, ds, k => jN a e s ds fun x e s ds => match x with
   | .normal => jN b e s ds k
   | .exit i => k (.exit i) e s ds
   | .ret => k .ret e s ds
 | .cond c a b, e, s, ds, k => wk e c fun v => eS v fun t => match t with
   | true => jN a e s ds k
   | false => jN b e s ds k
 | .block i b, e, s, ds, k => jN b e s ds fun x e s ds => match x with
   | .normal => k .normal e s ds
   | .exit j => match Nat.beq i j with
     | true => k .normal e s ds
     | false => k (.exit j) e s ds
   | .ret => k .ret e s ds
 | .scope b, e, s, ds, k => jN b e s ds k
 | .rangeFunc f _ _ _, e, s, ds, k => wk e f fun v => GY v fun fn first cap => EN fn fun g => match first.toList with
   | [] => Z g cap.toList s (k .normal e s (none :: ds))
   | _ => .no
 | .skip, e, s, ds, k => k .normal e s ds
 | .loop b, e, s, ds, k => XU (ih rp (.loop b) e s) ds k
 | .exit i, e, s, ds, k => k (.exit i) e s ds
 | .label _, e, s, ds, k => k .normal e s ds
 | .goto _, _, _, _, _ => .no
 | .ret, e, s, ds, k => k .ret e s ds
 | .refuse _, _, _, _, _ => .no
def AY (k : St -> Rs) (r : Rs) : Rs := Rs.rec (motive := fun _ => Rs) .no (fun x _ s => Ex.rec (motive := fun _ => Rs) (k s) ff (k s) x) yL r
def R0 (d : DE) (vs : Lv) (s : St) (k : St -> Rs) : Rs := match d.fn.body, d.fn.results.toList with
 | some (.seq (.region _ ops false) rest), [] => match ops.toList with
   | o :: l => match o with
     | ⟨some t, .call ⟨.builtin .recover, as, _⟩, _, _, _, none⟩ => match as.toList with
       | [] => UK vs 0 (Hw d.fn.ntmps) fun e => AY k (FP (Wq P X D ih (o :: l) l (Vp (some t) .nilIface e) s) (ih d.rp rest))
       | _ => .no
     | _ => .no
   | _ => .no
 | _, _ => .no
def NB : List DI -> St -> (St -> Rs) -> Rs
 | [], s, k => k s
 | some (g, vs) :: ds, s, k => oB (D g) fun d => R0 P X D ih d vs s fun s => NB ds s k
 | none :: _, _, _ => .no
def Ps (fn : Func) (k : KS) (e : Env) (s : St) : Rs := VX P e s.h fn.results.toList fun vs => k (fM vs) s
def PQ (fn : Func) (k : KS) (e : Env) (s : St) (ds : List DI) : Rs := match ds with
 | [none] => Ps P fn k e s
 | ds => NB P X D ih ds s fun s => Ps P fn k e s
def TZ (d : DE) (s : St) (k : KS) (vs : Lv) : Rs := oB d.fn.body fun b => UK vs 0 (Hw d.fn.ntmps) fun e => jN ih d.rp Z b e s [] fun x e s ds => match x with
 | .normal => PQ P X D ih d.fn k e s ds
 | .ret => PQ P X D ih d.fn k e s ds
 | .exit _ => .no
end
end Go.Ev
end
namespace Go.Ev
open Go.Eng Go.RowKit
def ZOk (P : Program) (Z : Nat -> Lv -> St -> Rs -> Rs) : Prop := ∀ {g : Nat} {vs : Lv} {s : St} {q r : Rs}, Z g vs s q = r -> r ≠ .no -> q = r /\ z7 P g = true /\
 ∀ {x : Fx} {B : Mp} {I : As} {w : World}, Ms P x B I s w -> ∀ us, xk I vs us -> ∀ l, Calls P g (#[.func (.yield l) #[] #[]] ++ (⟨us⟩ : Array Value)) w fun e w' => (∃ v, e = .returned v) /\ ∃ h' d', w' = W x h' d' /\ Le (mp w.heap) (mp h')
def OX (I : As) (B : Mp) : List DI -> List Deferred -> Prop
 | [], us => us = []
 | some (g, vs) :: ds, us => ∃ q r, us = EV (.func g) q :: r /\ xk I vs q /\ OX I B ds r
 | none :: ds, us => ∃ d r, us = { target := .collected d, args := #[] } :: r /\ B d = some (.deferred (some [])) /\ OX I B ds r
def Nw (B : Mp) (us us' : List Deferred) : Prop := ∀ d, ({ target := .collected d, args := #[] } : Deferred) ∈ us' -> ({ target := .collected d, args := #[] } : Deferred) ∈ us \/ B d = none
theorem Nw.refl (B : Mp) (us : List Deferred) : Nw B us us := fun _ h => .inl h
variable {B B' : Mp}
theorem Nw.trans {a b c : List Deferred} (h : Nw B a b) (g : Nw B' b c) (l : Le B B') : Nw B a c := fun d hd => (g d hd).elim (h d) fun e => .inr (by
 cases hb : B d with
 | none => rfl
 | some o => rw [l _ _ hb] at e; cases e)
def H5 (x : Fx) (us : List Deferred) : Fx := ⟨x.tape, x.os, x.out, us⟩
def jJ (P : Program) (nt : Nat) (c : Code) (e : Env) (s : St) (ds : List DI) (ex : Ex) (e' : Env) (s' : St) (ds' : List DI) : Prop :=
 ∀ {x : Fx} {n : Nat} {B : Mp} {I : As} {a : Act} {w : World} {us : List Deferred}, nt <= n -> OX I B ds us -> Mt P (H5 x us) n B I e s a w ->
  c.wp P (fun ext a' w' => ext = Nu ex /\ ∃ J B' us', Le B B' /\ wm I s J s' /\ OX J B' ds' us' /\ Nw B us us' /\ Mt P (H5 x us') n B' J e' s' a' w') a w
variable {I : As}
theorem OX.mono {J : As} (e : dp I J) (l : Le B B') : ∀ {ds : List DI} {us : List Deferred}, OX I B ds us -> OX J B' ds us
 | [], _, h => h
 | some (g, vs) :: ds, _, ⟨q, r, h1, h2, h3⟩ => ⟨q, r, h1, h2.ext e, OX.mono e l h3⟩
 | none :: ds, _, ⟨d, r, h1, h2, h3⟩ => ⟨d, r, h1, l _ _ h2, OX.mono e l h3⟩
theorem Ms.grown {P : Program} {x : Fx} {s : St} {w w' : World} {row : Option Nat} {N : Nat} (M : Ms P x B I s w) (hg : w.grownBy w' row) (hr : ∀ r, row = some r -> N <= r) (hB : ∀ g o, B g = some o -> g < N) (hk : ∀ i o y, get s.h i = some o -> I i = some y -> y.1 < N) : Ms P x B I s w' := by
 have hwd := M.wd
 have keep : ∀ {g : Nat} {o : Obj}, mp w.heap g = some o -> g < N -> mp w'.heap g = mp w.heap g := fun {g o} h1 h2 => by
  have hlt : g < w.heap.size := (Array.getElem?_eq_some_iff.1 h1).1;exact hg.block g hlt fun e => by have := hr g e.symm; omega
 refine ⟨M.gl, ?_, ⟨fun i o y h1 h2 => ?_, M.hp.sep, M.hp.new, M.hp.out, fun b o hb => ?_, M.hp.fre⟩⟩
 ·have h1 := hg.tape; have h2 := hg.os; have h3 := hg.output;rw [hwd] at h1 h2 h3;obtain ⟨h, t, d, os, out⟩ := w';simp only [W] at h1 h2 h3;subst h1; subst h2; subst h3
  rfl
 ·obtain ⟨ob, h3⟩ := (M.hp.obj i o y h1 h2).has h2;exact (M.hp.obj i o y h1 h2).frame h2 (keep h3 (hk i o y h1 h2))
 ·have := M.hp.base b o hb;rw [keep this (hB b o hb)]; exact this
section
variable {P : Program} {X : ki} {D : Nat -> Option DE} {ih : jn} {rp : RP} {Z : Nat -> Lv -> St -> Rs -> Rs} {r : Rs} {nt : Nat}
variable {c : Code} {ds : List DI} {e e' : Env} {ex : Ex} {s s' : St}
theorem qk.toD (h : qk P nt c e s ex e' s') : jJ P nt c e s ds ex e' s' ds := fun {x n B I a w us} hn hd M =>
 wp_mono (h hn M) fun _ _ _ ⟨h1, J, h2, h3⟩ => ⟨h1, J, B, us, Le.refl B, h2, hd.mono h2.ext (Le.refl B), Nw.refl B us, h3⟩
variable {a b : Code} {ds' : List DI}
theorem jJ.seq {e1 : Env} {s1 : St} {ds1 : List DI} (h1 : jJ P nt a e s ds .normal e1 s1 ds1) (h2 : jJ P nt b e1 s1 ds1 ex e' s' ds') : jJ P nt (.seq a b) e s ds ex e' s' ds' := fun {x n B I a w us} hn hd M =>
 wp_seq (wp_mono (h1 hn hd M) fun ext a1 w1 ⟨he, J, B1, us1, g0, g1, g2, gn, g3⟩ => by
  subst he
  exact wp_mono (h2 hn g2 g3) fun ext a2 w2 ⟨he, K, B2, Ln, k0, k1, k2, kn, k3⟩ => ⟨he, K, B2, Ln, g0.trans k0, g1.trans k1, k2, gn.trans kn g0, k3⟩)
theorem jJ.stop (h1 : jJ P nt a e s ds ex e' s' ds') (hx : ex ≠ .normal) : jJ P nt (.seq a b) e s ds ex e' s' ds' := fun {x n B I a w us} hn hd M =>
 wp_seq (wp_mono (h1 hn hd M) fun ext a1 w1 ⟨he, h2⟩ => by
  subst he;cases ex with
  | normal => exact absurd rfl hx
  | exit i => exact ⟨rfl, h2⟩
  | ret => exact ⟨rfl, h2⟩)
theorem jJ.blk {ex' : Ex} {i : Nat} (h : jJ P nt b e s ds ex e' s' ds') (hx : (ex = .exit i /\ ex' = .normal) \/ (ex ≠ .exit i /\ ex' = ex)) : jJ P nt (.block i b) e s ds ex' e' s' ds' := fun {x n B I a w us} hn hd M =>
 wp_block (wp_mono (h hn hd M) fun ext a1 w1 ⟨he, h2⟩ => by
  subst he;rcases hx with ⟨rfl, rfl⟩ | ⟨hx, rfl⟩
  ·show if i = i then _ else _
   rw [if_pos rfl]; exact ⟨rfl, h2⟩
  ·cases ex' with
   | normal => exact ⟨rfl, h2⟩
   | exit j =>
     show if j = i then _ else _
     rw [if_neg fun e => hx (by rw [e])]; exact ⟨rfl, h2⟩
   | ret => exact ⟨rfl, h2⟩)
variable {q : Rs}
theorem XT {k : KD} (h : XU q ds k = r) (hr : r ≠ .no) : ∃ x e s, q = .ok x e s /\ k x e s ds = r := by
 cases q with
 | no => exact absurd h.symm hr
 | ok x e s => exact ⟨x, e, s, rfl, h⟩
 | more e s => exact absurd h.symm hr
variable {g : Nat}
theorem JR {l : List Oper} {t : Nat} {ca : List Operand} (h : U6 l = some (t, g, ca)) : ∃ (ty1 ty2 : TypeId) (p1 p2 : String) (a1 a2 : Array Edge) (ts : Array TypeId), l = [⟨some t, .makeFunc (.func g) #[] ca.toArray, ty1, p1, a1, none⟩, ⟨none, .defer ⟨.value (.tmp t), #[], ts⟩, ty2, p2, a2, none⟩] := by
 unfold U6 at h
 split at h
 ·rename_i t0 g0 fs cap ty1 p1 a1 t1 as ts ty2 p2 a2
  split at h
  ·rename_i h1 h2
   cases hb : Nat.beq t0 t1 with
   | false => rw [hb] at h; cases h
   | true =>
     rw [hb] at h;cases h;cases Nat.eq_of_beq_eq_true hb;obtain ⟨fs⟩ := fs;obtain ⟨as⟩ := as;cases (show fs = [] from h1);cases (show as = [] from h2);exact ⟨ty1, ty2, p1, p2, a1, a2, ts, by simp⟩
  ·cases h
 ·cases h
theorem Ma (hZ : ZOk P Z) {f : Operand} {ps : Array Tmp} {cap : Array Value} (h1 : ev e f = some (.func (.func g) #[] cap)) (h2 : Z g cap.toList s q = r) (hr : r ≠ .no) : q = r /\ jJ P nt (.rangeFunc f ps c b) e s ds .normal e s (none :: ds) := by
 obtain ⟨h3, hcl, h4⟩ := hZ h2 hr;refine ⟨h3, fun {x n B I a w us} hn hd M => ?_⟩;obtain ⟨u, g1, g2, -⟩ := zG M h1;obtain ⟨cap⟩ := cap;cases g1 with
 | @func _ _ bs _ qs k1 k2 =>
 have hbs : bs = [] := by cases k1; rfl
 subst hbs;have hBN : ∀ g o, B g = some o -> g < w.heap.size := fun g o hg => (Array.getElem?_eq_some_iff.1 (M.hp.base g o hg)).1
 have hkN : ∀ i o y, get s.h i = some o -> I i = some y -> y.1 < w.heap.size := fun i o y h5 h6 => by
  obtain ⟨ob, h7⟩ := (M.hp.obj i o y h5 h6).has h6;exact (Array.getElem?_eq_some_iff.1 h7).1
 have own : OwnFrom w.heap.size (fun (_ : List Empty) V => Ms P (H5 x us) B I s V) := fun _ V V' row hV hg hrow => hV.grown hg (fun r e => (hrow r e).1) hBN hkN
 refine (wpIn_wide (n := 3)).1 (wpIn_rangeFunc_ownH (α := Empty) (n := 3) (w0 := w) (N := 0) (S := fun _ => True) (Sp := fun _ => False) (Kp := fun _ _ => True) (encs := nofun) rfl (by decide) g2 trivial (fun args w => wi hcl args w)
  ?hseq (fun _ _ => trivial) (fun _ _ _ _ _ _ _ _ => trivial) (Below.refl _ _) nofun (fun _ V => Ms P (H5 x us) B I s V) (fun _ _ _ => False) own (fun _ _ _ _ _ h => h.elim) M.ms (fun _ _ _ => True) (fun _ _ _ _ _ _ _ _ _ => trivial)
  (fun _ _ x => nomatch x) (fun _ _ x => nomatch x) ?hdone (fun _ _ _ _ _ h => h.elim))
 case hseq =>
  intro l J Jx V hb hJ hJx hY h0;have hV : Ms P (H5 x us) B I s V := M.ms.grown (row := none) ⟨hb.os, hb.tape, hb.output, hb.size, fun k hk _ => hb.block k hk⟩ (fun r e => by cases e) hBN hkN;refine callsIn_wide.2 ((h4 hV _ k2 l).mono ?_);rintro e V' ⟨⟨v, rfl⟩, h', d', rfl, hle⟩;refine ⟨⟨v, rfl⟩, .inl ⟨[], trivial, hJ [] V _ none h0 ?_ (fun r e => by cases e)⟩⟩;have := hV.wd;rw [this]
  exact UO hle none
 case hdone =>
  intro d xs V hdl _ hV hd0;refine ⟨rfl, I, fun g => if g = d then some (.deferred (some [])) else B g, { target := .collected d, args := #[] } :: us, fun b o hb => ?_, wm.refl I s, ⟨d, us, rfl, by simp, hd.mono (dp.refl I) fun b o hb => ?_⟩, fun d' h => ?_, ?_⟩
  ·have := hBN b o hb;show (if b = d then _ else _) = _;rw [if_neg (by omega)]; exact hb
  ·have := hBN b o hb;rw [if_neg (by omega)]; exact hb
  ·rcases List.mem_cons.1 h with h | h
   ·cases h;refine .inr ?_;cases hb : B d with
    | none => rfl
    | some o => have := hBN d o hb; omega
   ·exact .inl h
  ·refine ⟨M.sz, by rw [M.df]; rfl, M.env, hV.gl, hV.wd, ⟨hV.hp.obj, hV.hp.sep, hV.hp.new, fun i o y h5 h6 => ?_, fun b o hb => ?_, hV.hp.fre⟩⟩
   ·have := hkN i o y h5 h6;rw [if_neg (by omega)]; exact hV.hp.out i o y h5 h6
   ·split at hb
    ·rename_i e; subst e; cases hb; exact hd0
    ·exact hV.hp.base b o hb
theorem kv (hX : kN P X) (hD : aC P D) (hI : vP P ih) (hN : wq P) (hZ : ZOk P Z) : ∀ (c : Code) {e : Env} {s : St} {ds : List DI} {k : KD}, uX P rp nt c = true -> jN ih rp Z c e s ds k = r -> r ≠ .no -> ∃ x e' s' ds', k x e' s' ds' = r /\ jJ P nt c e s ds x e' s' ds'
 | .region id ops dr, e, s, ds, k, hc, h, hr => by
   have plain : ∀ {b}, dr = b -> XU (ih rp (.region id ops b) e s) ds k = r -> ∃ x e' s' ds', k x e' s' ds' = r /\ jJ P nt (.region id ops dr) e s ds x e' s' ds' := fun {b} hb h => by
    subst hb;obtain ⟨x, e', s', h1, h2⟩ := XT h hr;obtain ⟨ex, e2, s2, h3, h4⟩ := hI hc h1 nofun;cases h3;exact ⟨x, e', s', ds, h2, h4.toD⟩
   unfold jN at h;cases dr with
   | true => exact plain rfl h
   | false =>
     replace h : (match U6 ops.toList with
      | some (t, g, ca) => fP e ca fun vs => k .normal (Vp (some t) (.func (.func g) #[] ⟨vs⟩) e) s (some (g, vs) :: ds)
      | none => XU (ih rp (.region id ops false) e s) ds k) = r := h
     cases hd : U6 ops.toList with
     | none => rw [hd] at h; exact plain rfl h
     | some y =>
       obtain ⟨t, g, ca⟩ := y;rw [hd] at h;obtain ⟨vs, h1, h2⟩ := qf (P := P) h hr;obtain ⟨ty1, ty2, p1, p2, a1, a2, ts, hl⟩ := JR hd;obtain ⟨ops⟩ := ops;cases (show ops = _ from hl);refine ⟨_, _, _, _, h1, fun {x n B I a w us} hn hd M => ?_⟩;obtain ⟨q, g1, g2⟩ := h2 M
       have ht : t < n := by
        unfold uX at hc;rw [Bool.and_eq_true] at hc;have := List.all_eq_true.1 hc.1 _ (.head _);simp only [Nat.blt_eq] at this;omega
       have hag : kj n (H5 x us) (dg a) a := ⟨by rw [<- M.sz]; exact yc a, M.df⟩;have hwd := M.wd;rw [hwd];refine Li (P := P) g2 (by simpa [Nat.blt_eq] using ht) hag fun a' hag' => ?_;rw [<- hwd]
       refine ⟨rfl, I, B, EV (.func g) q :: us, Le.refl B, wm.refl I s, ⟨q, us, rfl, g1, hd⟩, fun d h => .inl (by rcases List.mem_cons.1 h with h | h; cases h; exact h), hag'.toAg.size, hag'.defers, fun t' v hv => ?_, M.gl, M.wd, M.hp⟩;rcases KJ hv with ⟨h3, rfl⟩ | ⟨h3, h4⟩
       ·cases h3;exact ⟨_, hag'.toAg.at_ t _ (by simp [lk]), .func .nil g1⟩
       ·obtain ⟨u, k1, k2⟩ := M.env t' v h4;refine ⟨u, hag'.toAg.at_ t' u ?_, k2⟩;have := U2 k1;show lk ((t, _) :: dg a) t' = some u;simp only [lk]
        rw [show Nat.beq t t' = false from by
         cases hb : Nat.beq t t' with
         | false => rfl
         | true => exact absurd (by rw [Nat.eq_of_beq_eq_true hb]) h3]
        exact this
 | .seq a b, e, s, ds, k, hc, h, hr => by
   unfold uX at hc;rw [Bool.and_eq_true] at hc;unfold jN at h;obtain ⟨x, e1, s1, ds1, h1, h2⟩ := kv hX hD hI hN hZ a hc.1 h hr;cases x with
   | normal =>
     obtain ⟨x, e', s', ds', h3, h4⟩ := kv hX hD hI hN hZ b hc.2 h1 hr;exact ⟨x, e', s', ds', h3, h2.seq h4⟩
   | exit i => exact ⟨_, _, _, _, h1, h2.stop nofun⟩
   | ret => exact ⟨_, _, _, _, h1, h2.stop nofun⟩
 | .cond c a b, e, s, ds, k, hc, h, hr => by
   unfold uX at hc;rw [Bool.and_eq_true] at hc;unfold jN at h;obtain ⟨v, h1, h2⟩ := zS h hr;obtain ⟨t, rfl, h3⟩ := qP h2 hr
   have hv : ∀ {x : Fx} {n : Nat} {B : Mp} {I : As} {a : Act} {w : World}, Mt P x n B I e s a w -> a.eval c = .bool t := fun M => by
    obtain ⟨u, g1, g2, -⟩ := zG M h1;cases g1; exact g2
   cases t with
   | true =>
     obtain ⟨x, e', s', ds', h4, h5⟩ := kv hX hD hI hN hZ a hc.1 h3 hr;exact ⟨x, e', s', ds', h4, fun hn hd M => wp_cond_true (hv M) (h5 hn hd M)⟩
   | false =>
     obtain ⟨x, e', s', ds', h4, h5⟩ := kv hX hD hI hN hZ b hc.2 h3 hr;exact ⟨x, e', s', ds', h4, fun hn hd M => wp_cond_false (hv M) (h5 hn hd M)⟩
 | .block i b, e, s, ds, k, hc, h, hr => by
   unfold jN at h;obtain ⟨x, e', s', ds', h1, h2⟩ := kv hX hD hI hN hZ b (show uX P rp nt b = true from hc) h hr;cases x with
   | normal => exact ⟨_, _, _, _, h1, h2.blk (.inr ⟨nofun, rfl⟩)⟩
   | exit j =>
     dsimp only at h1;cases hb : Nat.beq i j with
     | true => rw [hb] at h1; cases Nat.eq_of_beq_eq_true hb; exact ⟨_, _, _, _, h1, h2.blk (.inl ⟨rfl, rfl⟩)⟩
     | false => rw [hb] at h1; exact ⟨_, _, _, _, h1, h2.blk (.inr ⟨fun e => (by injection e with e; rw [e] at hb; rw [show Nat.beq i i = true from Nat.beq_refl i] at hb; cases hb), rfl⟩)⟩
   | ret => exact ⟨_, _, _, _, h1, h2.blk (.inr ⟨nofun, rfl⟩)⟩
 | .scope b, e, s, ds, k, hc, h, hr => by
   unfold jN at h;obtain ⟨x, e', s', ds', h1, h2⟩ := kv hX hD hI hN hZ b (show uX P rp nt b = true from hc) h hr;refine ⟨x, e', s', ds', h1, fun hn hd M => wp_scope_straight (wp_mono (h2 hn hd M) fun ext a1 w1 ⟨he, h3⟩ => ?_)⟩;subst he;cases x <;> exact ⟨rfl, h3⟩
 | .rangeFunc f ps c b, e, s, ds, k, hc, h, hr => by
   unfold jN at h;obtain ⟨v, h1, h2⟩ := zS h hr;obtain ⟨fn, ⟨first⟩, cap, rfl, h3⟩ := dP h2 hr;obtain ⟨g, rfl, h4⟩ := dz h3 hr;cases first with
   | nil =>
     obtain ⟨h5, h6⟩ := Ma (nt := nt) (ps := ps) (c := c) (b := b) (ds := ds) hZ h1 h4 hr;exact ⟨_, _, _, _, h5, h6⟩
   | cons y r => exact absurd h4.symm hr
 | .skip, e, s, ds, k, hc, h, hr => by unfold jN at h; exact ⟨_, _, _, _, h, fun {x n B I a w us} hn hd M => wp_skip ⟨rfl, I, B, us, Le.refl B, wm.refl I s, hd, Nw.refl B us, M⟩⟩
 | .loop b, e, s, ds, k, hc, h, hr => by
   unfold jN at h;obtain ⟨x, e', s', h1, h2⟩ := XT h hr;obtain ⟨ex, e2, s2, h3, h4⟩ := hI hc h1 nofun;cases h3;exact ⟨x, e', s', ds, h2, h4.toD⟩
 | .exit i, e, s, ds, k, hc, h, hr => by unfold jN at h; exact ⟨_, _, _, _, h, fun {x n B I a w us} hn hd M => wp_exit ⟨rfl, I, B, us, Le.refl B, wm.refl I s, hd, Nw.refl B us, M⟩⟩
 | .label l, e, s, ds, k, hc, h, hr => by unfold jN at h; exact ⟨_, _, _, _, h, fun {x n B I a w us} hn hd M => wp_label ⟨rfl, I, B, us, Le.refl B, wm.refl I s, hd, Nw.refl B us, M⟩⟩
 | .goto l, e, s, ds, k, hc, h, hr => by unfold jN at h; exact absurd h.symm hr
 | .ret, e, s, ds, k, hc, h, hr => by unfold jN at h; exact ⟨_, _, _, _, h, fun {x n B I a w us} hn hd M => wp_ret ⟨rfl, I, B, us, Le.refl B, wm.refl I s, hd, Nw.refl B us, M⟩⟩
 | .refuse w, e, s, ds, k, hc, h, hr => by unfold jN at h; exact absurd h.symm hr
end
end Go.Ev
namespace Go.Ev
open Go.Eng Go.RowKit
section
variable {P : Program} {X : ki} {D : Nat -> Option DE} {ih : jn} {rp : RP} {Z : Nat -> Lv -> St -> Rs -> Rs} {r : Rs} {nt : Nat}
variable {s : St} {vs : Lv}
theorem ZL {x : Fx} {B : Mp} {I : As} {w : World} (M : Ms P x B I s w) {us : Lv} (h : xk I vs us) {e : Env} (he : ∀ t v, get e t = some v -> (0 <= t /\ vs[t - 0]? = some v) \/ get (Hw nt) t = some v) {ds : List Deferred} (hd : ds = []) :
  Mt P (H5 x ds) ((⟨us⟩ : Array Value) ++ Array.replicate (nt - us.length) undef).size B I e s ⟨(⟨us⟩ : Array Value) ++ Array.replicate (nt - (⟨us⟩ : Array Value).size) undef, []⟩ w := by
 subst hd;refine Ms.mt (a := ⟨(⟨us⟩ : Array Value) ++ Array.replicate (nt - us.length) undef, []⟩) (M.fx fun _ _ => rfl) rfl rfl fun t v hv => ?_;rcases he t v hv with ⟨-, h12⟩ | h12
 ·obtain ⟨u, g1, g2⟩ := h.nth t v (by simpa using h12);refine ⟨u, ?_, g2⟩;have hlt := (List.getElem?_eq_some_iff.1 g1).1;rw [Array.getElem?_append_left (by simpa using hlt)]
  simpa using g1
 ·rw [Hw, qS] at h12; cases h12
variable {k : St -> Rs}
theorem N1 {q : Rs} (h : AY k q = r) (hr : r ≠ .no) : ∃ x e s, q = .ok x e s /\ (x = .normal \/ x = .ret) /\ k s = r := by
 cases q with
 | no => exact absurd h.symm hr
 | more e s => exact absurd h.symm hr
 | ok x e s =>
   cases x with
   | normal => exact ⟨_, e, s, rfl, .inl rfl, h⟩
   | exit i => exact absurd h.symm hr
   | ret => exact ⟨_, e, s, rfl, .inr rfl, h⟩
variable {d : DE} {g : Nat}
theorem RZ (hX : kN P X) (hD : aC P D) (hI : vP P ih) (hN : wq P) (hg : D g = some d) (h : R0 P X D ih d vs s k = r) (hr : r ≠ .no) : z7 P g = true /\ ∃ s', k s' = r /\
  ∀ {x : Fx} {B : Mp} {I : As} {w : World}, Ms P x B I s w -> ∀ us, xk I vs us -> CallsD P g ⟨us⟩ .returning w fun e u2 w' => e = .returned (.tuple #[]) /\ u2 = .returning /\ ∃ J, wm I s J s' /\ Ms P x B J s' w' := by
 obtain ⟨hf, hb⟩ := hD g d hg;unfold R0 at h
 split at h
 ·rename_i id ops rest hbd hrs
  split at h
  ·rename_i o l hops
   split at h
   ·rename_i t as ats ty pos aft
    split at h
    ·rename_i has
     obtain ⟨as⟩ := as;cases (show as = [] from has);obtain ⟨ops⟩ := ops;cases (show ops = _ from hops);obtain ⟨e0, h1, h2⟩ := fB vs 0 _ h;obtain ⟨x, e', s', h3, hx, h4⟩ := N1 h1 hr;have hck := hb _ hbd;unfold uX at hck;rw [Bool.and_eq_true] at hck;obtain ⟨hck1, hck2⟩ := hck;unfold uX at hck1;rw [Bool.and_eq_true] at hck1
     have hsl : gw d.fn.ntmps l = true := by
      have := hck1.1;unfold gw at this ⊢;rw [List.all_cons, Bool.and_eq_true] at this;exact this.2
     have htl : t < d.fn.ntmps := by
      have := hck1.1;unfold gw at this;rw [List.all_cons, Bool.and_eq_true] at this
      simpa [Nat.blt_eq] using this.1
     have hne : Wq P X D ih (⟨some t, .call ⟨.builtin .recover, ⟨[]⟩, ats⟩, ty, pos, aft, none⟩ :: l) l (Vp (some t) .nilIface e0) s ≠ .no := fun e1 => by rw [e1] at h3; cases h3
     obtain ⟨e1, s1, h5, h6⟩ := du hX hD hI hN l hsl rfl hne;rw [h5] at h3;obtain ⟨x2, e2, s2, h7, h8⟩ := hI hck2 (show ih d.rp rest e1 s1 = .ok x e' s' from h3) nofun;cases h7;refine ⟨?_, s', h4, fun {fx B I w} M us hus => ?_⟩
     ·unfold z7
      simp [hf, hbd, hN g d.fn hf]
     refine callsD_of_wpS hf hbd fun c0 cs hu => ?_;refine wpS_seq (wpS_region ?_)
     have hrg : ∀ (o : Oper), List.range (⟨o :: l⟩ : Array Oper).size = 0 :: List.range' 1 l.length := fun o => by
      rw [List.range_eq_range']
      simp [List.range'_succ]
     rw [hrg];unfold wpOpsS;simp only [List.getElem?_toArray, List.getElem?_cons_zero];rw [if_pos (by simp [Region.wanted])]
     have hrec : ∀ (ρ : Operand -> Value) (w : World), (execOp ρ (⟨some t, .call ⟨.builtin .recover, #[], ats⟩, ty, pos, aft, none⟩ : Oper)).run P w = .ok .recover w := fun ρ w => by
      simp [execOp, resolve, invoke, builtin]
     simp only [hrec];have hc0 : recoverD (c0 :: cs) = none := by simp [recoverD, hu]
     simp only [hc0];refine jS (fun a w hq => ?_) l 1 _ _ (fun j hj => by rw [List.getElem?_toArray, Nat.add_comm 1 j, List.getElem?_cons_succ]) ?_
     ·obtain ⟨_, hq, _⟩ := hq;cases hq
     ·have hM0 := ZL M hus h2 (ds := []) rfl
      have hM1 : Mt P (H5 fx []) ((⟨us⟩ : Array Value) ++ Array.replicate (d.fn.ntmps - us.length) undef).size B I (Vp (some t) .nilIface e0) s ((⟨(⟨us⟩ : Array Value) ++ Array.replicate (d.fn.ntmps - (⟨us⟩ : Array Value).size) undef, []⟩ : Act).put (some t) .nilIface) w :=
       hM0.next (u := .nilIface) (fun t' ht' => by cases ht'; rw [Array.size_append, Array.size_replicate]; exact Nat.lt_of_lt_of_le htl (by show d.fn.ntmps <= us.length + (d.fn.ntmps - us.length); omega)) (dp.refl I) .nili hM0.ms
      have h9 := h6 (x := H5 fx []) (B := B) (by simp; omega : d.fn.ntmps <= ((⟨us⟩ : Array Value) ++ Array.replicate (d.fn.ntmps - us.length) undef).size) (wm.refl I s) hM1
      have h10 : ∀ QQ : Exit -> Act -> World -> Prop, (∀ a w, (∃ J, wm I s J s1 /\ Mt P (H5 fx []) ((⟨us⟩ : Array Value) ++ Array.replicate (d.fn.ntmps - us.length) undef).size B J e1 s1 a w) -> QQ .normal a w) -> wpList P (⟨some t, .call ⟨.builtin .recover, #[], ats⟩, ty, pos, aft, none⟩ :: l : List Oper).toArray QQ l
        ((⟨(⟨us⟩ : Array Value) ++ Array.replicate (d.fn.ntmps - (⟨us⟩ : Array Value).size) undef, []⟩ : Act).put (some t) .nilIface) w := fun QQ hq => by
       have := er (l2 := []) (Q := QQ) (fun a w h => hq a w h.2) (fun ext hne a w h => absurd h.1 hne) h9;rwa [List.append_nil] at this
      refine h10 _ ?_;rintro a1 w1 ⟨J, g1, g2⟩;show rest.wpS P _ a1 (c0 :: cs) w1;refine wpS_of_wp (wp_mono (h8 (by simp; omega) g2) ?_);rintro ext a2 w2 ⟨rfl, K, g3, g4⟩
      have fin : a2.defers = [] /\ ∃ u', (c0 :: cs) = { c0 with mode := u' } :: cs /\ ∃ v, (results d.fn a2.tmps).run P w2 = .ok v w2 /\ (Ending.returned v = .returned (.tuple #[]) /\ u' = .returning /\ ∃ J, wm I s J s' /\ Ms P fx B J s' w2) := by
       refine ⟨g4.df, .returning, by rw [<- hu], .tuple #[], ?_, rfl, rfl, K, g1.trans g3, g4.ms.fx fun _ _ => rfl⟩;have := dR (P := P) (fn := d.fn) (tmps := a2.tmps) (w := w2) (us := []) (by rw [hrs]; rfl);exact this
      rcases hx with rfl | rfl
      ·exact fin
      ·exact fin
    ·exact absurd h.symm hr
   ·exact absurd h.symm hr
  ·exact absurd h.symm hr
 ·exact absurd h.symm hr
theorem Gl (hX : kN P X) (hD : aC P D) (hI : vP P ih) (hN : wq P) : ∀ (ds : List DI) {s : St} {k : St -> Rs}, NB P X D ih ds s k = r -> r ≠ .no -> ∃ s', k s' = r /\
  ∀ {x : Fx} {B : Mp} {I : As} {w : World} {us : List Deferred} {fn : Func} {tmps : Array Value} {R : Ending -> World -> Prop}, Ms P x B I s w -> OX I B ds us -> (∀ J w', wm I s J s' -> Ms P x B J s' w' -> ∃ v, (results fn tmps).run P w' = .ok v w' /\ R (.returned v) w') -> Leaves P fn tmps R us .returning w
 | [], s, k, h, hr => ⟨s, h, fun {x B I w us fn tmps R} M hd hk => by
   cases (show us = [] from hd)
   exact hk I w (wm.refl I s) M⟩
 | none :: ds, s, k, h, hr => absurd h.symm hr
 | some (g, vs) :: ds, s, k, h, hr => by
   obtain ⟨d, h1, h2⟩ := zt (show oB (D g) (fun d => R0 P X D ih d vs s fun s => NB P X D ih ds s k) = r from h) hr;obtain ⟨hcl, s1, h3, h4⟩ := RZ hX hD hI hN h1 h2 hr;obtain ⟨s', h5, h6⟩ := Gl hX hD hI hN ds h3 hr;refine ⟨s', h5, fun {x B I w us fn tmps R} M hd hk => ?_⟩;obtain ⟨q, us', rfl, g1, g2⟩ := hd
   refine leaves_cons (f := g) (args := q.toArray) (by simp) ?_ ((h4 M q g1).mono ?_)
   ·have := wi (P := P) hcl q.toArray w;simp only [invoke]
    simpa using this
   ·rintro e u2 w' ⟨rfl, rfl, J, k1, k2⟩;exact h6 k2 (g2.mono k1.ext (Le.refl B)) fun K w'' k3 k4 => hk K w'' (k1.trans k3) k4
theorem NH (hX : kN P X) (hD : aC P D) (hI : vP P ih) (hN : wq P) (hZ : ZOk P Z) (hg : D g = some d) {k : KS} (h : TZ P X D ih Z d s k vs = r) (hr : r ≠ .no) : z7 P g = true /\ ∃ v s', k v s' = r /\ wv P s g vs v s' := by
 obtain ⟨hf, hb⟩ := hD g d hg;obtain ⟨b, h1, h2⟩ := zt h hr;obtain ⟨e0, h3, h4⟩ := fB vs 0 _ h2;obtain ⟨x, e', s1, ds, h5, h6⟩ := kv hX hD hI hN hZ b (hb b h1) h3 hr
 have h7 : PQ P X D ih d.fn k e' s1 ds = r /\ (x = .normal \/ x = .ret) := by
  cases x with
  | normal => exact ⟨h5, .inl rfl⟩
  | exit i => exact absurd h5.symm hr
  | ret => exact ⟨h5, .inr rfl⟩
 obtain ⟨h7, hx⟩ := h7
 have hcl : z7 P g = true := by
  unfold z7
  simp [hf, h1, hN g d.fn hf]
 have ret : ∀ {s2 : St}, Ps P d.fn k e' s2 = r -> ∃ zs, k (fM zs) s2 = r /\ ∀ {x : Fx} {n : Nat} {B : Mp} {I : As} {a : Act} {w : World}, Mt P x n B I e' s2 a w -> ∃ us, xk I zs us /\ (results d.fn a.tmps).run P w = .ok (fM us) w := fun {s2} h => by
  obtain ⟨zs, k1, k2⟩ := cj d.fn.results.toList (show VX P e' s2.h d.fn.results.toList (fun vs => k (fM vs) s2) = r from h) hr;refine ⟨zs, k1, fun M => ?_⟩;obtain ⟨us, k3, k4⟩ := k2 M;exact ⟨us, k3, dR k4⟩
 have clo : (NB P X D ih ds s1 fun s => Ps P d.fn k e' s) = r -> ∃ v s', k v s' = r /\ wv P s g vs v s' := fun h8 => by
  obtain ⟨s', h9, h10⟩ := Gl hX hD hI hN ds h8 hr;obtain ⟨zs, h11, h12⟩ := ret h9;refine ⟨fM zs, s', h11, fun {fx B I w} M us hus => ?_⟩;refine calls_of_wp_defers hf h1 (wp_mono (h6 (x := fx) (B := B) (by simp; omega : d.fn.ntmps <= ((⟨us⟩ : Array Value) ++ Array.replicate (d.fn.ntmps - us.length) undef).size) (us := []) rfl (ZL M hus h4 rfl)) ?_)
  rintro ext a' w' ⟨rfl, J, B', us', g0, g1, g2, gn, g3⟩
  have fin : Leaves P d.fn a'.tmps (fun e w' => ∃ u J, e = .returned u /\ wm I s J s' /\ Rl J (fM zs) u /\ Ms P fx B J s' w') a'.defers .returning w' := by
   rw [g3.df];refine h10 (x := H5 fx us') (B := B') g3.ms g2 fun K w'' k1 k2 => ?_
   obtain ⟨Ln, k3, k4⟩ := h12 (k2.mt g3.sz g3.df fun t v hv => by
    obtain ⟨u, y1, y2⟩ := g3.env t v hv
    exact ⟨u, y1, y2.ext k1.ext⟩)
   refine ⟨_, k4, _, K, rfl, g1.trans k1, Wb k3, k2.gl, k2.wd, ⟨k2.hp.obj, k2.hp.sep, k2.hp.new, fun i o y y1 y2 => ?_, g0.trans k2.hp.base, k2.hp.fre⟩⟩;have := k2.hp.out i o y y1 y2;cases hBy : B y.1 with
   | none => rfl
   | some ob => rw [g0 _ _ hBy] at this; cases this
  rcases hx with rfl | rfl
  ·exact fin
  ·exact fin
 refine ⟨hcl, ?_⟩;unfold PQ at h7
 split at h7
 ·obtain ⟨zs, h11, h12⟩ := ret h7;refine ⟨fM zs, s1, h11, fun {fx B I w} M us hus => ?_⟩;refine (callsIn_wide (n := 3)).1 (callsIn_of_wp_marks hf h1 trivial (wpIn_wide.2 ?_));refine wp_mono (h6 (x := fx) (B := B) (by simp; omega : d.fn.ntmps <= ((⟨us⟩ : Array Value) ++ Array.replicate (d.fn.ntmps - us.length) undef).size) (us := []) rfl (ZL M hus h4 rfl)) ?_
  rintro ext a' w' ⟨rfl, J, B', us', g0, g1, g2, gn, g3⟩;obtain ⟨dm, Ln, rfl, hBd, hus2⟩ := g2;cases (show Ln = [] from hus2);have hdef : w'.heap[dm]? = some (.deferred (some [])) := g3.hp.base _ _ hBd
  have hne : ∀ {i : Nat} {o : AO} {y : Nat × Nat × Option Nat}, get s1.h i = some o -> J i = some y -> y.1 ≠ dm := fun {i o y} y1 y2 e => by
   have := g3.hp.out i o y y1 y2;rw [e, hBd] at this; cases this
  have hMs : Ms P fx B J s1 (w'.putObj dm (.deferred none)) := by
   have hwd := g3.wd
   have hp : ∀ j, j ≠ dm -> mp (w'.putObj dm (.deferred none)).heap j = mp w'.heap j := fun j hj => by
    unfold mp World.putObj;simp only;rw [Array.getElem?_setIfInBounds_ne (Ne.symm hj)]
   refine ⟨g3.gl, ?_, ⟨fun i o y y1 y2 => (g3.hp.obj i o y y1 y2).frame y2 (hp _ (hne y1 y2)), g3.hp.sep, g3.hp.new, fun i o y y1 y2 => ?_, fun b o hb => ?_, g3.hp.fre⟩⟩
   ·rw [hwd]; rfl
   ·have := g3.hp.out i o y y1 y2;cases hBy : B y.1 with
    | none => rfl
    | some ob => rw [g0 _ _ hBy] at this; cases this
   ·have hBn : B dm = none := (gn dm (.head _)).elim (fun h => by cases h) id;have hbd : b ≠ dm := fun e => by rw [e, hBn] at hb; cases hb
    rw [hp b hbd];exact g3.hp.base _ _ (g0 _ _ hb)
  have fin : LeavesInM Fence.wide 3 P d.fn a'.tmps (fun e w' => ∃ u J, e = .returned u /\ wm I s J s1 /\ Rl J (fM zs) u /\ Ms P fx B J s1 w') a'.defers .returning w' := by
   rw [g3.df];refine ⟨by simp, .inl ⟨dm, _, rfl, run_takeDeferred hdef, ?_⟩⟩;obtain ⟨DT, k3, k4⟩ := h12 ((hMs.fx (y := H5 fx a'.defers) fun _ _ => rfl).mt g3.sz rfl g3.env);exact ⟨_, k4, _, J, rfl, g1, Wb k3, hMs⟩
  rcases hx with rfl | rfl
  ·exact fin
  ·exact fin
 ·exact clo h7
end
end Go.Ev
noncomputable section
namespace Go.Ev
open Go.Eng
def done : Rs := .ok .normal .lf ⟨.lf, 0⟩
def ER (a : List MapEntry) : List MapEntry -> Rs -> Rs := List.rec (motive := fun _ => List MapEntry -> Rs -> Rs) (fun b k => List.rec (motive := fun _ => Rs) k (fun _ _ _ => .no) b) (fun x _ ih b k => List.rec (motive := fun _ => Rs) .no (fun y b _ => bB (Nat.beq x.born y.born) (Gj x.key y.key (Gj x.val y.val (ih b k)))) b) a
def NA (a b : AO) (k : Rs) : Rs := AO.rec (motive := fun _ => Rs) (fun xs e => AO.rec (motive := fun _ => Rs) (fun ys f => bB (Nat.beq e f) (JO xs ys k)) yL yL b) (fun xs e => AO.rec (motive := fun _ => Rs) yL (fun ys f => bB (Nat.beq e f) (JO xs ys k)) yL b) (fun es c => AO.rec (motive := fun _ => Rs) yL yL (fun es' c' => bB (Nat.beq c c') (ER es es' k)) b) a
abbrev QG := List (Nat × AO)
abbrev OP := List (Nat × Option AO)
def Ni (h : Tr AO) (ins : QG) (k : Rs) : Rs := List.rec (motive := fun _ => Rs) k (fun x _ ih => oB (get h x.1) fun o => NA o x.2 ih) ins
def Jh (h : Tr AO) (outs : OP) (k : Rs) : Rs := List.rec (motive := fun _ => Rs) k (fun x _ ih => Option.rec (motive := fun _ => Rs) (Option.rec (motive := fun _ => Rs) ih ff (get h x.1)) (fun o => oB (get h x.1) fun o' => NA o' o ih) x.2) outs
def E4 (v : Value) (sm : QG) (outs : OP) (n1 : Nat) : KS := fun v' s' => Gj v v' (bB (Nat.beq n1 s'.nx) (Ni s'.h sm (Jh s'.h outs done)))
def H4 (ins : QG) : (Tr AO -> Rs) -> Rs := List.rec (motive := fun _ => (Tr AO -> Rs) -> Rs) (fun k => k (dc 14)) (fun x _ ih k => ih fun t => put (some x.2) t x.1 k) ins
def Mo (outs : OP) : Tr AO -> (Tr AO -> Rs) -> Rs := List.rec (motive := fun _ => Tr AO -> (Tr AO -> Rs) -> Rs) (fun h k => k h) (fun x _ ih h k => put x.2 h x.1 fun h => ih h k) outs
def TH (vs0 : Lv) (n0 : Nat) (ins : QG) (v : Value) (outs : OP) (n1 : Nat) (vs : Lv) (s : St) (k : KS) : Rs := JO vs0 vs (bB (Nat.beq n0 s.nx) (Ni s.h ins (Mo outs s.h fun h => k v ⟨h, n1⟩)))
def gP {α : Type} (l : List (Nat × α)) (i : Nat) : Bool := l.any fun x => x.1 == i
def PU {α : Type} : List (Nat × α) -> Bool
 | [] => true
 | x :: l => !gP l x.1 && PU l
def mOk (sm cg : QG) (outs : OP) (n0 n1 : Nat) : Bool :=
 PU outs && outs.all (fun x => gP cg x.1 || Nat.ble n0 x.1) && cg.all (fun x => gP outs x.1) && sm.all (fun x => !gP outs x.1) && Nat.ble n0 n1 && outs.all fun x => Nat.blt x.1 n1
def ez (l : List (Nat × (Lv -> St -> KS -> Rs))) (vs : Lv) (s : St) (k : KS) : Rs := List.rec (motive := fun _ => Rs) .no (fun x _ ih => Bool.rec (motive := fun _ => Rs) ih (x.2 vs s k) (Nat.beq x.1 s.nx)) l
end Go.Ev
end
namespace Go.Ev
open Go.Eng
theorem j7 {α : Type} {l : List (Nat × α)} {i : Nat} : gP l i = true ↔ ∃ a, (i, a) ∈ l := by
 unfold gP;rw [List.any_eq_true]
 constructor
 ·rintro ⟨⟨j, a⟩, h1, h2⟩;rw [beq_iff_eq] at h2;exact ⟨a, by rw [<- h2]; exact h1⟩
 ·rintro ⟨a, h⟩; exact ⟨_, h, by simp⟩
section
variable {r : Rs}
theorem UZ (hr : r ≠ .no) : ∀ {a b : List MapEntry} {k : Rs}, ER a b k = r -> a = b /\ k = r
 | [], [], k, h => ⟨rfl, h⟩
 | [], _ :: _, k, h => absurd h.symm hr
 | _ :: _, [], k, h => absurd h.symm hr
 | x :: a, y :: b, k, h => by
   obtain ⟨h1, h2⟩ := zl (show bB (Nat.beq x.born y.born) (Gj x.key y.key (Gj x.val y.val (ER a b k))) = r from h) hr;obtain ⟨h3, h4⟩ := qI hr _ h2;obtain ⟨h5, h6⟩ := qI hr _ h4;obtain ⟨h7, h8⟩ := UZ hr h6;obtain ⟨x1, x2, x3⟩ := x;obtain ⟨y1, y2, y3⟩ := y;cases Nat.eq_of_beq_eq_true h1;cases h3; cases h5; cases h7;exact ⟨rfl, h8⟩
theorem U1 (hr : r ≠ .no) {a b : AO} {k : Rs} (h : NA a b k = r) : a = b /\ k = r := by
 cases a <;> cases b <;> first | exact absurd h.symm hr | skip
 ·obtain ⟨h1, h2⟩ := zl (show bB _ _ = r from h) hr;obtain ⟨h3, h4⟩ := vN hr _ h2;cases Nat.eq_of_beq_eq_true h1;exact ⟨by rw [h3], h4⟩
 ·obtain ⟨h1, h2⟩ := zl (show bB _ _ = r from h) hr;obtain ⟨h3, h4⟩ := vN hr _ h2;cases Nat.eq_of_beq_eq_true h1;exact ⟨by rw [h3], h4⟩
 ·obtain ⟨h1, h2⟩ := zl (show bB _ _ = r from h) hr;obtain ⟨h3, h4⟩ := UZ hr h2;cases Nat.eq_of_beq_eq_true h1;exact ⟨by rw [h3], h4⟩
variable {t : Tr AO}
theorem jC (hr : r ≠ .no) : ∀ {ins : QG} {k : Rs}, Ni t ins k = r -> k = r /\ ∀ i o, (i, o) ∈ ins -> get t i = some o
 | [], k, h => ⟨h, fun i o h => by cases h⟩
 | x :: ins, k, h => by
   obtain ⟨o, h1, h2⟩ := zt (show oB (get t x.1) (fun o => NA o x.2 (Ni t ins k)) = r from h) hr;obtain ⟨h3, h4⟩ := U1 hr h2;obtain ⟨h5, h6⟩ := jC hr h4;refine ⟨h5, fun i o' hi => ?_⟩;rcases List.mem_cons.1 hi with e | hi
   ·rw [<- e] at h1 h3; rw [h1, h3]
   ·exact h6 i o' hi
theorem cz (hr : r ≠ .no) : ∀ {outs : OP} {k : Rs}, Jh t outs k = r -> k = r /\ ∀ i o, (i, o) ∈ outs -> get t i = o
 | [], k, h => ⟨h, fun i o h => by cases h⟩
 | (j, none) :: outs, k, h => by
   replace h : Option.rec (motive := fun _ => Rs) (Jh t outs k) ff (get t j) = r := h
   cases hg : get t j with
   | some o => rw [hg] at h; exact absurd h.symm hr
   | none =>
     rw [hg] at h;obtain ⟨h5, h6⟩ := cz hr (show Jh t outs k = r from h);refine ⟨h5, fun i o' hi => ?_⟩;rcases List.mem_cons.1 hi with e | hi
     ·cases e; exact hg
     ·exact h6 i o' hi
 | (j, some o) :: outs, k, h => by
   obtain ⟨o1, h1, h2⟩ := zt (show oB (get t j) (fun o' => NA o' o (Jh t outs k)) = r from h) hr;obtain ⟨h3, h4⟩ := U1 hr h2;obtain ⟨h5, h6⟩ := cz hr h4;refine ⟨h5, fun i o' hi => ?_⟩;rcases List.mem_cons.1 hi with e | hi
   ·cases e; rw [h1, h3]
   ·exact h6 i o' hi
theorem Ww : ∀ {ins : QG} {k : Tr AO -> Rs}, H4 ins k = r -> ∃ t, k t = r /\ ∀ i o, get t i = some o -> (i, o) ∈ ins
 | [], k, h => ⟨dc 14, h, fun i o hi => by rw [qS] at hi; cases hi⟩
 | x :: ins, k, h => by
   obtain ⟨t, h1, h2⟩ := Ww (show H4 ins (fun t => put (some x.2) t x.1 k) = r from h);rw [Je] at h1;refine ⟨_, h1, fun i o hi => ?_⟩;rw [bf] at hi
   split at hi
   ·rename_i e
    split at hi
    ·cases hi; rw [e]; exact .head _
    ·cases hi
   ·exact .tail _ (h2 i o hi)
theorem Xz : ∀ {outs : OP} {t : Tr AO} {k : Tr AO -> Rs}, PU outs = true -> Mo outs t k = r -> ∃ t', k t' = r /\ (∀ i, has t' i = has t i) /\ (∀ i o, (i, o) ∈ outs -> get t' i = if has t i then o else none) /\ ∀ i, gP outs i = false -> get t' i = get t i
 | [], t, k, _, h => ⟨t, h, fun _ => rfl, fun i o hi => (by cases hi), fun _ _ => rfl⟩
 | x :: outs, t, k, hn, h => by
   unfold PU at hn;rw [Bool.and_eq_true, Bool.not_eq_true'] at hn
   replace h : put x.2 t x.1 (fun h => Mo outs h k) = r := h
   rw [Je] at h;obtain ⟨t', h1, h2, h3, h4⟩ := Xz hn.2 h;refine ⟨t', h1, fun i => (h2 i).trans (JD _ _ _ _), fun i o hi => ?_, fun i hi => ?_⟩
   ·rcases List.mem_cons.1 hi with e | hi
    ·rw [<- e] at hn h4;rw [h4 i hn.1, bf, if_pos rfl]
    ·rw [h3 i o hi, JD]
   ·unfold gP at hi;rw [List.any_cons, Bool.or_eq_false_iff] at hi;rw [h4 i hi.2, bf, if_neg fun e => by rw [e] at hi; simp at hi]
theorem JE {α : Type} {t : Tr α} : ∀ {i : Nat} {v : α}, get t i = some v -> has t i = true := by
 induction t with
 | lf => intro i v h; cases h
 | nd l w r ihl ihr =>
   intro i v h;cases i with
   | zero => rfl
   | succ i =>
     rw [xV] at h;unfold has
     split
     ·rename_i e; rw [if_pos e] at h; exact ihl h
     ·rename_i e; rw [if_neg e] at h; exact ihr h
end
section
variable {P : Program} {X : ki} {D : Nat -> Option DE} {r : Rs}
open Classical in
theorem KY (hX : kN P X) (hD : aC P D) (hN : wq P) (hm : P.follows .mixedOrders = true) {d g n0 n1 : Nat} {vs0 : Lv} {sm cg : QG} {v : Value} {outs : OP}
  (hrun : H4 (sm ++ cg) (fun t => Ni t cg (qA P X D d g vs0 ⟨t, n0⟩ (E4 v sm outs n1))) = done) (hok : mOk sm cg outs n0 n1 = true) :
  z7 P g = true /\ ∀ {vs : Lv} {s : St} {k : KS} {r : Rs}, TH vs0 n0 (sm ++ cg) v outs n1 vs s k = r -> r ≠ .no -> ∃ v s', k v s' = r /\ wv P s g vs v s' := by
 have hdn : done ≠ .no := nofun;obtain ⟨t0, h1, h2⟩ := Ww hrun;obtain ⟨h1, hcgt⟩ := jC hdn h1;obtain ⟨hcl, v', s1, h3, h4⟩ := gS hX hD hN hm h1 hdn;obtain ⟨rfl, h5⟩ := qI hdn v h3;obtain ⟨h6, h7⟩ := zl h5 hdn;have h6 := Nat.eq_of_beq_eq_true h6;obtain ⟨h8, h9⟩ := jC hdn h7;obtain ⟨-, h10⟩ := cz hdn h8;unfold mOk at hok
 simp only [Bool.and_eq_true, List.all_eq_true, Bool.or_eq_true, Bool.not_eq_true', Nat.blt_eq] at hok;obtain ⟨⟨⟨⟨⟨o1, o2⟩, o3⟩, o4⟩, o5⟩, o6⟩ := hok;have o5 := Nat.le_of_ble_eq_true o5;refine ⟨hcl, fun {vs s k r} h hr => ?_⟩;obtain ⟨rfl, m1⟩ := vN hr vs0 h;obtain ⟨m2, m3⟩ := zl m1 hr;have m2 := Nat.eq_of_beq_eq_true m2;obtain ⟨m4, m5⟩ := jC hr m3
 obtain ⟨t', m6, m7, m8, m9⟩ := Xz o1 m4;refine ⟨v, ⟨t', n1⟩, m6, fun {x B I w} M us hus => ?_⟩
 -- all that the run did not look at is held fixed
 obtain ⟨Kp, hKp⟩ : ∃ Kp : Nat -> Prop, Kp = fun a => ∃ i o y, gP (sm ++ cg) i = false /\ get s.h i = some o /\ I i = some y /\ y.1 = a := ⟨_, rfl⟩;obtain ⟨B2, hB2⟩ : ∃ B2 : Mp, B2 = fun a => if Kp a then mp w.heap a else B a := ⟨_, rfl⟩
 have hsome : ∀ {a : Nat}, Kp a -> ∃ ob, mp w.heap a = some ob := fun {a} h => by
  rw [hKp] at h;obtain ⟨i, o, y, -, k2, k3, k4⟩ := h;obtain ⟨ob, k5⟩ := (M.hp.obj i o y k2 k3).has k3;exact ⟨ob, by rw [<- k4]; exact k5⟩
 have hBle : Le B B2 := fun b ob hb => by
  rw [hB2];show (if Kp b then _ else _) = _
  split
  ·rename_i h; exact M.hp.base b ob hb
  ·exact hb
 have hB2le : Le B2 (mp w.heap) := fun b ob hb => by
  rw [hB2] at hb
  replace hb : (if Kp b then mp w.heap b else B b) = some ob := hb
  split at hb
  ·exact hb
  ·exact M.hp.base b ob hb
 have hB2B : ∀ {a : Nat}, B2 a = none -> B a = none := fun {a} h => by
  cases hb : B a with
  | none => rfl
  | some ob => rw [hBle a ob hb] at h; cases h
 have M0 : Ms P x B2 I ⟨t0, n0⟩ w := by
  have sub : ∀ {i o}, get t0 i = some o -> get s.h i = some o /\ gP (sm ++ cg) i = true := fun {i o} h => ⟨m5 i o (h2 i o h), j7.2 ⟨o, h2 i o h⟩⟩
  refine ⟨M.gl, M.wd, ⟨fun i o y k1 k2 => M.hp.obj i o y (sub k1).1 k2, fun i j o o' y z k1 k2 k3 k4 e => M.hp.sep i j o o' y z (sub k1).1 (sub k2).1 k3 k4 e, fun i hi => M.hp.new i (by rw [<- m2]; exact hi), fun i o y k1 k2 => ?_, hB2le, fun i hi => ?_⟩⟩
  ·rw [hB2];show (if Kp y.1 then _ else _) = _;rw [if_neg fun h => ?_]
   ·exact M.hp.out i o y (sub k1).1 k2
   ·rw [hKp] at h;obtain ⟨j, o', z, q1, q2, q3, q4⟩ := h;have := M.hp.sep i j o o' y z (sub k1).1 q2 k2 q3 q4.symm;rw [<- this, (sub k1).2] at q1; cases q1
  ·cases hg : get t0 i with
   | none => rfl
   | some o =>
     have := (sub hg).1;rw [M.hp.fre i (by rw [<- m2]; exact hi)] at this;cases this
 refine (h4 M0 us hus).mono ?_;rintro e w' ⟨u, J, rfl, g1, g2, g3⟩;refine ⟨u, J, rfl, ?_, g2, ?_⟩
 ·refine ⟨g1.ext, fun j hj => g1.same j (by rw [show (⟨t0, n0⟩ : St).nx = n0 from rfl, m2]; exact hj), fun j hj hI => ?_, by rw [<- m2]; exact o5⟩;have hgh := g1.gh j (by rw [show (⟨t0, n0⟩ : St).nx = n0 from rfl, m2]; exact hj) hI;show get t' j = get s.h j;cases hk : gP outs j with
  | false => exact m9 j hk
  | true =>
    obtain ⟨o, ho⟩ := j7.1 hk
    have hcg : gP cg j = true := (o2 _ ho).resolve_right fun h => by
     have := Nat.le_of_ble_eq_true h;rw [m2] at this;omega
    obtain ⟨oc, hoc⟩ := j7.1 hcg;have hsj := m5 j oc (List.mem_append_right _ hoc);rw [m8 j o ho, JE hsj, if_pos rfl, hsj, <- h10 j o ho, hgh];exact hcgt j oc hoc
 ·have cases' : ∀ {i o y}, get t' i = some o -> J i = some y -> (get s1.h i = some o) \/ (get s.h i = some o /\ I i = some y /\ Kp y.1) := fun {i o y} k1 k2 => by
   cases hk : gP outs i with
   | true =>
     obtain ⟨o', ho'⟩ := j7.1 hk;rw [m8 i o' ho'] at k1
     split at k1
     ·exact .inl (by rw [h10 i o' ho', k1])
     ·cases k1
   | false =>
     rw [m9 i hk] at k1
     have hlt : i < s.nx := by
      rcases Nat.lt_or_ge i s.nx with h | h
      ·exact h
      ·rw [M.hp.fre i h] at k1; cases k1
     have hIi : I i = some y := by rw [<- g1.same i (by rw [show (⟨t0, n0⟩ : St).nx = n0 from rfl, m2]; exact hlt)]; exact k2
     cases hkk : gP (sm ++ cg) i with
     | false => exact .inr ⟨k1, hIi, by rw [hKp]; exact ⟨i, o, y, hkk, k1, hIi, rfl⟩⟩
     | true =>
       obtain ⟨o', ho'⟩ := j7.1 hkk;rcases List.mem_append.1 ho' with hsm | hcg
       ·have := m5 i o' ho';rw [k1] at this; cases this;exact .inl (h9 i o hsm)
       ·have := o3 _ hcg;rw [show gP outs (i, o').1 = gP outs i from rfl, hk] at this; cases this
  have hKB : ∀ {a : Nat}, Kp a -> B2 a = mp w.heap a := fun {a} h => by rw [hB2]; show (if Kp a then _ else _) = _; rw [if_pos h]
  have hkeep : ∀ {a : Nat}, Kp a -> mp w'.heap a = mp w.heap a := fun {a} h => by
   obtain ⟨ob, k1⟩ := hsome h;rw [k1];exact g3.hp.base a ob (by rw [hKB h]; exact k1)
  refine ⟨g3.gl, g3.wd, ⟨fun i o y k1 k2 => ?_, fun i j o o' y z k1 k2 k3 k4 e => ?_, fun i hi => g3.hp.new i (by rw [<- h6]; exact hi), fun i o y k1 k2 => ?_, hBle.trans g3.hp.base, fun i hi => ?_⟩⟩
  ·rcases cases' k1 k2 with q | ⟨q1, q2, q3⟩
   ·exact g3.hp.obj i o y q k2
   ·have := (M.hp.obj i o y q1 q2).frame (K := mp w'.heap) q2 (hkeep q3);exact this.mono g1.ext (Le.refl _)
  ·rcases cases' k1 k3 with q | ⟨q1, q2, q3⟩ <;> rcases cases' k2 k4 with p | ⟨p1, p2, p3⟩
   ·exact g3.hp.sep i j o o' y z q p k3 k4 e
   ·have := g3.hp.out i o y q k3;obtain ⟨ob, k5⟩ := hsome p3;rw [e, hKB p3, k5] at this; cases this
   ·have := g3.hp.out j o' z p k4;obtain ⟨ob, k5⟩ := hsome q3;rw [<- e, hKB q3, k5] at this; cases this
   ·exact M.hp.sep i j o o' y z q1 p1 q2 p2 e
  ·rcases cases' k1 k2 with q | ⟨q1, q2, q3⟩
   ·exact hB2B (g3.hp.out i o y q k2)
   ·exact M.hp.out i o y q1 q2
  ·show get t' i = none;have hi' : n1 <= i := hi;cases hk : gP outs i with
   | true =>
     obtain ⟨o', ho'⟩ := j7.1 hk;have := o6 _ ho';simp only at this;omega
   | false => rw [m9 i hk]; exact M.hp.fre i (by rw [<- m2]; omega)
end
end Go.Ev
namespace Go.Ev
open Go.Eng
def fS {α : Type} (p : Nat -> α -> Prop) : Tr α -> Nat -> Nat -> Prop
 | .lf, _, _ => True
 | .nd l v r, a, b => (∀ x, v = some x -> p b x) /\ fS p l (2 * a) (a + b) /\ fS p r (2 * a) (2 * a + b)
variable {a b : Nat} {α : Type} {p : Nat -> α -> Prop}
theorem fS.lf : fS p (.lf : Tr α) a b := trivial
variable {c d e : Nat} {l r : Tr α}
theorem fS.nd {x : α} (h : p b x) (hl : fS p l c d) (hr : fS p r c e) (h1 : c = 2 * a := by rfl) (h2 : d = a + b := by rfl) (h3 : e = 2 * a + b := by rfl) : fS p (.nd l (some x) r) a b := by
 subst h1; subst h2; subst h3;exact ⟨fun y hy => by cases hy; exact h, hl, hr⟩
theorem fS.nn (hl : fS p l c d) (hr : fS p r c e) (h1 : c = 2 * a := by rfl) (h2 : d = a + b := by rfl) (h3 : e = 2 * a + b := by rfl) : fS p (.nd l none r) a b := by
 subst h1; subst h2; subst h3;exact ⟨nofun, hl, hr⟩
theorem fS.at : ∀ {t : Tr α} {a b i : Nat} {v : α}, fS p t a b -> get t i = some v -> p (a * i + b) v
 | .lf, a, b, i, v, _, h => by cases h
 | .nd l w r, a, b, 0, v, ⟨h1, _, _⟩, h => by
   rw [dx] at h;rw [Nat.mul_zero, Nat.zero_add];exact h1 v h
 | .nd l w r, a, b, i + 1, v, ⟨_, h2, h3⟩, h => by
   rw [xV] at h
   split at h
   ·rename_i e
    have := fS.at h2 h;rwa [show 2 * a * (i / 2) + (a + b) = a * (i + 1) + b from ?_] at this;have h4 : i = 2 * (i / 2) := by omega
    have h5 : a * i = a * (2 * (i / 2)) := congrArg _ h4;rw [Nat.mul_add, h5, Nat.mul_left_comm, Nat.mul_assoc]; omega
   ·rename_i e
    have := fS.at h3 h;rwa [show 2 * a * (i / 2) + (2 * a + b) = a * (i + 1) + b from ?_] at this;have h4 : i = 2 * (i / 2) + 1 := by omega
    have h5 : a * i = a * (2 * (i / 2) + 1) := congrArg _ h4;rw [Nat.mul_add, h5, Nat.mul_add, Nat.mul_left_comm, Nat.mul_assoc]; omega
noncomputable def chkD (P : Program) (d : DE) : Bool := match d.fn.body with
 | some b => uX P d.rp d.fn.ntmps b
 | none => true
abbrev Ct := Lv -> St -> KS -> Rs
def yZ (P : Program) (g : Nat) (c : Ct) : Prop := z7 P g = true /\ ∀ {vs : Lv} {s : St} {k : KS} {r : Rs}, c vs s k = r -> r ≠ .no -> ∃ v s', k v s' = r /\ wv P s g vs v s'
section
variable {P : Program} {X : ki} {D : Nat -> Option DE}
variable {g : Nat}
theorem yZ.of_eq (hX : kN P X) (hD : aC P D) (hN : wq P) (hm : P.follows .mixedOrders = true) {d : Nat} {c : Ct} (h : ∀ vs s k, c vs s k ≠ .no -> qA P X D d g vs s k = c vs s k) (hcl : z7 P g = true) : yZ P g c :=
 ⟨hcl, fun {vs s k r} hc hr => (gS hX hD hN hm ((h vs s k (by rw [hc]; exact hr)).trans hc) hr).2⟩
theorem yZ.sel (hcl : z7 P g = true) : ∀ {l : List (Nat × Ct)}, (∀ x ∈ l, yZ P g x.2) -> yZ P g (ez l)
 | [], _ => ⟨hcl, fun {vs s k r} hc hr => absurd hc.symm hr⟩
 | x :: l, h => ⟨hcl, fun {vs s k r} hc hr => by
   replace hc : Bool.rec (motive := fun _ => Rs) (ez l vs s k) (x.2 vs s k) (Nat.beq x.1 s.nx) = r := hc
   cases hb : Nat.beq x.1 s.nx with
   | true => rw [hb] at hc; exact (h x (.head _)).2 hc hr
   | false => rw [hb] at hc; exact (yZ.sel hcl fun y hy => h y (.tail _ hy)).2 (show ez l vs s k = r from hc) hr⟩
end
end Go.Ev
