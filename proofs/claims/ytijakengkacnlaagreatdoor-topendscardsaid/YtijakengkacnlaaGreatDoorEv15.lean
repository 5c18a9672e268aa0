/- Parts of the proof: contracts of functions of the program, and plain lemmas. No condition. -/
import Derived.Test.YtijakengkacnlaaGreatDoorEv1
import Derived.ChangeKeysEq
import Derived.MapKept
import Derived.Laws.MakeOwn
import Derived.Laws.IdiomStrings
import Derived.Deep.AppendSrc
set_option linter.all false
namespace Go.Ev
open Go.Eng
section
variable {P : Program} {e : Env} {s : St} {k : KV} {r : Rs}
variable {t : Nat} {v : Value}
theorem Ny {yt : Nat} {x y : Operand} {a : Act} {w : World} {u : Value} {b : Bool} (hx : a.eval x = u) (hy : a.eval y = v) (hg : ∀ op, (eqGuard op t x y u v).run P w = .ok () w) (hb : (Op.equal t u v).run P w = .ok b w) (h1 : ∀ op, op = .eql \/ op = .neq -> (Go.binOp op t u v) = (if op = .eql then (do pure (.bool (<- Op.equal t u v))) else (do pure (.bool (!(<- Op.equal t u v)))))) (dst ty pos aft gd) :
  (execOp a.eval ⟨dst, .binOp .eql t x y yt, ty, pos, aft, gd⟩).run P w = .ok (.value (.bool b)) w /\ (execOp a.eval ⟨dst, .binOp .neq t x y yt, ty, pos, aft, gd⟩).run P w = .ok (.value (.bool (!b))) w := by
 have h2 := h1 .eql (.inl rfl);have h3 := h1 .neq (.inr rfl);simp only [if_true] at h2;rw [if_neg (by decide)] at h3
 constructor
 ·simp only [execOp, hx, hy, Sem.run_bind, hg, Result.andThen_ok, h2, hb, Sem.run_pure]
 ·simp only [execOp, hx, hy, Sem.run_bind, hg, Result.andThen_ok, h3, hb, Sem.run_pure]
theorem FW (h : cT P t = true) : P.underlying t = some (.pointer (P.pointee t)) := Mr h
variable {p q : Oa}
theorem Hv (w : World) (h : cT P t = true) (hs : ∀ a b, p = some a -> q = some b -> a = b /\ (aA P (P.pointee t)).isSome = true) : (Op.equal t (.pointer p) (.pointer q)).run P w = .ok (decide (p = q)) w := by
 have hu := FW h;show (Op.equalIn (9999 + 1) t _ _).run P w = _;rw [Op.equalIn];cases p with
 | none =>
   simp only [Sem.run_bind, run_underlying hu, Result.andThen_ok, Sem.run_pure];cases q <;> rfl
 | some a =>
   cases q with
   | none =>
     simp only [Sem.run_bind, run_underlying hu, Result.andThen_ok, Sem.run_pure]
     rfl
   | some b =>
     obtain ⟨rfl, h2⟩ := hs a b rfl rfl;obtain ⟨n, hn⟩ := Option.isSome_iff_exists.1 h2;obtain ⟨i, hi, hsz⟩ := gv hn;simp only [Sem.run_bind, run_underlying hu, Result.andThen_ok, sizeOf, typeInfo, Sem.run_pure];have hp : (program).run P w = .ok P w := rfl;simp only [hp, Result.andThen_ok, hi, Sem.run_pure];by_cases h0 : i.size ≠ 0
     ·rw [if_pos h0];unfold sameAddr
      simp
     ·rw [if_neg h0]
      simp
theorem Nx {n c n' c' : Nat} (w : World) (h : xu P t = true) (hs : p = none \/ q = none) : (Op.equal t (.slice p n c) (.slice q n' c')).run P w = .ok (p.isNone && q.isNone) w := by
 obtain ⟨el, hu⟩ := j0 h;show (Op.equalIn (9999 + 1) t _ _).run P w = _;rw [Op.equalIn];rcases hs with rfl | rfl
 ·simp only [Sem.run_bind, run_underlying hu, Result.andThen_ok, Sem.run_pure];cases q <;> rfl
 ·cases p with
  | none => simp only [Sem.run_bind, run_underlying hu, Result.andThen_ok, Sem.run_pure]; rfl
  | some a => simp only [Sem.run_bind, run_underlying hu, Result.andThen_ok, Sem.run_pure]; rfl
theorem BC (h : yQ P t = true) : ∃ ms, P.underlying t = some (.interface ms) := by
 unfold yQ at h
 split at h
 ·exact ⟨_, by assumption⟩
 ·cases h
theorem ae {d : Nat} (w : World) (h : yQ P t = true) : (Op.equal t .nilIface (.iface d v)).run P w = .ok false w /\ (Op.equal t (.iface d v) .nilIface).run P w = .ok false w /\ (Op.equal t .nilIface .nilIface).run P w = .ok true w := by
 obtain ⟨ms, hu⟩ := BC h;refine ⟨?_, ?_, ?_⟩ <;> (show (Op.equalIn (9999 + 1) t _ _).run P w = _; rw [Op.equalIn]; simp only [Sem.run_bind, run_underlying hu, Result.andThen_ok, Sem.run_pure])
end
end Go.Ev
namespace Go.Ev
open Go.Eng
section
variable {P : Program} {e : Env} {s : St} {r : Rs}
variable {t : Nat}
theorem gQ (h : Zv P t = true) : ∃ kd, P.underlying t = some (.int kd) := by
 unfold Zv Rz at h;cases hu : P.underlying t with
 | none => rw [hu] at h; cases h
 | some d =>
   rw [hu] at h;cases d <;> first | exact ⟨_, rfl⟩ | exact absurd h (by decide) | cases h
variable {el : Nat} {k : Bool -> Rs}
theorem R2 {a b : Value} (h : E6 P el a b k = r) (hr : r ≠ .no) : ∃ t, k t = r /\ (∀ {I : As} {u : Value}, Rl I a u -> u = a) /\ (∀ {I : As} {u : Value}, Rl I b u -> u = b) /\ single P el = true /\ ∀ d w, (Op.equalIn (d + 1) el a b).run P w = .ok t w := by
 rcases yC h hr with ⟨_, rfl, h⟩ | ⟨kd, i, rfl, h⟩ | ⟨sb, rfl, h⟩ | ⟨p, rfl, h⟩ | ⟨p, n, c, rfl, h⟩ | ⟨_, rfl, h⟩ | ⟨fn, a, c, rfl, h⟩ | ⟨rfl, h⟩ | ⟨d, x, rfl, h⟩ | ⟨rfl, h⟩ | ⟨⟨cs⟩, rfl, h⟩ | ⟨_, rfl, h⟩ <;> first | exact absurd h.symm hr | skip
 ·obtain ⟨h1, h2⟩ := zl h hr;obtain ⟨kd', y, rfl, h3⟩ := yW h2 hr;obtain ⟨h4, h5⟩ := zl h3 hr;cases eJ h4;obtain ⟨kt, hu⟩ := gQ h1;refine ⟨_, h5, fun g => by cases g; rfl, fun g => by cases g; rfl, by simp [single, hu], fun d w => ?_⟩;rw [Op.equalIn];simp only [Sem.run_bind, run_underlying hu, Result.andThen_ok, if_true, Sem.run_pure, eM]
  rfl
 ·obtain ⟨h1, h2⟩ := zl h hr;obtain ⟨y, rfl, h3⟩ := jT h2 hr;have hu := aE h1;refine ⟨_, h3, fun g => by cases g; rfl, fun g => by cases g; rfl, by simp [single, hu], fun d w => ?_⟩;rw [Op.equalIn];simp only [Sem.run_bind, run_underlying hu, Result.andThen_ok, Sem.run_pure, ZK]
  congr 1
  have e1 := WU (a := sb.data.toList) (b := y.data.toList);rw [vK, vK] at e1;exact e1
theorem Qe : ∀ {as bs : Lv} {k : Bool -> Rs} {r : Rs}, Gy P el as bs k = r -> r ≠ .no -> as.length = bs.length -> ∃ t, k t = r /\ ∀ (xs ys : Lv) (j d : Nat) (w : World), aA P el = some 1 -> (∀ i u, as[i]? = some u -> xs[j + i]? = some u) -> (∀ i u, bs[i]? = some u -> ys[j + i]? = some u) ->
  (Op.eqItems (d + 1) el 1 ⟨xs⟩ ⟨ys⟩ (List.range' j as.length)).run P w = .ok t w
 | [], [], k, r, h, _, _ => ⟨true, h, fun _ _ _ _ w _ _ _ => by simp [Op.eqItems]⟩
 | [], b :: bs, k, r, h, hr, hl => by simp at hl
 | a :: as, [], k, r, h, hr, hl => by simp at hl
 | a :: as, b :: bs, k, r, h, hr, hl => by
   obtain ⟨t, h1, h2, h3, hs, h4⟩ := R2 (show E6 P el a b (fun t => Bool.rec (motive := fun _ => Rs) (k false) (Gy P el as bs k) t) = r from h) hr
   have step : ∀ (xs ys : Lv) (j d : Nat) (w : World), (∀ i u, (a :: as)[i]? = some u -> xs[j + i]? = some u) -> (∀ i u, (b :: bs)[i]? = some u -> ys[j + i]? = some u) ->
     (Op.eqItems (d + 1) el 1 ⟨xs⟩ ⟨ys⟩ (List.range' j (a :: as).length)).run P w = if t = true then (Op.eqItems (d + 1) el 1 ⟨xs⟩ ⟨ys⟩ (List.range' (j + 1) as.length)).run P w else .ok false w := by
    intro xs ys j d w hx hy;have e1 := hx 0 a (by simp);have e2 := hy 0 b (by simp);simp only [Nat.add_zero] at e1 e2;simp only [List.length_cons, List.range'_succ, Op.eqItems, part, Sem.run_bind, vj hs, Result.andThen_ok, Bool.false_eq_true, if_false, Nat.mul_one, List.getElem?_toArray, e1, e2, Sem.run_pure, h4];cases t <;> simp
   cases t with
   | false => exact ⟨false, h1, fun xs ys j d w hz hx hy => by rw [step xs ys j d w hx hy]; rfl⟩
   | true =>
     obtain ⟨t', h5, h6⟩ := Qe (show Gy P el as bs k = r from h1) hr (by simpa using hl);refine ⟨t', h5, fun xs ys j d w hz hx hy => ?_⟩;rw [step xs ys j d w hx hy, if_pos rfl]
     exact h6 xs ys (j + 1) d w hz (fun i u hi => by have := hx (i + 1) u (by simpa using hi); rwa [show j + (i + 1) = j + 1 + i by omega] at this) (fun i u hi => by have := hy (i + 1) u (by simpa using hi); rwa [show j + (i + 1) = j + 1 + i by omega] at this)
theorem Mx {v : Value} (h : pl1 v = true) {I : As} {u : Value} (g : Rl I v u) : u = v := by
 cases v <;> first | exact absurd (show false = true from h) Bool.false_ne_true | (cases g; rfl)
theorem gE : ∀ {l : Lv}, PL l = true -> ∀ {I : As} {us : Lv}, xk I l us -> us = l
 | [], _, _, _, .nil => rfl
 | v :: l, h, _, _, .cons g gs => by
   have h' : Bool.rec (motive := fun _ => Bool) false (PL l) (pl1 v) = true := h;cases hv : pl1 v with
   | false => rw [hv] at h'; cases h'
   | true => rw [hv] at h'; rw [Mx hv g, gE h' gs]
theorem SD {as bs : Lv} (h : A7 P t as bs k = r) (hr : r ≠ .no) : ∃ b, k b = r /\ PL as = true /\ PL bs = true /\ ∀ x y w, (∀ op, (eqGuard op t x y (.agg ⟨as⟩) (.agg ⟨bs⟩)).run P w = .ok () w) /\ (Op.equal t (.agg ⟨as⟩) (.agg ⟨bs⟩)).run P w = .ok b w := by
 obtain ⟨⟨n, el, z⟩, h1, h2⟩ := zt h hr;obtain ⟨h3, h4⟩ := zl h2 hr;obtain ⟨h5, h6⟩ := zl h4 hr;obtain ⟨h7, h8⟩ := zl h6 hr;obtain ⟨h9, h10⟩ := zl h8 hr;obtain ⟨h11, h12⟩ := zl h10 hr;obtain ⟨h13, h14⟩ := zl h12 hr;have hz := Nat.eq_of_beq_eq_true h5;have ha := Nat.eq_of_beq_eq_true h7;have hb := Nat.eq_of_beq_eq_true h9;rw [yO] at ha hb;simp only at hz ha hb
 subst hz;obtain ⟨b, h15, h16⟩ := Qe h14 hr (by omega);rw [Zk] at h3;refine ⟨b, h15, h11, h13, fun x y w => ⟨fun op => ?_, ?_⟩⟩
 ·unfold eqGuard;have : P.eqGuardType P.depth t = false := by simpa using h3
  simp [this]
 ·obtain ⟨hu, hs⟩ := xX h1;obtain ⟨i, hi, hsz⟩ := gv (J5 h1);have hc : P.cellsOf el = 1 := by simp [Program.cellsOf, hi, hsz]
  show (Op.equalIn (9998 + 1 + 1) t _ _).run P w = _;rw [run_equalIn_array w (9998 + 1) _ _ hu hi, hc, List.range_eq_range', <- ha];exact h16 as bs 0 9998 w (J5 h1) (fun i u hi => by simpa using hi) (fun i u hi => by simpa using hi)
end
end Go.Ev
namespace Go.Ev
open Go.Eng
section
variable {P : Program} {e : Env} {s : St} {k : KV} {r : Rs}
variable {t : Nat} {u v : Value}
theorem GC (h1 : ∀ kd a, u ≠ .int kd a) (h2 : ∀ a, u ≠ .string a) (h3 : ∀ kd a b, u ≠ .complex kd a b) (h4 : ∀ kd a, u ≠ .float kd a) : ∀ op, op = .eql \/ op = .neq -> (Go.binOp op t u v) = (if op = .eql then (do pure (.bool (<- Op.equal t u v))) else (do pure (.bool (!(<- Op.equal t u v))))) := by
 rintro op (rfl | rfl)
 ·rw [if_pos rfl];cases u <;> first | exact absurd rfl (h1 _ _) | exact absurd rfl (h2 _) | exact absurd rfl (h3 _ _ _) | exact absurd rfl (h4 _ _) | rfl
 ·rw [if_neg (by decide)];cases u <;> first | exact absurd rfl (h1 _ _) | exact absurd rfl (h2 _) | exact absurd rfl (h3 _ _ _) | exact absurd rfl (h4 _ _) | rfl
def ES (P : Program) (e : Env) (s : St) (t yt : Nat) (x y : Operand) (b : Bool) : Prop := QS P e s (.binOp .eql t x y yt) (.bool b) /\ QS P e s (.binOp .neq t x y yt) (.bool (!b))
variable {va vb : Value} {x y : Operand} {yt : Nat}
theorem X5 {b : Bool} (hx : ev e x = some va) (hy : ev e y = some vb) (h : ∀ {I : As} {u v : Value}, Rl I va u -> Rl I vb v -> (∀ kd a, u ≠ .int kd a) /\ (∀ a, u ≠ .string a) /\ (∀ kd a b, u ≠ .complex kd a b) /\ (∀ kd a, u ≠ .float kd a) /\ ∀ w, (∀ op, (eqGuard op t x y u v).run P w = .ok () w) /\ (Op.equal t u v).run P w = .ok b w) : ES P e s t yt x y b := by
 constructor
 ·intro fx n B I a w M dst ty pos aft gd;obtain ⟨u, g1, g2, -⟩ := zG M hx;obtain ⟨v, g3, g4, -⟩ := zG M hy;obtain ⟨h1, h2, h3, h4, h5⟩ := h g1 g3;exact ⟨_, .bool _, (Ny g2 g4 (h5 w).1 (h5 w).2 (GC h1 h2 h3 h4) dst ty pos aft gd).1⟩
 ·intro fx n B I a w M dst ty pos aft gd;obtain ⟨u, g1, g2, -⟩ := zG M hx;obtain ⟨v, g3, g4, -⟩ := zG M hy;obtain ⟨h1, h2, h3, h4, h5⟩ := h g1 g3;exact ⟨_, .bool _, (Ny g2 g4 (h5 w).1 (h5 w).2 (GC h1 h2 h3 h4) dst ty pos aft gd).2⟩
variable {op : BinOp}
theorem jD {w : World} (h1 : u ≠ .nilIface \/ v ≠ .nilIface) (h2 : ∀ a, u ≠ .agg a) : (eqGuard op t x y u v).run P w = .ok () w := by
 unfold eqGuard;cases op <;> simp <;> (cases u <;> first | rfl | exact absurd rfl (h2 _) | (cases v <;> first | rfl | (rcases h1 with h1 | h1 <;> exact absurd rfl h1)))
theorem Nz {k : Bool -> Rs} (hx : ev e x = some va) (hy : ev e y = some vb) (h : eqV P t x y va vb k = r) (hr : r ≠ .no) : ∃ b, k b = r /\ ES P e s t yt x y b := by
 rcases yC h hr with ⟨ba, rfl, h⟩ | ⟨kd, i, rfl, h⟩ | ⟨sb, rfl, h⟩ | ⟨p, rfl, h⟩ | ⟨p, n, c, rfl, h⟩ | ⟨_, rfl, h⟩ | ⟨fn, a, c, rfl, h⟩ | ⟨rfl, h⟩ | ⟨d, z, rfl, h'⟩ | ⟨rfl, h'⟩ | ⟨⟨cs⟩, rfl, h⟩ | ⟨_, rfl, h⟩ <;> first | exact absurd h.symm hr | skip
 ·obtain ⟨bb, rfl, h1⟩ := qP h hr;obtain ⟨h2, h3⟩ := zl h1 hr;rw [Ss] at h3;refine ⟨_, h3, @fun fx n B I a w M dst ty pos aft gd => ?_, @fun fx n B I a w M dst ty pos aft gd => ?_⟩
  ·obtain ⟨u, g1, -, g2⟩ := zG M hx;obtain ⟨v, g3, -, g4⟩ := zG M hy;cases g1; cases g3;exact ⟨_, .bool _, DM h2 g2 g4 _ _ (yc _)⟩
  ·obtain ⟨u, g1, -, g2⟩ := zG M hx;obtain ⟨v, g3, -, g4⟩ := zG M hy;cases g1; cases g3;exact ⟨_, .bool _, OD h2 g2 g4 _ _ (yc _)⟩
 ·obtain ⟨kd', j, rfl, h1⟩ := yW h hr;obtain ⟨h2, h3⟩ := zl h1 hr;cases eJ h2;rw [eM] at h3;refine ⟨_, h3, @fun fx n B I a w M dst ty pos aft gd => ?_, @fun fx n B I a w M dst ty pos aft gd => ?_⟩
  ·obtain ⟨u, g1, -, g2⟩ := zG M hx;obtain ⟨v, g3, -, g4⟩ := zG M hy;cases g1; cases g3;exact ⟨_, .bool _, yY g2 g4 _ _ (yc _)⟩
  ·obtain ⟨u, g1, -, g2⟩ := zG M hx;obtain ⟨v, g3, -, g4⟩ := zG M hy;cases g1; cases g3;refine ⟨_, .bool _, ?_⟩;rw [show (!decide (i = j)) = decide (¬ i = j) by simp];exact Qx g2 g4 _ _ (yc _)
 ·obtain ⟨u, rfl, h1⟩ := jT h hr;rw [ZK] at h1;refine ⟨_, h1, @fun fx n B I a w M dst ty pos aft gd => ?_, @fun fx n B I a w M dst ty pos aft gd => ?_⟩
  ·obtain ⟨u', g1, -, g2⟩ := zG M hx;obtain ⟨v, g3, -, g4⟩ := zG M hy;cases g1; cases g3;rw [<- vK sb] at g2;rw [<- vK u] at g4;exact ⟨_, .bool _, Yd g2 g4 _ _ (yc _)⟩
  ·obtain ⟨u', g1, -, g2⟩ := zG M hx;obtain ⟨v, g3, -, g4⟩ := zG M hy;cases g1; cases g3;rw [<- vK sb] at g2;rw [<- vK u] at g4;refine ⟨_, .bool _, ?_⟩;rw [show (!decide (sb.data.toList = u.data.toList)) = decide (¬ sb.data.toList = u.data.toList) by simp];exact OA g2 g4 _ _ (yc _)
 ·obtain ⟨q, rfl, h1⟩ := jU h hr;obtain ⟨h2, h3⟩ := zl h1 hr
  have fin : ∀ b, k b = r -> (∀ {I : As} {p' q' : Oa}, Rl I (.pointer p) (.pointer p') -> Rl I (.pointer q) (.pointer q') -> decide (p' = q') = b /\ ∀ a c, p' = some a -> q' = some c -> a = c /\ (aA P (P.pointee t)).isSome = true) -> ∃ b, k b = r /\ ES P e s t yt x y b := by
   intro b hb hh;refine ⟨b, hb, X5 hx hy @fun I u v g1 g2 => ?_⟩;obtain ⟨p', rfl⟩ : ∃ p', u = .pointer p' := by cases g1 <;> exact ⟨_, rfl⟩
   obtain ⟨q', rfl⟩ : ∃ q', v = .pointer q' := by cases g2 <;> exact ⟨_, rfl⟩
   obtain ⟨h4, h5⟩ := hh g1 g2;exact ⟨by simp, by simp, by simp, by simp, fun w => ⟨fun op => jD (.inl (by simp)) (by simp), by rw [<- h4]; exact Hv w h2 h5⟩⟩
  cases p with
  | none =>
    cases q with
    | none => exact fin true h3 (fun g1 g2 => by cases g1; cases g2; simp)
    | some b => exact fin false h3 (fun g1 g2 => by cases g1; cases g2; simp)
  | some a =>
    cases q with
    | none => exact fin false h3 (fun g1 g2 => by cases g1; cases g2; simp)
    | some b =>
      obtain ⟨n, h4, h5⟩ := zt (show adE P t a b k = r from h3) hr;obtain ⟨h6, h7⟩ := zl h5 hr;obtain ⟨h8, h9⟩ := zl h7 hr;have e1 := Nat.eq_of_beq_eq_true h6;have e2 := Nat.eq_of_beq_eq_true h8;refine fin true h9 (fun g1 g2 => ?_);obtain ⟨-, g, q, c, k1, k2⟩ := gA g1;obtain ⟨-, g', q', c', k3, k4⟩ := gA g2;rw [<- e1, k1] at k3;cases k3
      injection k2 with k2
      injection k4 with k4
      subst k2 k4;rw [e2, h4]
      simp
 ·obtain ⟨q, n', c', rfl, h1⟩ := jt h hr;obtain ⟨h2, h3⟩ := zl h1 hr
  have fin : ∀ b, k b = r -> (p = none \/ q = none) -> (p.isNone && q.isNone) = b -> ∃ b, k b = r /\ ES P e s t yt x y b := by
   intro b hb hh hv;refine ⟨b, hb, X5 hx hy @fun I u v g1 g2 => ?_⟩;obtain ⟨p', n1, c1, rfl, k1⟩ : ∃ p' n1 c1, u = .slice p' n1 c1 /\ p'.isNone = p.isNone := by cases g1 <;> exact ⟨_, _, _, rfl, rfl⟩
   obtain ⟨q', n2, c2, rfl, k2⟩ : ∃ q' n1 c1, v = .slice q' n1 c1 /\ q'.isNone = q.isNone := by cases g2 <;> exact ⟨_, _, _, rfl, rfl⟩
   refine ⟨by simp, by simp, by simp, by simp, fun w => ⟨fun op => jD (.inl (by simp)) (by simp), ?_⟩⟩;rw [<- hv, <- k1, <- k2];refine Nx w h2 ?_;rcases hh with rfl | rfl
   ·left; cases p' <;> simp_all
   ·right; cases q' <;> simp_all
  cases p with
  | none =>
    cases q with
    | none => exact fin true h3 (.inl rfl) rfl
    | some b => exact fin false h3 (.inl rfl) rfl
  | some a =>
    cases q with
    | none => exact fin false h3 (.inr rfl) rfl
    | some b => exact absurd h3.symm hr
 ·rcases yC h' hr with ⟨ba, rfl, h⟩ | ⟨kd, i, rfl, h⟩ | ⟨sb, rfl, h⟩ | ⟨p, rfl, h⟩ | ⟨p, n, c, rfl, h⟩ | ⟨_, rfl, h⟩ | ⟨fn, a, c, rfl, h⟩ | ⟨rfl, h⟩ | ⟨d, z, rfl, h⟩ | ⟨rfl, h⟩ | ⟨⟨cs⟩, rfl, h⟩ | ⟨_, rfl, h⟩ <;> first | exact absurd h.symm hr | skip
  obtain ⟨h2, h3⟩ := zl h hr;refine ⟨false, h3, X5 hx hy @fun I u v g1 g2 => ?_⟩;cases g1; cases g2;exact ⟨by simp, by simp, by simp, by simp, fun w => ⟨fun op => jD (.inl (by simp)) (by simp), (ae w h2).2.1⟩⟩
 ·rcases yC h' hr with ⟨ba, rfl, h⟩ | ⟨kd, i, rfl, h⟩ | ⟨sb, rfl, h⟩ | ⟨p, rfl, h⟩ | ⟨p, n, c, rfl, h⟩ | ⟨_, rfl, h⟩ | ⟨fn, a, c, rfl, h⟩ | ⟨rfl, h⟩ | ⟨d, z, rfl, h⟩ | ⟨rfl, h⟩ | ⟨⟨cs⟩, rfl, h⟩ | ⟨_, rfl, h⟩ <;> first | exact absurd h.symm hr | skip
  ·obtain ⟨h2, h3⟩ := zl h hr;refine ⟨false, h3, X5 hx hy @fun I u v g1 g2 => ?_⟩;cases g1; cases g2;exact ⟨by simp, by simp, by simp, by simp, fun w => ⟨fun op => jD (.inr (by simp)) (by simp), (ae (d := 0) (v := .nilIface) w h2).1 |> fun _ => (ae w h2).1⟩⟩
  ·obtain ⟨h2, h3⟩ := zl h hr
   have hc : ((TM x = true) \/ (TM y = true)) /\ k true = r := by
    cases hxc : TM x with
    | true => rw [hxc] at h3; exact ⟨.inl rfl, h3⟩
    | false =>
      rw [hxc] at h3;obtain ⟨h4, h5⟩ := zl (show bB (TM y) (k true) = r from h3) hr;exact ⟨.inr h4, h5⟩
   refine ⟨true, hc.2, X5 hx hy @fun I u v g1 g2 => ?_⟩;cases g1; cases g2;refine ⟨by simp, by simp, by simp, by simp, fun w => ⟨fun op => ?_, (ae (d := 0) (v := .nilIface) w h2).2.2⟩⟩;unfold eqGuard;rcases hc.1 with h4 | h4
   ·obtain ⟨v, rfl⟩ := (Ng _).1 h4;cases op <;> simp <;> rfl
   ·obtain ⟨v, rfl⟩ := (Ng _).1 h4;cases op <;> simp <;> rfl
 ·obtain ⟨⟨ds⟩, rfl, h1⟩ := eT h hr;obtain ⟨b, h2, h3, h4, h5⟩ := SD h1 hr;refine ⟨b, h2, X5 hx hy @fun I u v g1 g2 => ?_⟩;cases g1 with
  | agg g1 =>
    cases g2 with
    | agg g2 =>
      rw [gE h3 g1, gE h4 g2];exact ⟨by simp, by simp, by simp, by simp, fun w => h5 x y w⟩
theorem Px {yt : Nat} (h : Mj P e k op t x y yt = r) (hr : r ≠ .no) : ∃ v, k v = r /\ QS P e s (.binOp op t x y yt) v := by
 cases op
 case eql =>
  obtain ⟨va, h1, h2⟩ := zS h hr;obtain ⟨vb, h3, h4⟩ := zS h2 hr;obtain ⟨b, h5, h6⟩ := Nz (s := s) (yt := yt) h1 h3 h4 hr;rw [cR] at h5;exact ⟨_, h5, h6.1⟩
 case neq =>
  obtain ⟨va, h1, h2⟩ := zS h hr;obtain ⟨vb, h3, h4⟩ := zS h2 hr;obtain ⟨b, h5, h6⟩ := Nz (s := s) (yt := yt) h1 h3 h4 hr;rw [cR, Zk] at h5;exact ⟨_, h5, h6.2⟩
 all_goals exact I7 t yt h hr
end
end Go.Ev
namespace Go.Ev
open Go.Eng
section
variable {P : Program} {e : Env} {s : St} {r : Rs}
def Wd (P : Program) (t : Nat) : Prop := (match P.underlying t with | some (.array _ _) | some (.struct _) => true | _ => false) = true /\ P.keyTypeAt 6 t = true /\ P.tiled 6 t = true
inductive KG (P : Program) (t : Nat) : Value -> Prop
 | int {d kd : IntKind} {x : Int} (h : P.underlying t = some (.int d)) : KG P t (.int kd x)
 | str {b : ByteArray} (h : P.underlying t = some .string) : KG P t (.string b)
 | wide {as : Lv} {l : Lit} (h : Wd P t) (hp : PL as = true) (hl : keyOf P t (.agg ⟨as⟩) = some l) : KG P t (.agg ⟨as⟩)
variable {t : Nat}
theorem UI (h : Jz P t = true) : (match P.underlying t with | some (.array _ _) | some (.struct _) => true | _ => false) = true := by
 unfold Jz Rz at h;cases hu : P.underlying t with
 | none => rw [hu] at h; cases h
 | some d =>
   rw [hu] at h;cases d <;> first | rfl | exact absurd h (by decide) | cases h
variable {a : Value}
theorem fA {q : Rs} (h : UH P t a q = r) (hr : r ≠ .no) : KG P t a /\ q = r := by
 rcases yC h hr with ⟨_, rfl, h⟩ | ⟨kd, i, rfl, h⟩ | ⟨sb, rfl, h⟩ | ⟨p, rfl, h⟩ | ⟨p, n, c, rfl, h⟩ | ⟨_, rfl, h⟩ | ⟨fn, a, c, rfl, h⟩ | ⟨rfl, h⟩ | ⟨d, x, rfl, h⟩ | ⟨rfl, h⟩ | ⟨⟨cs⟩, rfl, h⟩ | ⟨_, rfl, h⟩ <;> first | exact absurd h.symm hr | skip
 ·obtain ⟨h1, h2⟩ := zl h hr;obtain ⟨d, h3⟩ := gQ h1;exact ⟨.int h3, h2⟩
 ·obtain ⟨h1, h2⟩ := zl h hr;exact ⟨.str (aE h1), h2⟩
 ·obtain ⟨h1, h2⟩ := zl h hr;obtain ⟨h3, h4⟩ := zl h2 hr;obtain ⟨h5, h6⟩ := zl h4 hr;obtain ⟨h7, h8⟩ := zl h6 hr;obtain ⟨l, h9, h10⟩ := zt h8 hr;exact ⟨.wide ⟨UI h3, h5, h7⟩ h1 h9, h10⟩
variable {I : As}
theorem KG.same {u : Value} (h : KG P t a) (g : Rl I a u) : u = a := by
 cases h with
 | int _ => cases g; rfl
 | str _ => cases g; rfl
 | wide _ hp _ => cases g with | agg g => rw [gE hp g]
theorem Wd.law (h : Wd P t) : WideMaps.KeyLaw P t := deep_law (by decide) h.2.1 h.2.2 h.1
theorem KG.check (h : KG P t a) (em : Bool) (w : World) : (Instr.checkKey em 10000 t a).run P w = .ok () w := by
 cases h with
 | int h => show (Instr.checkKey em (9999 + 1) t _).run P w = _; unfold Instr.checkKey; simp only [Sem.run_bind, run_underlying h, Result.andThen_ok]; rfl
 | str h => show (Instr.checkKey em (9999 + 1) t _).run P w = _; unfold Instr.checkKey; simp only [Sem.run_bind, run_underlying h, Result.andThen_ok]; rfl
 | wide h hp hl => exact h.law.check w em hl
theorem KG.stays (h : KG P t a) (w : World) : (Instr.keyThatStays a a).run P w = .ok a w := by
 cases h with
 | int h => simp [Instr.keyThatStays, Instr.sameBits]
 | str h => simp [Instr.keyThatStays, Instr.sameBits, MapKept.bytes_beq]
 | wide h hp hl => exact h.law.stays w hl
def FS (I : As) (key : Value) (i : Nat) (es es' : List MapEntry) (o : Option (Nat × MapEntry)) (o' : Option (Nat × Value)) : Prop :=
 (o = none /\ o' = none) \/ ∃ j x y, o = some (i + j, x) /\ o' = some (i + j, y.val) /\ es[j]? = some x /\ es'[j]? = some y /\ Fq I x y /\ y.key = key
variable {es : List MapEntry} {key : Value}
theorem FS.snoc {i : Nat} {es' : List MapEntry} {o : Option (Nat × MapEntry)} {o' : Option (Nat × Value)} {x y : MapEntry} (h : FS I key (i + 1) es es' o o') : FS I key i (x :: es) (y :: es') o o' := by
 rcases h with h | ⟨j, x, y, h1, h2, h3, h4, h5, h6⟩
 ·exact .inl h
 ·refine .inr ⟨j + 1, x, y, ?_, ?_, by simpa using h3, by simpa using h4, h5, h6⟩
  ·rw [h1]; congr 2; omega
  ·rw [h2]; congr 2; omega
theorem eK {d : TypeDesc} (hu : P.underlying t = some d) (hk : (∃ a, d = .int a /\ ∃ kd x, key = .int kd x) \/ (d = .string /\ ∃ b, key = .string b)) :
  ∀ (es : List MapEntry) (i : Nat) {k : Option (Nat × MapEntry) -> Rs} {r : Rs}, ea P t key es i k = r -> r ≠ .no -> ∃ o, k o = r /\ ∀ {I : As} {es' : List MapEntry}, qN I es es' -> ∃ o', Instr.findNow d key es' i = some o' /\ FS I key i es es' o o'
 | [], i, k, r, h, _ => ⟨none, h, fun g => by cases g; exact ⟨none, rfl, .inl ⟨rfl, rfl⟩⟩⟩
 | x :: es, i, k, r, h, hr => by
   have h' : Et P t key x.key (fun b => Bool.rec (motive := fun _ => Rs) (ea P t key es (i + 1) k) (k (some (i, x))) b) = r := h
   have step : ∃ b : Bool, (Bool.rec (motive := fun _ => Rs) (ea P t key es (i + 1) k) (k (some (i, x))) b) = r /\ (∀ {I : As} {u : Value}, Rl I x.key u -> u = x.key) /\ Instr.sameNow d key x.key = some b /\ (b = true -> x.key = key) := by
    rcases hk with ⟨a, rfl, kd, n, rfl⟩ | ⟨rfl, b, rfl⟩
    ·obtain ⟨kd', m, h1, h2⟩ := yW h' hr;obtain ⟨h3, h4⟩ := zl h2 hr;cases eJ h3;refine ⟨_, h4, fun g => by rw [h1] at g ⊢; cases g; rfl, ?_, ?_⟩
     ·rw [h1]; simp only [Instr.sameNow, if_true, eM]; rfl
     ·intro hb; rw [eM] at hb; rw [h1, of_decide_eq_true hb]
    ·obtain ⟨u, h1, h2⟩ := jT h' hr;have e1 := WU (a := b.data.toList) (b := u.data.toList);rw [vK, vK] at e1;refine ⟨_, h2, fun g => by rw [h1] at g ⊢; cases g; rfl, ?_, ?_⟩
     ·rw [h1]; simp only [Instr.sameNow, ZK]; rw [e1]
     ·intro hb;rw [ZK, <- e1] at hb;rw [h1, (MapKept.bytes_beq _ _).1 hb]
   obtain ⟨b, h1, h2, h3, h4⟩ := step;cases b with
   | true =>
     refine ⟨_, h1, fun g => ?_⟩;cases g with
     | @cons _ y _ es' g gs =>
       have e1 := h2 g.key;refine ⟨some (i, y.val), by simp [Instr.findNow, e1, h3], .inr ⟨0, x, y, by simp, by simp, rfl, rfl, g, by rw [e1, h4 rfl]⟩⟩
   | false =>
     obtain ⟨o, h5, h6⟩ := eK hu hk es (i + 1) h1 hr;refine ⟨o, h5, fun g => ?_⟩;cases g with
     | @cons _ y _ es' g gs =>
       obtain ⟨o', h7, h8⟩ := h6 gs;exact ⟨o', by simp [Instr.findNow, h2 g.key, h3, h7], h8.snoc⟩
variable {l : Lit}
theorem UB {k : Bt -> Rs} (h : Ed l k = r) (hr : r ≠ .no) : ∃ b, l = .string b /\ k b = r := by
 cases l <;> first | exact ⟨_, rfl, h⟩ | exact absurd h.symm hr
theorem ZD {as : Lv} {l : Lit} (hw : Wd P t) (hl : keyOf P t (.agg ⟨as⟩) = some l) :
  ∀ (es : List MapEntry) (i : Nat) {k : Option (Nat × MapEntry) -> Rs} {r : Rs}, ea P t (.agg ⟨as⟩) es i k = r -> r ≠ .no -> ∃ o, k o = r /\ ∀ {I : As} {es' : List MapEntry}, qN I es es' -> ∃ o', (∀ w, (Instr.findAsking t (.agg ⟨as⟩) es' i).run P w = .ok o' w) /\ FS I (.agg ⟨as⟩) i es es' o o'
 | [], i, k, r, h, _ => ⟨none, h, fun g => by cases g; exact ⟨none, fun w => by simp [Instr.findAsking], .inl ⟨rfl, rfl⟩⟩⟩
 | x :: es, i, k, r, h, hr => by
   have h' : Et P t (.agg ⟨as⟩) x.key (fun b => Bool.rec (motive := fun _ => Rs) (ea P t (.agg ⟨as⟩) es (i + 1) k) (k (some (i, x))) b) = r := h;obtain ⟨⟨bs⟩, h1, h2⟩ := eT h' hr;obtain ⟨h3, h4⟩ := zl h2 hr;obtain ⟨la, h5, h6⟩ := zt h4 hr;rw [hl] at h5; cases h5;obtain ⟨la, rfl, h7⟩ := UB h6 hr;obtain ⟨lb, h8, h9⟩ := zt h7 hr;obtain ⟨lb, rfl, h10⟩ := UB h9 hr
   rw [JP] at h10
   have same : ∀ {I : As} {u : Value}, Rl I x.key u -> u = x.key := fun g => by
    rw [h1] at g ⊢;cases g with | agg g => rw [gE h3 g]
   have eqr : ∀ w, ∃ b : Bool, (Op.equal t (.agg ⟨as⟩) x.key).run P w = .ok b w /\ (b = true ↔ (Lit.string la) = .string lb) := fun w => run_equal_deep w (by decide) hw.2.1 hw.1 hl h8;by_cases hb : la = lb
   ·subst hb;rw [decide_eq_true rfl] at h10;refine ⟨_, h10, fun g => ?_⟩;cases g with
    | @cons _ y _ es' g gs =>
      have e1 := same g.key;refine ⟨some (i, y.val), fun w => ?_, .inr ⟨0, x, y, by simp, by simp, rfl, rfl, g, ?_⟩⟩
      ·obtain ⟨b, e2, e3⟩ := eqr w;rw [e3.2 rfl] at e2
       simp [Instr.findAsking, e1, e2]
      ·rw [e1]; exact hw.law.inj h8 hl
   ·rw [decide_eq_false hb] at h10;obtain ⟨o, h11, h12⟩ := ZD hw hl es (i + 1) h10 hr;refine ⟨o, h11, fun g => ?_⟩;cases g with
    | @cons _ y _ es' g gs =>
      obtain ⟨o', h13, h14⟩ := h12 gs;refine ⟨o', fun w => ?_, h14.snoc⟩;obtain ⟨b, e2, e3⟩ := eqr w;cases b with
      | true => exact absurd (e3.1 rfl) (fun e => hb (by injection e))
      | false => simp [Instr.findAsking, same g.key, e2, h13]
theorem cZ (hk : KG P t key) {k : Option (Nat × MapEntry) -> Rs} (h : ea P t key es 0 k = r) (hr : r ≠ .no) :
  ∃ o, k o = r /\ ∀ {I : As} {es' : List MapEntry}, qN I es es' -> ∃ o', (∀ w, (Instr.findKey t key es').run P w = .ok o' w) /\ FS I key 0 es es' o o' := by
 cases hk with
 | int hu =>
   obtain ⟨o, h1, h2⟩ := eK hu (.inl ⟨_, rfl, _, _, rfl⟩) es 0 h hr;refine ⟨o, h1, fun g => ?_⟩;obtain ⟨o', h3, h4⟩ := h2 g;exact ⟨o', fun w => MapKept.run_findKey hu h3, h4⟩
 | str hu =>
   obtain ⟨o, h1, h2⟩ := eK hu (.inr ⟨rfl, _, rfl⟩) es 0 h hr;refine ⟨o, h1, fun g => ?_⟩;obtain ⟨o', h3, h4⟩ := h2 g;exact ⟨o', fun w => MapKept.run_findKey hu h3, h4⟩
 | wide hw hp hl =>
   obtain ⟨o, h1, h2⟩ := ZD hw hl es 0 h hr;refine ⟨o, h1, fun g => ?_⟩;obtain ⟨o', h3, h4⟩ := h2 g;exact ⟨o', fun w => by rw [run_findKey_eq w hw.1]; exact h3 w, h4⟩
theorem cJ {k : Nat -> Nat -> Rs} (h : MV P t k = r) (hr : r ≠ .no) : ∃ kt el, P.underlying t = some (.map kt el) /\ k kt el = r := by
 obtain ⟨d, h1, h2⟩ := zt h hr;cases d <;> first | exact ⟨_, _, h1, h2⟩ | exact absurd h2.symm hr
theorem Q9 {k : KV} {x i : Operand} {ok : Bool} (h : fm P e s.h k t x i ok = r) (hr : r ≠ .no) : ∃ v, k v = r /\ QS P e s (.lookup t x i ok) v := by
 obtain ⟨vm, h1, h2⟩ := zS h hr;obtain ⟨key, h3, h4⟩ := zS h2 hr;obtain ⟨q, rfl, h5⟩ := dO h4 hr;obtain ⟨kt, el, hm, h6⟩ := cJ h5 hr;obtain ⟨hk, h7⟩ := fA h6 hr;cases q with
 | none =>
   obtain ⟨z, h8, h9, h10⟩ := fb h7 hr;rw [gL] at h8;refine ⟨_, h8, fun M _ _ _ _ _ => ?_⟩;obtain ⟨u, g1, g2, -⟩ := zG M h1;obtain ⟨u', g3, g4, -⟩ := zG M h3;cases g1;cases hk.same g3;refine ⟨if ok then .tuple #[z, .bool false] else z, ?_, ?_⟩
   ·cases ok
    ·exact h9 _
    ·exact .tuple (.cons (h9 _) (.cons (.bool _) .nil))
   ·obtain ⟨d, hd⟩ : ∃ d, P.underlying kt = some d := by
     cases hk with
     | int h => exact ⟨_, h⟩
     | str h => exact ⟨_, h⟩
     | wide h _ _ => have := h.1; cases hu : P.underlying kt with
       | none => rw [hu] at this; cases this
       | some d => exact ⟨d, rfl⟩
    simp [execOp, g2, g4, Instr.lookup, run_underlying hm, hk.check, Instr.findKey, run_underlying hd, Instr.findNow, h10]
 | some q =>
   obtain ⟨o, h8, h9⟩ := zt h7 hr;obtain ⟨es, c, rfl, h10⟩ := W7 h9 hr;obtain ⟨w, h11, h12⟩ := cZ hk h10 hr;cases w with
   | none =>
     obtain ⟨z, h13, h14, h15⟩ := fb h11 hr;rw [gL] at h13;refine ⟨_, h13, fun M _ _ _ _ _ => ?_⟩;obtain ⟨u, g1, g2, -⟩ := zG M h1;obtain ⟨u', g3, g4, -⟩ := zG M h3;cases hk.same g3;cases g1 with
     | map g8 =>
       obtain ⟨es', -, g6, g7⟩ := Jq M h8 g8;obtain ⟨o', g9, g10⟩ := h12 g7;rcases g10 with ⟨-, rfl⟩ | ⟨_, _, _, e1, _⟩
       ·refine ⟨if ok then .tuple #[z, .bool false] else z, ?_, ?_⟩
        ·cases ok
         ·exact h14 _
         ·exact .tuple (.cons (h14 _) (.cons (.bool _) .nil))
        ·simp [execOp, g2, g4, Instr.lookup, run_underlying hm, hk.check, g9, h15, MapKept.run_getObj_map g6]
       ·cases e1
   | some w =>
     obtain ⟨j, x⟩ := w
     replace h11 : cK k ok x.val true = r := h11
     rw [gL] at h11;refine ⟨_, h11, fun M _ _ _ _ _ => ?_⟩;obtain ⟨u, g1, g2, -⟩ := zG M h1;obtain ⟨u', g3, g4, -⟩ := zG M h3;cases hk.same g3;cases g1 with
     | map g8 =>
       obtain ⟨es', -, g6, g7⟩ := Jq M h8 g8;obtain ⟨o', g9, g10⟩ := h12 g7;rcases g10 with ⟨e1, -⟩ | ⟨j', x', y, e1, rfl, -, -, e2, -⟩
       ·cases e1
       ·cases e1;refine ⟨if ok then .tuple #[y.val, .bool true] else y.val, ?_, ?_⟩
        ·cases ok
         ·exact e2.val
         ·exact .tuple (.cons e2.val (.cons (.bool _) .nil))
        ·simp [execOp, g2, g4, Instr.lookup, run_underlying hm, hk.check, g9, MapKept.run_getObj_map g6]
end
end Go.Ev
namespace Go.Ev
open Go.Eng
section
variable {P : Program} {e : Env} {s : St} {r : Rs}
theorem Ue {k : KV} {o : Op} (h : qK P e s.h k o = r) (hr : r ≠ .no) : ∃ v, k v = r /\ QS P e s o v := by
 cases o with
 | move x => exact Me h hr
 | assign x => exact Jc h hr
 | pick c x y => exact Md h hr
 | build t ps => exact I6 h hr
 | load t x => exact Mf h hr
 | nilCheck x => exact Pv h hr
 | binOp op t x y yt => exact Px h hr
 | unOp op t x => exact FQ h hr
 | convert a d x => exact Mi h hr
 | sliceToArrayPointer t x => exact Py h hr
 | makeInterface t x => exact FT h hr
 | makeFunc fn as cs =>
   cases fn with
   | func f => exact Mh h hr
   | _ => exact absurd h.symm hr
 | slice t x lo hi mx => exact I1 h hr
 | fieldAddr t x f => exact I5 h hr
 | field t x f => exact I4 h hr
 | indexAddr t x i => exact I3 h hr
 | index t x i => exact I2 h hr
 | lookup t x i ok => exact Q9 h hr
 | typeAssert x t a ok => exact Jd h hr
 | extract x i => exact Ug h hr
 | call c =>
   obtain ⟨callee, args, ts⟩ := c;cases callee with
   | builtin b =>
     obtain ⟨as, h1, h2⟩ := qf (P := P) (show fP e args.toList (fun as => Za P s.h k b as ts.toList) = r from h) hr;obtain ⟨z, h3, h4⟩ := Uh h1 hr;exact WS h3 h4 (h := h2)
   | _ => exact absurd h.symm hr
 | _ => exact absurd h.symm hr
end
end Go.Ev
namespace Go.Ev
open Go.Eng
def upd (I : As) (i : Nat) (r : Nat × Nat × Option Nat) : As := fun j => if j = i then some r else I j
theorem yD (I : As) (i : Nat) (r : Nat × Nat × Option Nat) : upd I i r i = some r := if_pos rfl
variable {I : As} {i : Nat}
theorem xo {j : Nat} (r : Nat × Nat × Option Nat) (h : j ≠ i) : upd I i r j = I j := if_neg h
theorem u5 (r : Nat × Nat × Option Nat) (h : I i = none) : dp I (upd I i r) := fun j x hj => by
 by_cases e : j = i
 ·subst e; rw [h] at hj; cases hj
 ·rw [xo _ e]; exact hj
mutual
theorem Fq.ext' {J : As} (e : dp I J) {x y : MapEntry} (h : Fq I x y) : Fq J x y := ⟨h.key.ext e, h.val.ext e, h.born⟩
end
variable {I J : As}
theorem qN.ext (e : dp I J) : ∀ {x y : List MapEntry}, qN I x y -> qN J x y
 | _, _, .nil => .nil
 | _, _, .cons h hs => .cons (h.ext' e) (qN.ext e hs)
variable {H K : Mp} {P : Program} {i : Nat} {o : AO}
theorem bW.mono (e : dp I J) (l : Le H K) (h : bW P I H i o) : bW P J K i o := by
 cases o with
 | cel xs t => obtain ⟨g, us, fz, h1, h2, h3, h4⟩ := h; exact ⟨g, us, fz, e _ _ h1, l _ _ h2, h3.ext e, h4⟩
 | opn xs t => obtain ⟨g, q, r, z, cur, fz, h1, h2, h3, h4, h5, h6, h7⟩ := h; exact ⟨g, q, r, z, cur, fz, e _ _ h1, l _ _ h2, h3, h4, h5, h6.ext e, h7⟩
 | mp es c => obtain ⟨g, es', h1, h2, h3⟩ := h; exact ⟨g, es', e _ _ h1, l _ _ h2, h3.ext e⟩
theorem bW.has {x : Nat × Nat × Option Nat} (h : bW P I H i o) (hx : I i = some x) : ∃ ob, H x.1 = some ob := by
 cases o with
 | cel xs t => obtain ⟨g, us, fz, h1, h2, -⟩ := h; rw [hx] at h1; cases h1; exact ⟨_, h2⟩
 | opn xs t => obtain ⟨g, q, r, z, cur, fz, h1, h2, -⟩ := h; rw [hx] at h1; cases h1; exact ⟨_, h2⟩
 | mp es c => obtain ⟨g, es', h1, h2, -⟩ := h; rw [hx] at h1; cases h1; exact ⟨_, h2⟩
theorem HR.add {I : As} {B : Mp} {s s' : St} {g q : Nat} {c : Option Nat} {ao : AO} (h : HR P I B s H) (hi : I i = none) (hg : H g = none) (l : Le H K) (ho : bW P (upd I i (g, q, c)) K i ao) (hs : ∀ j o, get s'.h j = some o -> (j = i /\ o = ao) \/ (j ≠ i /\ get s.h j = some o)) (hn : ∀ j, s'.nx <= j -> j ≠ i /\ s.nx <= j) : HR P (upd I i (g, q, c)) B s' K := by
 have ext := u5 (I := I) (g, q, c) hi
 have old : ∀ j o x, j ≠ i -> get s.h j = some o -> I j = some x -> x.1 ≠ g := fun j o x hj ho hx e => by
  obtain ⟨ob, h1⟩ := (h.obj j o x ho hx).has hx;rw [e, hg] at h1;cases h1
 constructor
 ·intro j o x hj hx;rcases hs j o hj with ⟨rfl, rfl⟩ | ⟨hne, hj'⟩
  ·exact ho
  ·rw [xo _ hne] at hx;exact (h.obj j o x hj' hx).mono ext l
 ·intro j k o o' x y hj hk hx hy hxy;rcases hs j o hj with ⟨rfl, rfl⟩ | ⟨hne, hj'⟩ <;> rcases hs k o' hk with ⟨rfl, rfl⟩ | ⟨hne', hk'⟩
  ·rfl
  ·rw [yD] at hx; cases hx;rw [xo _ hne'] at hy;exact absurd hxy.symm (old k o' y hne' hk' hy)
  ·rw [yD] at hy; cases hy;rw [xo _ hne] at hx;exact absurd hxy (old j o x hne hj' hx)
  ·rw [xo _ hne] at hx;rw [xo _ hne'] at hy;exact h.sep j k o o' x y hj' hk' hx hy hxy
 ·intro j hj;obtain ⟨h1, h2⟩ := hn j hj;rw [xo _ h1]; exact h.new j h2
 ·intro j o x hj hx;rcases hs j o hj with ⟨rfl, rfl⟩ | ⟨hne, hj'⟩
  ·rw [yD] at hx; cases hx;cases hb : B g with
   | none => rfl
   | some ob => have := h.base _ _ hb; rw [hg] at this; cases this
  ·rw [xo _ hne] at hx;exact h.out j o x hj' hx
 ·exact h.base.trans l
 ·intro j hj;obtain ⟨h1, h2⟩ := hn j hj;cases hg : get s'.h j with
  | none => rfl
  | some o =>
    rcases hs j o hg with ⟨e, -⟩ | ⟨-, h3⟩
    ·exact absurd e h1
    ·rw [h.fre j h2] at h3; cases h3
section
variable {P : Program} {e : Env} {r : Rs}
def NS (P : Program) (e : Env) (i : Nat) (o : Op) (ao : AO) (v : Value) : Prop :=
 ∀ {x : Fx} {n : Nat} {B : Mp} {I : As} {s : St} {a : Act} {w : World}, Mt P x n B I e s a w -> I i = none -> ∀ dst ty pos aft gd, ∃ u h' g q c d', (execOp a.eval ⟨dst, o, ty, pos, aft, gd⟩).run P w = .ok (.value u) (W x h' d') /\
  Le (mp w.heap) (mp h') /\ mp w.heap g = none /\ Rl (upd I i (g, q, c)) v u /\ bW P (upd I i (g, q, c)) (mp h') i ao
theorem Fz.nil (n : Nat) : Fz (0, 0) n := .inl rfl
variable {i : Nat} {o : Op} {t : Nat}
theorem Vi {xs : Lv} {v : Value} (h : ∀ {x : Fx} {n : Nat} {B : Mp} {I : As} {s : St} {a : Act} {w : World}, Mt P x n B I e s a w -> ∃ us, xk I xs us /\ ∀ dst ty pos aft gd, ∃ u, (∀ J : As, J i = some (w.heap.size, 0, none) -> Rl J v u) /\
  (execOp a.eval ⟨dst, o, ty, pos, aft, gd⟩).run P w = .ok (.value u) (w.alloc (.cells ⟨us⟩ t))) : NS P e i o (.cel xs t) v := by
 intro x n B I s a w M hi dst ty pos aft gd;obtain ⟨us, h1, h2⟩ := h M;obtain ⟨u, h3, h4⟩ := h2 dst ty pos aft gd;refine ⟨u, w.heap.push (.cells ⟨us⟩ t), w.heap.size, 0, none, w.drawn, ?_, vT _ _, u6 _, h3 _ (yD _ _ _), _, us, (0, 0), yD _ _ _, xc _ _, h1.ext (u5 _ hi), Fz.nil _, fun _ => rfl⟩;rw [h4]
 congr 1
 conv => lhs; rw [M.wd]
 rfl
theorem fj {α : Type} (z : List α) : ∀ n, (List.replicate n z).flatten.length = n * z.length
 | 0 => by simp
 | n + 1 => by rw [List.replicate_succ, List.flatten_cons, List.length_append, fj z n, Nat.add_mul, Nat.one_mul, Nat.add_comm]
theorem dX (z : Lv) : ∀ n, jc z (n * z.length) = (List.replicate n z).flatten := by
 intro n
 apply List.ext_getElem?
 intro i;by_cases hz : z.length = 0
 ·have : z = [] := List.eq_nil_of_length_eq_zero hz;subst this
  simp [jc]
 by_cases hi : i < n * z.length
 ·have h1 : (jc z (n * z.length))[i]? = some (z.toArray[i % z.length]!) := by simp [jc, hi]
  rw [h1]
  have key : ∀ (n i : Nat), i < n * z.length -> (List.replicate n z).flatten[i]? = some (z.toArray[i % z.length]!) := by
   intro n
   induction n with
   | zero => intro i h; simp at h
   | succ n ih =>
     intro i h;rw [List.replicate_succ, List.flatten_cons];by_cases hlt : i < z.length
     ·rw [List.getElem?_append_left hlt, Nat.mod_eq_of_lt hlt]
      simp [hlt]
     ·rw [List.getElem?_append_right (by omega), ih (i - z.length) (by rw [Nat.add_mul] at h; omega)]
      congr 2
      conv => rhs; rw [show i = (i - z.length) + z.length by omega]
      rw [Nat.add_mod_right]
  exact (key n i hi).symm
 ·rw [List.getElem?_eq_none (by simp [jc]; omega), List.getElem?_eq_none (by rw [fj]; omega)]
theorem aJ {I : As} {z : Lv} (h : aQ z = true) : ∀ n, xk I (List.replicate n z).flatten (List.replicate n z).flatten
 | 0 => .nil
 | n + 1 => by rw [List.replicate_succ, List.flatten_cons]; exact (Ze h).app (aJ h n)
variable {k : AO -> Value -> Rs}
theorem Hf (h : MM P k i t = r) (hr : r ≠ .no) : ∃ ao v, k ao v = r /\ NS P e i (.alloc t) ao v := by
 obtain ⟨z, h1, h2⟩ := zt h hr;obtain ⟨h3, h4⟩ := zl h2 hr;refine ⟨_, _, h4, Vi fun {x n B I s a w} M => ⟨z, Ze h3, fun _ _ _ _ _ => ?_⟩⟩;obtain ⟨zv, hz1, hz2⟩ := kk h1 w;exact ⟨_, fun J hJ => .ptr hJ, by simp [execOp, Instr.alloc, newVar, newRow, hz1, hz2]⟩
variable {y : Operand}
theorem PY (h : Bg e k i t y = r) (hr : r ≠ .no) : ∃ ao v, k ao v = r /\ NS P e i (.box t y) ao v := by
 obtain ⟨v, h1, h2⟩ := zS h hr;obtain ⟨h3, -, h4⟩ := fD h2 hr;refine ⟨_, _, h3, Vi fun {x n B I s a w} M => ?_⟩;obtain ⟨u, g1, g2, -⟩ := zG M h1;exact ⟨u.cells.toList, h4 g1, fun _ _ _ _ _ => ⟨_, fun J hJ => .ptr hJ, by simp [execOp, Instr.box, newVar, newRow, g2]⟩⟩
theorem Jm {n : Nat} {ps : Array (Nat × Operand)} (h : cF P e k i t n ps = r) (hr : r ≠ .no) : ∃ ao v, k ao v = r /\ NS P e i (.buildSlice t n ps) ao v := by
 obtain ⟨⟨el, sz, xn, z⟩, h1, h2⟩ := zt h hr;obtain ⟨vs, h3, h4⟩ := ZI (P := P) h2 hr;obtain ⟨h5, h6⟩ := zl h3 hr;obtain ⟨h7, h8⟩ := zl h6 hr;obtain ⟨h9, h10⟩ := zl h8 hr;rw [cn] at h10;obtain ⟨cs, h11, h12⟩ := ZG vs h10 hr;have hzl := Nat.eq_of_beq_eq_true h7;rw [yO] at hzl;simp only at hzl h5 h9 h11 h12;refine ⟨_, _, h11, Vi fun {x m B I s a w} M => ?_⟩
 obtain ⟨us, g1, g2, g3⟩ := h4 M;obtain ⟨ds, g4, g5⟩ := h12 (aJ h5 n) g1 g2;refine ⟨ds, g5, fun dst ty pos aft gd => ⟨_, fun J hJ => .sl hJ (Nat.le_refl _), ?_⟩⟩;have hps : ps.toList.toArray = ps := by simp
 have hb : (execOp a.eval ⟨dst, .buildSlice t n ps, ty, pos, aft, gd⟩).run P w = .ok (.value (.slice (some ⟨w.heap.size, 0, none⟩) n n)) (w.alloc (.cells ⟨ds⟩ el)) := by
  obtain ⟨i', zv, hu, hi, hz, hsi, hby, hzc⟩ := ug h1;have hsm : ¬ n * sz > 16777216 := by have := Nat.le_of_ble_eq_true h9; simp at this; omega
  have k1 := ZH (yc a) g3;rw [hps] at k1;have k2 := kF g4;have hsz : (sizeOf el).run P w = .ok sz w := by simp [sizeOf, typeInfo, hi, hsi]
  have hzv : (zeroValue el).run P w = .ok zv w := by simp [zeroValue, typeInfo, hi, hz]
  simp only [execOp, k1, Instr.buildSlice, Sem.run_bind, run_underlying hu, Result.andThen_ok, hsz];have hlit : (2 : Nat) ^ 24 = 16777216 := by decide
  rw [hlit, if_neg hsm];rw [<- dX, hzl] at k2;by_cases h0 : n * sz = 0
  ·have k3 : (Array.range (n * sz)).map (fun i => (#[] : Array Value)[i % (#[] : Array Value).size]!) = (jc z (n * sz)).toArray := by
    rw [h0]; simp [jc]
   rw [if_pos h0];simp only [Sem.run_bind, Sem.run_pure, Result.andThen_ok];rw [k3, k2]
   simp [newRow]
  ·have k3 : (Array.range (n * sz)).map (fun i => zv.cells[i % zv.cells.size]!) = (jc z (n * sz)).toArray := by
    rw [hzc]
    apply Array.ext'
    simp [jc]
   rw [if_neg h0];simp only [Sem.run_bind, hzv, Sem.run_pure, Result.andThen_ok];rw [k3, k2]
   simp [newRow]
 simpa using hb
theorem MW (z : Lv) (n : Nat) : (madeCells z.toArray (n * z.length)).toList = (List.replicate n z).flatten := by
 rw [<- dX]
 simp [madeCells, jc]
theorem He {y' : Operand} (h : Zj P e k i t y y' = r) (hr : r ≠ .no) : ∃ ao v, k ao v = r /\ NS P e i (.makeSlice t y y') ao v := by
 obtain ⟨⟨el, sz, xn, z⟩, h1, h2⟩ := zt h hr;obtain ⟨va, h3, h4⟩ := zS h2 hr;obtain ⟨vb, h5, h6⟩ := zS h4 hr;obtain ⟨kd, m, rfl, h7⟩ := yW h6 hr;obtain ⟨kd', n, rfl, h8⟩ := yW h7 hr;obtain ⟨m, rfl, h9⟩ := v8 h8 hr;obtain ⟨n, rfl, h10⟩ := v8 h9 hr;obtain ⟨h11, h12⟩ := zl h10 hr;obtain ⟨h13, h14⟩ := zl h12 hr;obtain ⟨h15, h16⟩ := zl h14 hr
 obtain ⟨h17, h18⟩ := zl h16 hr;obtain ⟨h19, h20⟩ := zl h18 hr;obtain ⟨h21, h22⟩ := zl h20 hr;rw [cn] at h22;have hzl := Nat.eq_of_beq_eq_true h19;rw [yO] at hzl;have a1 := yq h11;have a2 := yq h13;have a3 := yq h15;have a4 := yq h17;simp only [Nat.mul_eq] at hzl a3 a4
 refine ⟨_, _, h22, Vi fun {x q B I s a w} M => ⟨(List.replicate n z).flatten, aJ h21 n, fun dst ty pos aft gd => ⟨.slice (some ⟨w.heap.size, 0, none⟩) m n, fun J hJ => .sl hJ a1, ?_⟩⟩⟩;obtain ⟨u, g1, g2, -⟩ := zG M h3;obtain ⟨u', g3, g4, -⟩ := zG M h5;cases g1; cases g3;obtain ⟨i', zv, hu, hi, hz, hsi, hby, hzc⟩ := ug h1
 have := run_makeSlice (P := P) (w := w) t el i' zv hu hi hz kd kd' (m : Int) (n : Int) (by omega) (by omega) (by rw [hsi]; simpa using a4) (by rw [hby]; have : ((n * xn : Nat) : Int) <= 1048576 := Int.ofNat_le.2 a3; rw [Int.mul_comm]; push_cast at this; omega) (by omega);simp only [execOp, g2, g4, Sem.run_bind, this, Result.andThen_ok, Int.toNat_natCast];rw [hsi, <- hzl, hzc]
 have e1 := MW z n;rw [<- e1]
 rfl
theorem ML {d : Nat} (h : TG P e k i t d y = r) (hr : r ≠ .no) : ∃ ao v, k ao v = r /\ NS P e i (.convert t d y) ao v := by
 obtain ⟨v, h1, h2⟩ := zS h hr;obtain ⟨sb, rfl, h3⟩ := jT h2 hr;obtain ⟨h4, h5⟩ := zl h3 hr;obtain ⟨h6, h7⟩ := zl h5 hr;obtain ⟨el, he1, he2⟩ := ai h6;obtain ⟨d', h8, h9⟩ := zt (show (oB (P.underlying d) fun d => TypeDesc.rec (motive := fun _ => Rs) .no .no ff ff ff .no .no ff _ yL yL yL ff xT ff ff yL d) = r from h7) hr;rw [he1] at h8;cases h8
 obtain ⟨z, h10, h11⟩ := zt (show (oB (aA P el) fun z => bB (Nat.beq z 1) <| bB (Nat.ble (ve sb.data.toList) 1048576) <| bk sb.data.toList fun cs => k (.opn cs el) (.slice (some ⟨i, 0, none⟩) (ve cs) 0)) = r from h9) hr;obtain ⟨h12, h13⟩ := zl h11 hr;obtain ⟨h14, h15⟩ := zl h13 hr;rw [fE, yO] at h15;have hz := Nat.eq_of_beq_eq_true h12;subst hz
 have hl := yq h14;rw [yO] at hl;refine ⟨_, _, h15, fun {x n B I s a w} M hi dst ty pos aft gd => ?_⟩;obtain ⟨u, g1, g2, -⟩ := zG M h1;cases g1;have hrun := run_bytes_of_string (P := P) w t d el sb (aE h4) he1 he2;have hge := grownCap_ge w sb.size 0 el;have hsz : sb.size = sb.data.toList.length := by simp
 have hle := grownCap_le_maxLen w sb.size 0 el (by rw [hsz]; simp only [maxLen]; omega);generalize grownCap w sb.size 0 el = c at *
 have hlen : (bytesRow sb c).size = c := by
  unfold bytesRow;rw [Array.size_append, Array.size_map, Array.size_replicate];have : sb.data.size = sb.size := rfl;omega
 refine ⟨.slice (some ⟨w.heap.size, 0, none⟩) sb.size c, w.heap.push (.cells (bytesRow sb c) el ((bytesRow sb c).size, (bytesRow sb c).size + 1)), w.heap.size, 0, some c, w.drawn + 1, ?_, vT _ _, u6 _, ?_, ?_⟩
 ·simp only [execOp, g2, Sem.run_bind, hrun, Result.andThen_ok, Sem.run_pure]
  congr 1
  conv => lhs; rw [M.wd]
  rfl
 ·have h2 : (sb.data.toList.map uE).length = sb.size := by rw [List.length_map, hsz]
  rw [h2];exact .slo (yD _ _ _) (by omega)
 ·refine ⟨w.heap.size, 0, c, 1, (bytesRow sb c).toList, _, yD _ _ _, xc _ _, h10, by rw [Array.length_toList, hlen]; omega, hle, ?_, .inr (by simp)⟩
  have h3 : (bytesRow sb c).toList.take (sb.data.toList.map uE).length = sb.data.toList.map uE := by
   unfold bytesRow;rw [Array.toList_append, Array.toList_map];exact List.take_left' (by simp)
  rw [List.drop_zero, h3]
  have : ∀ l : Bt, xk (upd I i (w.heap.size, 0, some c)) (l.map uE) (l.map uE) := fun l => by
   induction l with
   | nil => exact .nil
   | cons x l ih => exact .cons (.int _ _) ih
  exact this _
theorem OF (h : ∀ {x : Fx} {n : Nat} {B : Mp} {I : As} {s : St} {a : Act} {w : World}, Mt P x n B I e s a w -> ∀ dst ty pos aft gd,
  (execOp a.eval ⟨dst, o, ty, pos, aft, gd⟩).run P w = .ok (.value (.map (some w.heap.size))) (w.alloc (.map #[] 0))) : NS P e i o (.mp [] 0) (.map (some i)) := by
 intro x n B I s a w M hi dst ty pos aft gd;refine ⟨_, w.heap.push (.map #[] 0), w.heap.size, 0, none, w.drawn, ?_, vT _ _, u6 _, .map (yD _ _ _), w.heap.size, [], yD _ _ _, xc _ _, .nil⟩;rw [h M]
 congr 1
 conv => lhs; rw [M.wd]
 rfl
theorem MK (h : nK P e k i o = r) (hr : r ≠ .no) : ∃ ao v, k ao v = r /\ NS P e i o ao v := by
 cases o with
 | alloc t => exact Hf h hr
 | box t y => exact PY h hr
 | buildSlice t n ps => exact Jm h hr
 | convert t d y => exact ML h hr
 | makeSlice t y y' => exact He h hr
 | makeMap t y =>
   cases y with
   | none => exact ⟨_, _, h, OF fun {x n B I s a w} M _ _ _ _ _ => by simp [execOp, Instr.makeMap]⟩
   | some y =>
     obtain ⟨h1, h2⟩ := zl (show bB (XN P t) (wk e y fun v => ja v fun _ _ => k (.mp [] 0) (.map (some i))) = r from h) hr;obtain ⟨v, h3, h4⟩ := zS h2 hr;obtain ⟨kd, m, rfl, h5⟩ := yW h4 hr;obtain ⟨ka, va, hm⟩ := Zu h1;refine ⟨_, _, h5, OF fun {x n B I s a w} M _ _ _ _ _ => ?_⟩;obtain ⟨u, g1, g2, -⟩ := zG M h3;cases g1
     simp [execOp, Instr.makeMap, g2, run_underlying hm, asInt, asIntOf]
 | _ => exact absurd h.symm hr
end
end Go.Ev
namespace Go.Ev
open Go.Eng
theorem Zc {α : Type} (v : Option α) (t : Tr α) : ∀ n, ∃ t' : Tr α, (∀ {R : Type} (k : Tr α -> R), put v t n k = k t') /\ (∀ m, m ≠ n -> get t' m = get t m) /\ ∀ u, get t' n = some u -> v = some u := by
 induction t with
 | lf => exact fun n => ⟨.lf, fun _ => rfl, fun _ _ => rfl, fun u h => by cases h⟩
 | nd l w r ihl ihr =>
   intro n;cases n with
   | zero =>
     refine ⟨.nd l v r, fun k => PC .., fun m hm => ?_, fun u h => h⟩;cases m with
     | zero => exact absurd rfl hm
     | succ m => rw [xV, xV]
   | succ n =>
     by_cases hn : n % 2 = 0
     ·obtain ⟨l', h1, h2, h3⟩ := ihl (n / 2);refine ⟨.nd l' w r, fun k => by rw [Wm, if_pos hn, h1], fun m hm => ?_, fun u h => h3 u (by rw [xV, if_pos hn] at h; exact h)⟩;cases m with
      | zero => rfl
      | succ m =>
        rw [xV, xV];by_cases hm2 : m % 2 = 0
        ·rw [if_pos hm2, if_pos hm2, h2 _ (by omega)]
        ·rw [if_neg hm2, if_neg hm2]
     ·obtain ⟨r', h1, h2, h3⟩ := ihr (n / 2);refine ⟨.nd l w r', fun k => by rw [Wm, if_neg hn, h1], fun m hm => ?_, fun u h => h3 u (by rw [xV, if_neg hn] at h; exact h)⟩;cases m with
      | zero => rfl
      | succ m =>
        rw [xV, xV];by_cases hm2 : m % 2 = 0
        ·rw [if_pos hm2, if_pos hm2]
        ·rw [if_neg hm2, if_neg hm2, h2 _ (by omega)]
structure Ms (P : Program) (x : Fx) (B : Mp) (I : As) (s : St) (w : World) : Prop where
 gl : ∀ g, g < gN -> I g = some (g, 0, none)
 wd : w = W x w.heap w.drawn
 hp : HR P I B s (mp w.heap)
structure wm (I : As) (s : St) (J : As) (s' : St) : Prop where
 ext : dp I J
 same : ∀ j, j < s.nx -> J j = I j
 gh : ∀ j, j < s.nx -> I j = none -> get s'.h j = get s.h j
 nx : s.nx <= s'.nx
theorem wm.refl (I : As) (s : St) : wm I s I s := ⟨dp.refl I, fun _ _ => rfl, fun _ _ _ => rfl, Nat.le_refl _⟩
variable {I : As} {s : St}
theorem wm.trans {J K : As} {t u : St} (h : wm I s J t) (g : wm J t K u) : wm I s K u :=
 ⟨h.ext.trans g.ext, fun j hj => (g.same j (Nat.lt_of_lt_of_le hj h.nx)).trans (h.same j hj), fun j hj hi => (g.gh j (Nat.lt_of_lt_of_le hj h.nx) ((h.same j hj).trans hi)).trans (h.gh j hj hi), Nat.le_trans h.nx g.nx⟩
variable {B : Mp} {P : Program} {a : Act} {e : Env} {n : Nat} {w : World} {x : Fx}
theorem Mt.ms (M : Mt P x n B I e s a w) : Ms P x B I s w := ⟨M.gl, M.wd, M.hp⟩
theorem Ms.mt (M : Ms P x B I s w) (h1 : a.tmps.size = n) (h2 : a.defers = x.ds) (h3 : ∀ t v, get e t = some v -> ∃ u, a.tmps[t]? = some u /\ Rl I v u) : Mt P x n B I e s a w := ⟨h1, h2, h3, M.gl, M.wd, M.hp⟩
variable {H K : Mp} {i : Nat} {o : AO}
theorem bW.frame {x : Nat × Nat × Option Nat} (h : bW P I H i o) (hx : I i = some x) (hk : K x.1 = H x.1) : bW P I K i o := by
 cases o with
 | cel xs t => obtain ⟨g, us, fz, h1, h2, h3⟩ := h; rw [hx] at h1; cases h1; exact ⟨g, us, fz, hx, hk.trans h2, h3⟩
 | opn xs t => obtain ⟨g, q, r, z, cur, fz, h1, h2, h3⟩ := h; rw [hx] at h1; cases h1; exact ⟨g, q, r, z, cur, fz, hx, hk.trans h2, h3⟩
 | mp es c => obtain ⟨g, es', h1, h2, h3⟩ := h; rw [hx] at h1; cases h1; exact ⟨g, es', hx, hk.trans h2, h3⟩
variable {s' : St}
theorem HR.set {x : Nat × Nat × Option Nat} {o' : AO} (h : HR P I B s H) (ho : get s.h i = some o) (hx : I i = some x) (hK : ∀ j, j ≠ x.1 -> K j = H j) (hok : bW P I K i o') (h1 : ∀ m, m ≠ i -> get s'.h m = get s.h m) (h2 : ∀ u, get s'.h i = some u -> o' = u) (hn : s.nx <= s'.nx) : HR P I B s' K := by
 constructor
 ·intro j p y hj hy;by_cases e : j = i
  ·subst e; rw [<- h2 p hj]; exact hok
  ·rw [h1 j e] at hj;refine (h.obj j p y hj hy).frame hy (hK _ fun e1 => e (h.sep j i p o y x hj ho hy hx e1))
 ·intro j k p p' y z hj hk hy hz hyz;by_cases e : j = i <;> by_cases e' : k = i
  ·rw [e, e']
  ·subst e; rw [h1 k e'] at hk; exact h.sep _ k o p' y z ho hk hy hz hyz
  ·subst e'; rw [h1 j e] at hj; exact h.sep j _ p o y z hj ho hy hz hyz
  ·rw [h1 j e] at hj; rw [h1 k e'] at hk; exact h.sep j k p p' y z hj hk hy hz hyz
 ·exact fun j hj => h.new j (Nat.le_trans hn hj)
 ·intro j p y hj hy;by_cases e : j = i
  ·subst e; exact h.out j o y ho hy
  ·rw [h1 j e] at hj; exact h.out j p y hj hy
 ·intro b ob hb;rw [hK b fun e => by rw [e, h.out i o x ho hx] at hb; cases hb];exact h.base b ob hb
 ·intro j hj
  have hne : j ≠ i := fun e => by
   have := h.new j (Nat.le_trans hn hj);rw [e, hx] at this; cases this
  rw [h1 j hne]; exact h.fre j (Nat.le_trans hn hj)
theorem HR.del (h : HR P I B s H) (h1 : ∀ m, m ≠ i -> get s'.h m = get s.h m) (h2 : ∀ u, get s'.h i ≠ some u) (hn : s.nx <= s'.nx) : HR P I B s' H := by
 have sub : ∀ j o, get s'.h j = some o -> j ≠ i /\ get s.h j = some o := fun j o hj => by
  by_cases e : j = i
  ·subst e; exact absurd hj (h2 o)
  ·exact ⟨e, by rw [<- h1 j e]; exact hj⟩
 exact ⟨fun j p y hj hy => h.obj j p y (sub j p hj).2 hy, fun j k p p' y z hj hk hy hz e => h.sep j k p p' y z (sub j p hj).2 (sub k p' hk).2 hy hz e, fun j hj => h.new j (Nat.le_trans hn hj), fun j p y hj hy => h.out j p y (sub j p hj).2 hy, h.base, fun j hj => by
  cases hg : get s'.h j with
  | none => rfl
  | some o => have := (sub j o hg).2; rw [h.fre j (Nat.le_trans hn hj)] at this; cases this⟩
theorem Bc {v u : Value} (h : Rl I v u) (ho : oc v = true) : u.oneCell' = true := by
 cases h <;> first | rfl | cases ho
theorem Ws : ∀ {vs us : Lv}, xk I vs us -> ocL vs = true -> ∀ u ∈ us, u.oneCell' = true
 | _, _, .nil, _, u, hu => by cases hu
 | v :: vs, u :: us, .cons h hs, ho, y, hy => by
   have h' : Bool.rec (motive := fun _ => Bool) false (ocL vs) (oc v) = true := ho;cases hv : oc v with
   | false => rw [hv] at h'; cases h'
   | true =>
     rw [hv] at h';rcases List.mem_cons.1 hy with rfl | hy
     ·exact Bc h hv
     ·exact Ws hs h' y hy
theorem Ym (cur : Lv) (o : Nat) (v : Value) (vs : Lv) (h : o + (v :: vs).length <= cur.length) :
  (cur.set o v).take (o + 1) ++ vs ++ (cur.set o v).drop (o + 1 + vs.length) = cur.take o ++ (v :: vs) ++ cur.drop (o + (v :: vs).length) := by
 have h0 : o < cur.length := by simp at h; omega
 have e1 : (cur.set o v).take (o + 1) = cur.take o ++ [v] := by
  rw [List.take_add_one, List.take_set_of_le (Nat.le_refl _), List.getElem?_set_self h0]
  rfl
 have e2 : (cur.set o v).drop (o + 1 + vs.length) = cur.drop (o + (v :: vs).length) := by
  rw [List.drop_set_of_lt (by omega)]
  congr 1
  simp; omega
 rw [e1, e2]
 simp
theorem jz (b : Nat) : ∀ (vs : Lv) (o : Nat) (w : World), w = W x w.heap w.drawn -> w.setCells b o vs = W x (w.setCells b o vs).heap (w.setCells b o vs).drawn /\ (w.setCells b o vs).drawn = w.drawn
 | [], _, _, h => ⟨h, rfl⟩
 | v :: vs, o, w, h => by
   have h1 : w.setCell ⟨b, o, none⟩ v = W x (w.setCell ⟨b, o, none⟩ v).heap (w.setCell ⟨b, o, none⟩ v).drawn := by
    conv => lhs; rw [h]
    rfl
   obtain ⟨h2, h3⟩ := jz b vs (o + 1) (w.setCell ⟨b, o, none⟩ v) h1;exact ⟨h2, h3⟩
theorem jA (b : Nat) : ∀ (vs : Lv) (o : Nat) (w : World) (cur : Lv) (t : Nat) (fz : Nat × Nat), mp w.heap b = some (.cells ⟨cur⟩ t fz) -> o + vs.length <= cur.length ->
  mp (w.setCells b o vs).heap b = some (.cells ⟨cur.take o ++ vs ++ cur.drop (o + vs.length)⟩ t fz) /\ ∀ j, j ≠ b -> mp (w.setCells b o vs).heap j = mp w.heap j
 | [], o, w, cur, t, fz, h, hl => by
   refine ⟨?_, fun _ _ => rfl⟩;show mp w.heap b = _;rw [h]; simp
 | v :: vs, o, w, cur, t, fz, h, hl => by
   have h1 : mp (w.setCell ⟨b, o, none⟩ v).heap b = some (.cells ⟨cur.set o v⟩ t fz) := by
    have := cH (h := w.heap) (l := cur) (e := t) (fr := fz) (i := o) v h;exact this
   have h2 : ∀ j, j ≠ b -> mp (w.setCell ⟨b, o, none⟩ v).heap j = mp w.heap j := fun j hj => je w.heap ⟨b, o, none⟩ v hj;obtain ⟨h3, h4⟩ := jA b vs (o + 1) (w.setCell ⟨b, o, none⟩ v) (cur.set o v) t fz h1 (by simp at hl ⊢; omega);refine ⟨?_, fun j hj => (h4 j hj).trans (h2 j hj)⟩;rw [Ym cur o v vs hl] at h3;exact h3
theorem fp (cur ys : Lv) (o : Nat) (h : o + ys.length <= cur.length) : (cur.take o ++ ys ++ cur.drop (o + ys.length)).length = cur.length := by
 simp; omega
variable {k : St -> Rs} {r : Rs}
theorem uf (h : jx s i o k = r) : ∃ s', k s' = r /\ s'.nx = s.nx /\ (∀ m, m ≠ i -> get s'.h m = get s.h m) /\ ∀ u, get s'.h i = some u -> o = u := by
 obtain ⟨t', h1, h2, h3⟩ := Zc (some o) s.h i;refine ⟨⟨t', s.nx⟩, ?_, rfl, h2, fun u hu => by have := h3 u hu; injection this⟩;rw [<- h]; exact (h1 fun h => k ⟨h, s.nx⟩).symm
theorem YI (h : VN s i k = r) : ∃ s', k s' = r /\ s'.nx = s.nx /\ (∀ m, m ≠ i -> get s'.h m = get s.h m) /\ ∀ u, get s'.h i ≠ some u := by
 obtain ⟨t', h1, h2, h3⟩ := Zc (none : Option AO) s.h i;refine ⟨⟨t', s.nx⟩, ?_, rfl, h2, fun u hu => by have := h3 u hu; cases this⟩;rw [<- h]; exact (h1 fun h => k ⟨h, s.nx⟩).symm
theorem qQ {k : Nat -> St -> Rs} (h : bC s o k = r) : ∃ s', k s.nx s' = r /\ s'.nx = s.nx + 1 /\ (∀ m, m ≠ s.nx -> get s'.h m = get s.h m) /\ ∀ u, get s'.h s.nx = some u -> o = u := by
 obtain ⟨t', h1, h2, h3⟩ := Zc (some o) s.h s.nx;refine ⟨⟨t', s.nx + 1⟩, ?_, rfl, h2, fun u hu => by have := h3 u hu; injection this⟩;rw [<- h]; exact (h1 fun h => k s.nx ⟨h, s.nx + 1⟩).symm
theorem wm.set {x : Nat × Nat × Option Nat} (hx : I i = some x) (hn : s'.nx = s.nx) (h : ∀ m, m ≠ i -> get s'.h m = get s.h m) : wm I s I s' :=
 ⟨dp.refl I, fun _ _ => rfl, fun j _ hi => h j fun e => (by rw [e, hx] at hi; cases hi), Nat.le_of_eq hn.symm⟩
def StC (P : Program) (s : St) (a : Addr) (cs : Lv) (s' : St) : Prop :=
 ∀ {x : Fx} {B : Mp} {I : As} {w : World}, Ms P x B I s w -> ∀ {g q : Nat} {c : Option Nat}, I a.block = some (g, q, c) -> ∀ {us : Lv}, xk I cs us ->
  (∀ u ∈ us, u.oneCell' = true) /\ (∀ j, j < us.length -> (w.cell? ⟨g, q + a.off + j, none⟩).isSome = true) /\ (∀ j, j < us.length -> w.frozen? ⟨g, q + a.off + j, none⟩ = false) /\ Ms P x B I s' (w.setCells g (q + a.off) us) /\ wm I s I s'
variable {cur : Array Value} {fz : Nat × Nat} {g t : Nat}
theorem WE {o : Nat} (h : mp w.heap g = some (.cells cur t fz)) (hf : Fz fz cur.size) (ho : o < cur.size) : w.frozen? ⟨g, o, none⟩ = false := by
 have h' : w.heap[g]? = some (.cells cur t fz) := h;obtain ⟨lo, hi⟩ := fz;unfold World.frozen?;simp only [h'];rcases hf with hf | hf
 ·simp only [Bool.and_eq_false_imp, decide_eq_true_eq, decide_eq_false_iff_not]; simp only at hf; omega
 ·simp only [Bool.and_eq_false_imp, decide_eq_true_eq, decide_eq_false_iff_not]; simp only at hf; omega
theorem dA {o : Nat} (h : mp w.heap g = some (.cells cur t fz)) (ho : o < cur.size) : (w.cell? ⟨g, o, none⟩).isSome = true := by
 have h' : w.heap[g]? = some (.cells cur t fz) := h;unfold World.cell?
 simp [h', ho]
variable {cs : Lv}
theorem Pz {xs cur us : Lv} {q o : Nat} (h : xk I xs ((cur.drop q).take xs.length)) (g : xk I cs us) (ho : o + cs.length <= xs.length) (hq : q + xs.length <= cur.length) :
  xk I (xs.take o ++ cs ++ xs.drop (o + cs.length)) (((cur.take (q + o) ++ us ++ cur.drop (q + o + us.length)).drop q).take (xs.take o ++ cs ++ xs.drop (o + cs.length)).length) := by
 have hl := h.len;rw [List.length_take, List.length_drop] at hl;have hu := g.len
 have e1 : (cur.take (q + o) ++ us ++ cur.drop (q + o + us.length)).drop q = (cur.drop q).take o ++ us ++ (cur.drop q).drop (o + us.length) := by
  rw [List.append_assoc, List.drop_append_of_le_length (by rw [List.length_take]; omega), List.drop_take, List.drop_drop, List.append_assoc]
  congr 2
  ·omega
  ·congr 1; omega
 rw [e1, fp xs cs o ho]
 have e2 : ((cur.drop q).take o ++ us ++ (cur.drop q).drop (o + us.length)).take xs.length = ((cur.drop q).take xs.length).take o ++ us ++ ((cur.drop q).take xs.length).drop (o + us.length) := by
  rw [List.take_append, List.take_append, List.take_take, List.take_take, List.drop_take];have a1 : ((cur.drop q).take o).length = o := by rw [List.length_take, List.length_drop]; omega
  have a2 : us.take (xs.length - ((cur.drop q).take o).length) = us := List.take_of_length_le (by omega);rw [a2]
  congr 2
  ·congr 1; omega
  ·rw [List.length_append, a1]
 rw [e2, <- hu];exact ((h.take o).app g).app (h.drop _)
theorem fg {a : Addr} (h : aF s a cs k = r) (hr : r ≠ .no) : ∃ s', k s' = r /\ StC P s a cs s' := by
 obtain ⟨h1, h2⟩ := zl h hr;obtain ⟨o, h3, h4⟩ := zt h2 hr;cases o with
 | mp _ _ => exact absurd h4.symm hr
 | cel xs t =>
   obtain ⟨h5, h6⟩ := gx xs a.off cs h4 hr;obtain ⟨s', h7, h8, h9, h10⟩ := uf h6;refine ⟨s', h7, fun M g q c hb us hu => ?_⟩;obtain ⟨g', cur, fz, k1, k2, k3, k4⟩ := M.hp.obj _ _ _ h3 hb;rw [hb] at k1;cases k1;have hl := k3.len;have hlu := hu.len;rw [Nat.zero_add];obtain ⟨m1, m2⟩ := jA g us a.off _ cur t fz k2 (by omega)
   have ok : bW P _ (mp (World.setCells _ g a.off us).heap) a.block (.cel (xs.take a.off ++ cs ++ xs.drop (a.off + cs.length)) t) := ⟨g, _, fz, hb, m1, by rw [hlu]; exact ((k3.take _).app hu).app (k3.drop _), by rw [fp _ _ _ (by omega)]; exact k4.1, k4.2⟩
   exact ⟨Ws hu h1, fun j hj => dA k2 (by simp; omega), fun j hj => WE k2 (by simpa using k4.1) (by simp; omega), ⟨M.gl, (jz g us a.off _ M.wd).1, M.hp.set h3 hb m2 ok h9 h10 (Nat.le_of_eq h8.symm)⟩, wm.set hb h8 h9⟩
 | opn xs t =>
   obtain ⟨h5, h6⟩ := gx xs a.off cs h4 hr;obtain ⟨s', h7, h8, h9, h10⟩ := uf h6;refine ⟨s', h7, fun M g q c hb us hu => ?_⟩;obtain ⟨g', q', rr, z, cur, fz, k1, k2, k3, k4, k5, k6, k7⟩ := M.hp.obj _ _ _ h3 hb;rw [hb] at k1;cases k1;have hl := k6.len;rw [List.length_take, List.length_drop] at hl;have hlu := hu.len
   have hle : q + a.off + us.length <= cur.length := by
    have : xs.length <= cur.length - q := by omega
    omega
   obtain ⟨m1, m2⟩ := jA g us (q + a.off) _ cur t fz k2 hle
   have ok : bW P _ (mp (World.setCells _ g (q + a.off) us).heap) a.block (.opn (xs.take a.off ++ cs ++ xs.drop (a.off + cs.length)) t) :=
    ⟨g, q, rr, z, _, fz, hb, m1, k3, by rw [fp _ _ _ hle]; exact k4, k5, Pz k6 hu h5 (by omega), by rw [fp _ _ _ hle]; exact k7⟩
   exact ⟨Ws hu h1, fun j hj => dA k2 (by simp; omega), fun j hj => WE k2 (by simpa using k7) (by simp; omega), ⟨M.gl, (jz g us (q + a.off) _ M.wd).1, M.hp.set h3 hb m2 ok h9 h10 (Nat.le_of_eq h8.symm)⟩, wm.set hb h8 h9⟩
end Go.Ev
namespace Go.Ev
open Go.Eng
section
variable {P : Program} {e : Env} {s : St} {r : Rs}
def LS (P : Program) (e : Env) (s : St) (o : Op) (v : Value) (s' : St) : Prop :=
 ∀ {x : Fx} {n : Nat} {B : Mp} {I : As} {a : Act} {w : World}, Mt P x n B I e s a w -> ∀ dst ty pos aft gd (K : Act -> World -> Prop) (Q : Exit -> Act -> World -> Prop),
  (∀ J u w', wm I s J s' -> Rl J v u -> Ms P x B J s' w' -> K (a.put dst u) w') -> Oper.wp P ⟨dst, o, ty, pos, aft, gd⟩ a w K Q
variable {o : Op} {s' : St} {v : Value}
theorem kg (h : ∀ {x : Fx} {n : Nat} {B : Mp} {I : As} {a : Act} {w : World}, Mt P x n B I e s a w -> ∀ dst ty pos aft gd, ∃ u J w', (execOp a.eval ⟨dst, o, ty, pos, aft, gd⟩).run P w = .ok (.value u) w' /\ wm I s J s' /\ Rl J v u /\ Ms P x B J s' w') : LS P e s o v s' := by
 intro x n B I a w M dst ty pos aft gd K Q hK;obtain ⟨u, J, w', h1, h2, h3, h4⟩ := h M dst ty pos aft gd;unfold Oper.wp;rw [h1, Oper.upon_value];exact hK J u w' h2 h3 h4
theorem dI (h : ∀ {x : Fx} {n : Nat} {B : Mp} {I : As} {a : Act} {w : World}, Mt P x n B I e s a w -> ∀ dst ty pos aft gd, ∃ J w', (execOp a.eval ⟨dst, o, ty, pos, aft, gd⟩).run P w = .ok .skip w' /\ wm I s J s' /\ Ms P x B J s' w') : LS P e s o qn s' := by
 intro x n B I a w M dst ty pos aft gd K Q hK;obtain ⟨J, w', h1, h2, h4⟩ := h M dst ty pos aft gd;unfold Oper.wp;rw [h1, Oper.upon_skip];exact hK J _ w' h2 (.tuple .nil) h4
def BL (P : Program) (s : St) (b : Builtin) (as : Lv) (ts : List Nat) (v : Value) (s' : St) : Prop :=
 ∀ {x : Fx} {B : Mp} {I : As} {w : World}, Ms P x B I s w -> ∀ us : Lv, xk I as us -> ∃ u J w', wm I s J s' /\ Rl J v u /\ Ms P x B J s' w' /\ ∀ (ty : TypeId) (cs : Array Bool), (builtin b ⟨ts⟩ ty cs ⟨us⟩).run P w = .ok (.value u) w'
variable {as : Lv}
theorem kV {b : Builtin} {args : Array Operand} {ts : Array Nat} (hB : BL P s b as ts.toList v s') (h : ∀ {x : Fx} {n : Nat} {B : Mp} {I : As} {s : St} {a : Act} {w : World}, Mt P x n B I e s a w -> ∃ us, xk I as us /\ Eng.evs (dg a) args.toList = some us) :
  LS P e s (.call ⟨.builtin b, args, ts⟩) v s' := by
 refine kg fun {x n B I a w} M dst ty pos aft gd => ?_;obtain ⟨us, g1, g2⟩ := h M;obtain ⟨u, J, w', g3, g4, g5, g6⟩ := hB M.ms us g1;refine ⟨u, J, w', ?_, g3, g4, g5⟩;have h1 := qv (yc a) g2
 have h2 : args.map a.eval = ⟨us⟩ := by
  have : (args.toList.toArray).map a.eval = us.toArray := h1
  simpa using this
 have h3 : (⟨ts.toList⟩ : Array Nat) = ts := by simp
 simp only [h3] at g6;simp only [execOp, resolve, h2, Sem.run_bind, Sem.run_pure, Result.andThen_ok, invoke];exact g6 _ _
variable {k : KS}
theorem Hl {t : Nat} {y z : Operand} (h : aY P e s k t y z = r) (hr : r ≠ .no) : ∃ v s', k v s' = r /\ LS P e s (.store t y z) v s' := by
 obtain ⟨vp, h1, h2⟩ := zS h hr;obtain ⟨p, rfl, h3⟩ := jU h2 hr;obtain ⟨a, rfl, h4⟩ := zt h3 hr;obtain ⟨v, h5, h6⟩ := zS h4 hr;obtain ⟨h7, -, h8⟩ := fD h6 hr;obtain ⟨n, h9, h10⟩ := zt h7 hr;obtain ⟨h11, h12⟩ := zl h10 hr;obtain ⟨s', h13, h14⟩ := fg (P := P) h12 hr;obtain ⟨i, hi, hsz⟩ := gv h9;have hl := Nat.eq_of_beq_eq_true h11;rw [yO] at hl
 refine ⟨_, s', h13, dI fun {x m B I act w} M dst ty pos aft gd => ?_⟩;obtain ⟨u, g1, g2, -⟩ := zG M h1;obtain ⟨u', g3, g4, -⟩ := zG M h5;obtain ⟨-, g, q, c, g5, rfl⟩ := gA g1;have g6 := h8 g3;obtain ⟨g7, g8, g9, g10, g11⟩ := h14 M.ms g5 g6;have hst := run_storeCells_cells (P := P) g (q + a.off) u'.cells.toList 0 w (by simpa using g8) (by simpa using g9) g7
 refine ⟨I, _, ?_, g11, g10⟩;have hlen : u'.cells.size = i.size := by rw [hsz, <- hl, g6.len]; simp
 simp only [execOp, Instr.storeAt, g2, g4, Instr.sureAddr, storeVar, Sem.run_bind, sizeOf, typeInfo, run_program, Result.andThen_ok, hi, Sem.run_pure, hlen, ne_eq, not_true_eq_false, if_false];simp only [Nat.add_zero] at hst;rw [hst]
 rfl
variable {I : As}
theorem Ms.mt0 {x : Fx} {B : Mp} {w : World} (M : Ms P x B I s w) : Mt P x 0 B I .lf s ⟨#[], x.ds⟩ w := M.mt rfl rfl fun t v h => by cases h
variable {z : Nat}
theorem VO {p : Oa} {n : Nat} {k : Nat -> Lv -> Rs} (h : LR s z p n k = r) (hr : r ≠ .no) : ∃ m cs, k m cs = r /\ cs.length = m * z /\ ∀ {x : Fx} {B : Mp} {I : As} {w : World}, Ms P x B I s w -> ∀ {c : Nat} {u : Value}, Rl I (.slice p n c) u ->
  ∃ A c' us, u = .slice A m c' /\ xk I cs us /\ us.length = m * z /\ (A = none -> m = 0) /\ ∀ a, A = some a -> ∀ j v, us[j]? = some v -> w.cell? (a.add j) = some v := by
 cases p with
 | none =>
   refine ⟨0, [], h, by simp, fun M c u hu => ?_⟩;cases hu;exact ⟨none, 0, [], rfl, .nil, by simp, fun _ => rfl, fun _ h => by cases h⟩
 | some a =>
   replace h : (dU (some a) n fun n => oB (get s.h a.block) fun o => Fj o fun xs => dh xs a.off (Nat.mul n z) fun cs => k n cs) = r := h
   rw [eY] at h;obtain ⟨o, h1, h2⟩ := zt h hr;obtain ⟨xs, h3, h4⟩ := dB h2 hr;obtain ⟨h5, h6⟩ := qh h4 hr;refine ⟨_, _, h6, by rw [List.length_take, List.length_drop]; simp only [Nat.mul_eq] at h5 ⊢; omega, fun {x B I w} M c u hu => ?_⟩
   have plain : (a.spot = none \/ a.spot = some 0) -> ∃ A c' us, u = .slice A (QH (some a) n) c' /\ xk I ((xs.drop a.off).take (Nat.mul (QH (some a) n) z)) us /\ us.length = QH (some a) n * z /\ (A = none -> QH (some a) n = 0) /\ ∀ a, A = some a -> ∀ j v, us[j]? = some v -> w.cell? (a.add j) = some v := fun hsp => by
    obtain ⟨g, q, y, c', g1, rfl⟩ := VU hu hsp
    have hN : QH (some a) n = n := by
     obtain ⟨b, o, sp⟩ := a;rcases hsp with h | h <;> simp only at h <;> subst h <;> rfl
    rw [hN] at h5 ⊢;obtain ⟨us, g2, g3⟩ := fk M.mt0 h1 h3 h5 g1;refine ⟨_, _, us, rfl, g2, ?_, fun h => (by cases h), fun a' ha' j v hj => ?_⟩
    ·rw [<- g2.len, List.length_take, List.length_drop]; simp only [Nat.mul_eq] at h5 ⊢; omega
    ·cases ha';rw [Addr.add_lit];exact g3 j v hj
   obtain ⟨b, o, sp⟩ := a;cases sp with
   | none => exact plain (.inl rfl)
   | some c =>
     cases c with
     | zero => exact plain (.inr rfl)
     | succ c =>
       cases hu with
       | sla g1 g2 =>
         refine ⟨_, _, [], rfl, ?_, by simp [QH], fun h => (by cases h), fun _ _ j v hj => by cases hj⟩;have : (xs.drop o).take (Nat.mul 0 z) = [] := by simp
         show xk _ ((xs.drop o).take (Nat.mul 0 z)) [];rw [this]; exact .nil
theorem eD : ∀ l : Bt, xk I (l.map uE) (l.map uE)
 | [] => .nil
 | _ :: l => .cons (.int _ _) (eD l)
theorem NJ {k : Nat -> Lv -> Rs} (h : T0 s z v k = r) (hr : r ≠ .no) : ∃ m cs, k m cs = r /\ ∀ {x : Fx} {B : Mp} {I : As} {w : World}, Ms P x B I s w -> ∀ {u : Value}, Rl I v u ->
  ∃ us, xk I cs us /\ us.length = m * z /\ (∀ w', (Builtin.lenOf u).run P w' = .ok m w') /\ ∀ j, j <= m -> (Builtin.firstCells z j u).run P w = .ok (us.take (j * z)).toArray w := by
 rcases yC h hr with ⟨_, rfl, h⟩ | ⟨kd, i, rfl, h⟩ | ⟨sb, rfl, h⟩ | ⟨p, rfl, h⟩ | ⟨p, n, c, rfl, h⟩ | ⟨_, rfl, h⟩ | ⟨fn, a, c, rfl, h⟩ | ⟨rfl, h⟩ | ⟨d, x, rfl, h⟩ | ⟨rfl, h⟩ | ⟨⟨cs⟩, rfl, h⟩ | ⟨_, rfl, h⟩ <;> first | exact absurd h.symm hr | skip
 ·obtain ⟨h1, h2⟩ := zl h hr;cases Nat.eq_of_beq_eq_true h1;rw [fE] at h2;refine ⟨_, _, h2, fun M u hu => ?_⟩;cases hu;refine ⟨_, eD _, by rw [yO, Nat.mul_one], fun w' => ?_, fun j hj => ?_⟩
  ·rw [yO, List.length_map]; rfl
  ·rw [Nat.mul_one];simp only [Builtin.firstCells, Sem.run_pure]
   congr 1
   apply Array.ext'
   rw [Array.toList_map]
   have : (sb.extract 0 j).data.toList = sb.data.toList.take j := by
    rw [ByteArray.data_extract]
    simp
   rw [this, List.map_take]
   rfl
 ·obtain ⟨m, cs, h1, -, h2⟩ := VO (P := P) h hr;refine ⟨m, cs, h1, fun M u hu => ?_⟩;obtain ⟨A, c', us, rfl, g1, g2, g3, g4⟩ := h2 M hu;refine ⟨us, g1, g2, fun _ => rfl, fun j hj => ?_⟩;cases A with
  | none =>
    cases g3 rfl;have : us = [] := List.eq_nil_of_length_eq_zero (by simpa using g2);subst this;rw [List.take_nil];exact run_firstCells_none _ _ _ _ _
  | some a =>
    have hjl : (us.take (j * z)).length = j * z := by
     rw [List.length_take, g2];exact Nat.min_eq_left (Nat.mul_le_mul_right _ hj)
    have := run_loadCells_list (P := P) (w := _) a (us.take (j * z)) (fun i v hi => g4 a rfl i v (by
     rw [List.getElem?_take] at hi
     split at hi
     ·exact hi
     ·cases hi))
    rw [hjl] at this;exact this
theorem M7 {ts : List Nat} (h : TJ P s k as ts = r) (hr : r ≠ .no) : ∃ v s', k v s' = r /\ BL P s .copy as ts v s' := by
 obtain ⟨t, h1, h2⟩ := zt h hr;obtain ⟨z, h3, h4⟩ := zt h2 hr;obtain ⟨v, h5, h6⟩ := zt h4 hr;obtain ⟨w', h7, h8⟩ := zt h6 hr;obtain ⟨p, len, c, rfl, h9⟩ := jt h8 hr;rw [eY] at h9;obtain ⟨n, cs, h10, h11⟩ := NJ (P := P) h9 hr;rw [wC] at h1 h5 h7;obtain ⟨el, i, hu, hi, hsz⟩ := ZJ h3;rw [Gg] at h10
 have pre : ∀ {x : Fx} {B : Mp} {I : As} {w : World}, Ms P x B I s w -> ∀ us : Lv, xk I as us -> ∃ A c' src xs, us[0]? = some (.slice A (QH p len) c') /\ us[1]? = some src /\ Rl I (.slice p len c) (.slice A (QH p len) c') /\ xk I cs xs /\ xs.length = n * z /\
   (∀ w', (Builtin.lenOf src).run P w' = .ok n w') /\ (∀ j, j <= n -> (Builtin.firstCells z j src).run P w = .ok (xs.take (j * z)).toArray w) := fun M us hus => by
  obtain ⟨u0, g1, g2⟩ := hus.nth 0 _ h5;obtain ⟨u1, g3, g4⟩ := hus.nth 1 _ h7;obtain ⟨A, c', rfl⟩ := L6 g2;obtain ⟨xs, g5, g6, g7, g8⟩ := h11 M g4;exact ⟨A, c', u1, xs, g1, g3, g2, g5, g6, g7, g8⟩
 cases hm : Nat.min n (QH p len) with
 | zero =>
   rw [hm] at h10;refine ⟨_, _, h10, fun {x B I w} M us hus => ?_⟩;obtain ⟨A, c', src, xs, g1, g2, g3, g4, g5, g6, g7⟩ := pre M us hus;refine ⟨.int .i64 0, I, w, wm.refl _ _, .int _ _, M, fun ty _ => ?_⟩;have hf := g7 0 (Nat.zero_le _);simp only [Nat.zero_mul, List.take_zero] at hf;cases A with
   | none => simp [builtin, Builtin.copy_, h1, g1, g2, run_underlying hu, g6, sizeOf, typeInfo, hi, hsz, hm, hf, goInt]
   | some a => simp [builtin, Builtin.copy_, h1, g1, g2, run_underlying hu, g6, sizeOf, typeInfo, hi, hsz, hm, hf, goInt, storeCells]
 | succ m =>
   rw [hm] at h10;obtain ⟨a, rfl, h12⟩ := zt h10 hr;obtain ⟨hsp, h13⟩ := Ku h12 hr;obtain ⟨h14, h15⟩ := aD _ _ h13 hr;obtain ⟨s', h16, h17⟩ := fg (P := P) h15 hr;refine ⟨_, s', h16, fun {x B I w} M us hus => ?_⟩;obtain ⟨A, c', src, xs, g1, g2, g3, g4, g5, g6, g7⟩ := pre M us hus;obtain ⟨g, q, y, c'', g8, g9⟩ := VU g3 hsp
   injection g9 with g9 _ _
   subst g9;have hle : m + 1 <= n := by rw [<- hm]; exact Nat.min_le_left _ _
   obtain ⟨k1, k2, k3, k4, k5⟩ := h17 M g8 (g4.take ((m + 1) * z));have hst := run_storeCells_cells (P := P) g (q + a.off) (xs.take ((m + 1) * z)) 0 w (by simpa using k2) (by simpa using k3) k1;simp only [Nat.add_zero] at hst;have hf := g7 (m + 1) hle;refine ⟨.int .i64 ((m + 1 : Nat) : Int), I, _, k5, .int _ _, k4, fun ty _ => ?_⟩
   simp only [builtin, Builtin.copy_, List.getElem?_toArray, h1, g1, g2, Sem.run_bind, run_underlying hu, Result.andThen_ok, g6, sizeOf, typeInfo, run_program, hi, Sem.run_pure, hsz, hm, hf, hst, goInt]
end
end Go.Ev
namespace Go.Ev
open Go.Eng
section
variable {P : Program} {s : St} {r : Rs}
inductive H2 (P : Program) (tx : Nat) (i : TypeInfo) (zv : Value) : Value -> Nat -> Lv -> World -> Prop
 | src {x : Value} {n : Nat} {news : Lv} {w : World} (h : (∀ u ∈ news, u.oneCell' = true) -> Src P i.size tx x n news w) : H2 P tx i zv x n news w
 | zer {d kd : IntKind} {n : Nat} {w : World} (h : P.underlying tx = some (.int d)) (hn : n <= 1048576) : H2 P tx i zv (.int kd (n : Int)) n (List.replicate n zv.cells.toList).flatten w
theorem dJ (zv : Value) (n : Nat) : Builtin.zeroCells zv.cells n = ⟨(List.replicate n zv.cells.toList).flatten⟩ := by
 rw [<- dX];unfold Builtin.zeroCells jc
 apply Array.ext'
 simp
variable {n : Nat}
theorem km (h : n <= 1048576) : IntKind.i64.wrap (n : Int) = n := by rw [IntKind.wrap_i64]; omega
variable {e : Nat} {i : TypeInfo} {news : Lv} {sCap sLen t tx ty : Nat} {w : World} {x zv : Value}
theorem H2.room (h : H2 P tx i zv x n news w) (ht : P.underlying t = some (.slice e)) (hi : P.info? e = some i) (hz : i.zero = some zv) (hzs : zv.cells.size = i.size) (h1 : ∀ u ∈ news, u.oneCell' = true) {b off : Nat} (hb : n * i.bytes <= 140737488355328) (hroom : sLen + n <= sCap) (hc : ∀ j, j < news.length -> (w.cell? ⟨b, off + sLen * i.size + j, none⟩).isSome = true) (hf : ∀ j, j < news.length -> w.frozen? ⟨b, off + sLen * i.size + j, none⟩ = false) :
  (Builtin.append_ #[t, tx] ty #[.slice (some ⟨b, off, none⟩) sLen sCap, x]).run P w = .ok (.slice (some ⟨b, off, none⟩) (sLen + n) sCap) (w.setCells b (off + sLen * i.size) news) := by
 cases h with
 | src h => exact run_append_room_src w t tx ty e i ht hi b off sLen sCap x n news (h h1) hroom hc hf
 | zer h hn =>
   have hst := run_storeCells_cells (P := P) b (off + sLen * i.size) _ 0 w (by simpa using hc) (by simpa using hf) h1;simp only [Nat.add_zero] at hst;have h2 : ¬ ((n : Int) < 0) := by omega
   have h3 : ¬ (281474976710656 < (n : Int) * (i.bytes : Int)) := by
    have : ((n * i.bytes : Nat) : Int) <= 140737488355328 := Int.ofNat_le.2 hb
    push_cast at this; omega
   by_cases h0 : n * i.size = 0
   ·have h4 : (List.replicate n zv.cells.toList).flatten = [] := by
     apply List.eq_nil_of_length_eq_zero
     rw [fj, Array.length_toList, hzs]; exact h0
    rw [h4] at hst ⊢
    simp [Builtin.append_, run_underlying ht, run_underlying h, sizeOf, typeInfo, hi, asInt, asIntOf, km hn, h2, h3, hroom, h0, Addr.add_lit, hst]
   ·simp [Builtin.append_, run_underlying ht, run_underlying h, sizeOf, typeInfo, hi, asInt, asIntOf, km hn, h2, h3, hroom, h0, zeroValue, hz, dJ, Addr.add_lit, hst]
theorem H2.len (h : H2 P tx i zv x n news w) (hzs : zv.cells.size = i.size) (h1 : ∀ u ∈ news, u.oneCell' = true) : news.length = n * i.size := by
 cases h with
 | src h => exact (h h1).newsLen
 | zer h hn => rw [fj, Array.length_toList, hzs]
variable {A : Oa}
theorem H2.none (h : H2 P tx i zv x 0 news w) (ht : P.underlying t = some (.slice e)) (hi : P.info? e = some i) (hzs : zv.cells.size = i.size) (h1 : ∀ u ∈ news, u.oneCell' = true) (hroom : sLen <= sCap) : (Builtin.append_ #[t, tx] ty #[.slice A sLen sCap, x]).run P w = .ok (.slice A sLen sCap) w := by
 have hl := h.len hzs h1;rw [Nat.zero_mul] at hl;have hnil := List.eq_nil_of_length_eq_zero hl;cases h with
 | src h =>
   have hs := h h1;have hc := hs.cells;rw [hnil] at hc;rcases hs.kind with ⟨e', hk⟩ | hk <;> cases A <;> simp [Builtin.append_, run_underlying ht, run_underlying hk, sizeOf, typeInfo, hi, hs.len, hroom, hc, storeCells]
 | zer h hn =>
   cases A <;> simp [Builtin.append_, run_underlying ht, run_underlying h, sizeOf, typeInfo, hi, asInt, asIntOf, IntKind.wrap_i64, hroom, storeCells]
theorem H2.grow (h : H2 P tx i zv x n news w) (ht : P.underlying t = some (.slice e)) (hi : P.info? e = some i) (hz : i.zero = some zv) (hzs : zv.cells.size = i.size) (h1 : ∀ u ∈ news, u.oneCell' = true) {olds : Lv} (hold : (Builtin.firstCells i.size sLen (.slice A sLen sCap)).run P w.drew = .ok olds.toArray w.drew) (hg : sCap < sLen + n) (hm : sLen + n <= 1048576) (hb : (sLen + n) * i.bytes <= 140737488355328) :
  (Builtin.append_ #[t, tx] ty #[.slice A sLen sCap, x]).run P w = .ok (.slice (some ⟨w.heap.size, 0, .none⟩) (sLen + n) (grownCap w (sLen + n) sCap e))
    (w.drew.alloc (.cells ((olds ++ news).toArray ++ Builtin.zeroCells zv.cells (grownCap w (sLen + n) sCap e - (sLen + n))) e)) := by
 have hfit := growslice_fits hg hb;cases h with
 | src h => exact run_append_grow_src w t tx ty e i zv ht hi hz A sLen sCap olds hold x n news (h h1) hg (by omega) hfit
 | zer h hn =>
   have h2 : ¬ ((n : Int) < 0) := by omega
   have hnb : n * i.bytes <= 140737488355328 := Nat.le_trans (Nat.mul_le_mul_right _ (Nat.le_add_left _ _)) hb
   have h3 : ¬ (281474976710656 < (n : Int) * (i.bytes : Int)) := by
    have : ((n * i.bytes : Nat) : Int) <= 140737488355328 := Int.ofNat_le.2 hnb
    push_cast at this; omega
   have h4 : ¬ (sLen + n <= sCap) := by omega
   have h63' : ¬ (9223372036854775807 < ((sLen : Int) + (n : Int))) := by omega
   have h48' : ¬ (281474976710656 < Builtin.nextslicecap (sLen + n) sCap * i.bytes) := by omega
   by_cases h0 : n * i.size = 0
   ·have h5 : (List.replicate n zv.cells.toList).flatten = [] := by
     apply List.eq_nil_of_length_eq_zero
     rw [fj, Array.length_toList, hzs]; exact h0
    rw [h5]
    simp [Builtin.append_, run_underlying ht, run_underlying h, sizeOf, typeInfo, zeroValue, hi, hz, asInt, asIntOf, km hn, h2, h3, h4, h63', h48', h0, Question.forced, hold, newRow, grownCap]
   ·simp [Builtin.append_, run_underlying ht, run_underlying h, sizeOf, typeInfo, zeroValue, hi, hz, asInt, asIntOf, km hn, h2, h3, h4, h63', h48', h0, Question.forced, hold, newRow, grownCap, dJ]
theorem Ob {t1 z : Nat} {v : Value} {zs : Lv} {k : Nat -> Lv -> Rs} (h : Ff P s t1 z v zs k = r) (hr : r ≠ .no) (hzs : aQ zs = true) (hzl : zs.length = z) : ∃ n cs, k n cs = r /\ cs.length = n * z /\ ∀ {x : Fx} {B : Mp} {I : As} {w : World}, Ms P x B I s w -> ∀ {u : Value}, Rl I v u -> ∀ {i : TypeInfo} {zv : Value}, i.size = z -> zv.cells = zs.toArray ->
  ∃ us, xk I cs us /\ H2 P t1 i zv u n us w := by
 rcases yC h hr with ⟨_, rfl, h⟩ | ⟨kd, i, rfl, h⟩ | ⟨sb, rfl, h⟩ | ⟨p, rfl, h⟩ | ⟨p, n, c, rfl, h⟩ | ⟨_, rfl, h⟩ | ⟨fn, a, c, rfl, h⟩ | ⟨rfl, h⟩ | ⟨d, x, rfl, h⟩ | ⟨rfl, h⟩ | ⟨⟨cs⟩, rfl, h⟩ | ⟨_, rfl, h⟩ <;> first | exact absurd h.symm hr | skip
 ·obtain ⟨h1, h2⟩ := zl h hr;obtain ⟨n, rfl, h3⟩ := v8 h2 hr;obtain ⟨h4, h5⟩ := zl h3 hr;rw [cn] at h5;obtain ⟨d, hd⟩ := gQ h1;refine ⟨n, _, h5, by rw [fj, hzl], fun M u hu i zv hi hz => ⟨_, aJ hzs n, ?_⟩⟩;cases hu;have : zs = zv.cells.toList := by rw [hz]
  rw [this];exact .zer hd (yq h4)
 ·obtain ⟨h1, h2⟩ := zl h hr;obtain ⟨h3, h4⟩ := zl h2 hr;cases Nat.eq_of_beq_eq_true h3;rw [fE, yO, List.length_map] at h4;refine ⟨_, _, h4, by simp, fun M u hu i zv hi hz => ⟨_, eD _, ?_⟩⟩;cases hu;refine .src fun _ => ?_;rw [hi];exact Src.ofString _ (aE h1) sb
 ·obtain ⟨h1, h2⟩ := zl h hr;obtain ⟨m, cs, h3, hml, h4⟩ := VO (P := P) h2 hr;obtain ⟨el, he⟩ := j0 h1;refine ⟨m, cs, h3, hml, fun M u hu i zv hi hz => ?_⟩;obtain ⟨A, c', us, rfl, g1, g2, g3, g4⟩ := h4 M hu;refine ⟨us, g1, .src fun hone => ?_⟩;subst hi;cases A with
  | none =>
    cases g3 rfl;have : us = [] := List.eq_nil_of_length_eq_zero (by simpa using g2);subst this;exact Src.ofNil _ he c'
  | some a => exact Src.ofSlice _ he a m c' us g2 (g4 a rfl) hone
end
end Go.Ev
namespace Go.Ev
open Go.Eng
variable {H : Mp} {I : As} {K : Mp} {P : Program} {i : Nat} {x : Nat × Nat × Option Nat}
theorem bW.move {J : As} {o : AO} (h : bW P I H i o) (hx : I i = some x) (hk : ∀ ob, H x.1 = some ob -> K x.1 = some ob) (e : dp I J) : bW P J K i o := by
 cases o with
 | cel xs t => obtain ⟨g, us, fz, h1, h2, h3, h4⟩ := h; rw [hx] at h1; cases h1; exact ⟨g, us, fz, e _ _ hx, hk _ h2, h3.ext e, h4⟩
 | opn xs t => obtain ⟨g, q, r, z, cur, fz, h1, h2, h3, h4, h5, h6, h7⟩ := h; rw [hx] at h1; cases h1; exact ⟨g, q, r, z, cur, fz, e _ _ hx, hk _ h2, h3, h4, h5, h6.ext e, h7⟩
 | mp es c => obtain ⟨g, es', h1, h2, h3⟩ := h; rw [hx] at h1; cases h1; exact ⟨g, es', e _ _ hx, hk _ h2, h3.ext e⟩
variable {B : Mp} {s s' : St}
theorem HR.take {I : As} {g q : Nat} {c : Option Nat} {ao : AO} (h : HR P I B s H) (hi : I i = none) (hg : ∀ j o x, get s.h j = some o -> I j = some x -> x.1 ≠ g) (hB : B g = none) (hK : ∀ j, j ≠ g -> ∀ ob, H j = some ob -> K j = some ob) (ho : bW P (upd I i (g, q, c)) K i ao) (hs : ∀ j o, get s'.h j = some o -> (j = i /\ o = ao) \/ (j ≠ i /\ get s.h j = some o)) (hn : ∀ j, s'.nx <= j -> j ≠ i /\ s.nx <= j) : HR P (upd I i (g, q, c)) B s' K := by
 have ext := u5 (I := I) (g, q, c) hi
 constructor
 ·intro j o x hj hx;rcases hs j o hj with ⟨rfl, rfl⟩ | ⟨hne, hj'⟩
  ·exact ho
  ·rw [xo _ hne] at hx;exact (h.obj j o x hj' hx).move hx (hK _ (hg j o x hj' hx)) ext
 ·intro j k o o' x y hj hk hx hy hxy;rcases hs j o hj with ⟨rfl, rfl⟩ | ⟨hne, hj'⟩ <;> rcases hs k o' hk with ⟨rfl, rfl⟩ | ⟨hne', hk'⟩
  ·rfl
  ·rw [yD] at hx; cases hx;rw [xo _ hne'] at hy;exact absurd hxy.symm (hg k o' y hk' hy)
  ·rw [yD] at hy; cases hy;rw [xo _ hne] at hx;exact absurd hxy (hg j o x hj' hx)
  ·rw [xo _ hne] at hx;rw [xo _ hne'] at hy;exact h.sep j k o o' x y hj' hk' hx hy hxy
 ·intro j hj;obtain ⟨h1, h2⟩ := hn j hj;rw [xo _ h1]; exact h.new j h2
 ·intro j o x hj hx;rcases hs j o hj with ⟨rfl, rfl⟩ | ⟨hne, hj'⟩
  ·rw [yD] at hx; cases hx; exact hB
  ·rw [xo _ hne] at hx;exact h.out j o x hj' hx
 ·exact fun b ob hb => hK b (fun e => by rw [e, hB] at hb; cases hb) ob (h.base b ob hb)
 ·intro j hj;obtain ⟨h1, h2⟩ := hn j hj;cases hg : get s'.h j with
  | none => rfl
  | some o =>
    rcases hs j o hg with ⟨e, -⟩ | ⟨-, h3⟩
    ·exact absurd e h1
    ·rw [h.fre j h2] at h3; cases h3
theorem wm.new (c : Nat × Nat × Option Nat) (hI : I s.nx = none) (hn : s'.nx = s.nx + 1) (h : ∀ m, m ≠ s.nx -> get s'.h m = get s.h m) : wm I s (upd I s.nx c) s' :=
 ⟨u5 c hI, fun j hj => xo c (by omega), fun j hj _ => h j (by omega), by omega⟩
theorem wm.del (hx : I i = some x) (hn : s'.nx = s.nx) (h : ∀ m, m ≠ i -> get s'.h m = get s.h m) : wm I s I s' := wm.set hx hn h
theorem Ms.gl_upd {x : Fx} {w : World} (M : Ms P x B I s w) (c : Nat × Nat × Option Nat) : ∀ g, g < gN -> upd I s.nx c g = some (g, 0, none) := fun g hg => by
 rw [xo c fun e => by have := M.gl g hg; rw [e, M.hp.new _ (Nat.le_refl _)] at this; cases this];exact M.gl g hg
section
variable {P : Program} {s : St} {r : Rs}
variable {cs : Lv} {k : KS} {n : Nat}
theorem kL {el : Nat} (h : gU s k el n cs = r) : ∃ s', k (.slice (some ⟨s.nx, 0, none⟩) n 0) s' = r /\ s'.nx = s.nx + 1 /\ (∀ m, m ≠ s.nx -> get s'.h m = get s.h m) /\ ∀ u, get s'.h s.nx = some u -> .opn cs el = u := qQ h
variable {s' : St}
theorem j5 {ao : AO} (h1 : ∀ m, m ≠ s.nx -> get s'.h m = get s.h m) (h2 : ∀ u, get s'.h s.nx = some u -> ao = u) : ∀ j o, get s'.h j = some o -> (j = s.nx /\ o = ao) \/ (j ≠ s.nx /\ get s.h j = some o) := fun j o hj => by
 by_cases e : j = s.nx
 ·subst e; exact .inl ⟨rfl, (h2 o hj).symm⟩
 ·exact .inr ⟨e, by rw [<- h1 j e]; exact hj⟩
theorem aT (h : s'.nx = s.nx + 1) : ∀ j, s'.nx <= j -> j ≠ s.nx /\ s.nx <= j := fun j hj => by omega
variable {c : Nat} {xs : Lv}
theorem cU {x : Fx} {B : Mp} {I : As} {w : World} (M : Ms P x B I s w) {el sz need : Nat} {zv : Value} (hel : aA P el = some sz) (hzs : zv.cells.size = sz) {us : Lv} (hx : xk I xs us) (hl : us.length = need * sz) (hc : need <= c) (hcm : c <= maxLen) (hn : s'.nx = s.nx + 1) (h1 : ∀ m, m ≠ s.nx -> get s'.h m = get s.h m) (h2 : ∀ u, get s'.h s.nx = some u -> .opn xs el = u) :
  wm I s (upd I s.nx (w.heap.size, 0, some c)) s' /\ Rl (upd I s.nx (w.heap.size, 0, some c)) (.slice (some ⟨s.nx, 0, none⟩) need 0) (.slice (some ⟨w.heap.size, 0, none⟩) need c) /\
   Ms P x B (upd I s.nx (w.heap.size, 0, some c)) s' (w.drew.alloc (.cells (us.toArray ++ Builtin.zeroCells zv.cells (c - need)) el)) := by
 have hI := M.hp.new s.nx (Nat.le_refl _);have ext := u5 (I := I) (w.heap.size, 0, some c) hI;refine ⟨wm.new _ hI hn h1, .slo (yD _ _ _) (by omega), M.gl_upd _, ?_, ?_⟩
 ·conv => lhs; rw [M.wd]
  rfl
 ·show HR P _ B s' (mp (w.heap.push (.cells (us.toArray ++ Builtin.zeroCells zv.cells (c - need)) el)));refine M.hp.add hI (u6 _) (vT _ _) ?_ (j5 h1 h2) (aT hn);refine ⟨w.heap.size, 0, c, sz, (us.toArray ++ Builtin.zeroCells zv.cells (c - need)).toList, (0, 0), yD _ _ _, xc _ _, hel, ?_, hcm, ?_, Fz.nil _⟩
  ·rw [Array.length_toList, Array.size_append, size_zeroCells, hzs, List.size_toArray, hl, <- Nat.add_mul, Nat.zero_add]
   congr 1; omega
  ·rw [List.drop_zero, Array.toList_append, hx.len, List.take_left' (by simp)];exact hx.ext ext
def ApO (P : Program) (s : St) (t t1 : Nat) (i : TypeInfo) (zv : Value) (p : Oa) (len c n : Nat) (cs : Lv) (v : Value) (s' : St) : Prop :=
 ∀ {x : Fx} {B : Mp} {I : As} {w : World}, Ms P x B I s w -> ∀ {u x2 : Value} {news : Lv}, Rl I (.slice p len c) u -> xk I cs news -> H2 P t1 i zv x2 n news w -> (∀ y ∈ news, y.oneCell' = true) ->
  ∃ u' J w', wm I s J s' /\ Rl J v u' /\ Ms P x B J s' w' /\ ∀ ty, (Builtin.append_ #[t, t1] ty #[u, x2]).run P w = .ok u' w'
variable {t t1 el : Nat} {i : TypeInfo} {zv : Value} (ht : P.underlying t = some (.slice el)) (hi : P.info? el = some i) (hz : i.zero = some zv) (hzs : zv.cells.size = i.size)
include ht hi hz hzs
variable {a : Addr} {len : Nat}
theorem WZ (hb : (len + n) * i.bytes <= 140737488355328) (h : J7 s k i.size a len c n cs = r) (hr : r ≠ .no) (room : ∀ {x : Fx} {B : Mp} {I : As} {w : World}, Ms P x B I s w -> ∀ {u : Value}, Rl I (.slice (some a) len c) u -> ∃ g q y c', I a.block = some (g, q, y) /\ u = .slice (some ⟨g, q + a.off, none⟩) len c' /\ len + n <= c' /\ Rl I (.slice (some a) (len + n) c) (.slice (some ⟨g, q + a.off, none⟩) (len + n) c')) :
  ∃ v s', k v s' = r /\ ApO P s t t1 i zv (some a) len c n cs v s' := by
 obtain ⟨s', h1, h2⟩ := fg (P := P) h hr;rw [Gg] at h1;refine ⟨_, s', h1, fun {x B I w} M u x2 news hu hcs hap hone => ?_⟩;obtain ⟨g, q, y, c', g1, rfl, g2, g3⟩ := room M hu;obtain ⟨k1, k2, k3, k4, k5⟩ := h2 M g1 hcs;have e1 : q + (a.off + len * i.size) = q + a.off + len * i.size := by omega
 simp only [Nat.add_eq, Nat.mul_eq, e1] at k2 k3 k4;refine ⟨_, I, _, k5, g3, k4, fun ty => hap.room ht hi hz hzs hone ?_ g2 k2 k3⟩;exact Nat.le_trans (Nat.mul_le_mul_right _ (Nat.le_add_left _ _)) hb
theorem Qj {o : AO} (ho : get s.h a.block = some o) (hk : Na o = some xs) (hm : len + n <= 1048576) (hb : (len + n) * i.bytes <= 140737488355328) (hlc : cs.length = n * i.size) (h : Qk s k i.size el a xs len n cs = r) (hr : r ≠ .no) (room : ∀ {x : Fx} {B : Mp} {I : As} {w : World}, Ms P x B I s w -> ∀ {u : Value}, Rl I (.slice (some a) len c) u -> ∃ g q y c', I a.block = some (g, q, y) /\ u = .slice (some ⟨g, q + a.off, none⟩) len c' /\ c' < len + n) :
  ∃ v s', k v s' = r /\ ApO P s t t1 i zv (some a) len c n cs v s' := by
 obtain ⟨h1, h2⟩ := qh h hr;rw [qJ, Gg] at h2;obtain ⟨s', h3, h4, h5, h6⟩ := kL h2;refine ⟨_, s', h3, fun {x B I w} M u x2 news hu hcs hap hone => ?_⟩;obtain ⟨g, q, y, c', g1, rfl, g2⟩ := room M hu;obtain ⟨us, g3, g4⟩ := fk M.mt0 ho hk h1 g1;have hul : us.length = len * i.size := by rw [<- g3.len, List.length_take, List.length_drop]; simp only [Nat.mul_eq] at h1 ⊢; omega
 have hold : (Builtin.firstCells i.size len (.slice (some ⟨g, q + a.off, none⟩) len c')).run P w.drew = .ok us.toArray w.drew :=
  run_firstCells_some w.drew i.size len _ len c' us hul fun j v hj => by rw [Addr.add_lit]; exact g4 j v hj
 have hge := grownCap_ge w (len + n) c' el;have hcm := grownCap_le_maxLen w (len + n) c' el (by simp only [maxLen]; omega);have hel : aA P el = some i.size := by simp [aA, hi]
 have hnl : (us ++ news).length = (len + n) * i.size := by rw [List.length_append, hul, <- hcs.len, hlc, Nat.add_mul]
 obtain ⟨k1, k2, k3⟩ := cU M hel hzs (g3.app hcs) hnl hge hcm h4 h5 h6;exact ⟨_, _, _, k1, k2, k3, fun ty => hap.grow ht hi hz hzs hone hold g2 hm hb⟩
omit ht hi hz hzs in
theorem Zw {x : Fx} {B : Mp} {I : As} {w : World} (M : Ms P x B I s w) {b : Nat} {g q rr z off len n rm : Nat} {xs old cs us : Lv} (ho : get s.h b = some (.opn xs el)) (hb : I b = some (g, q, some rr)) (hz' : aA P el = some z) (hoff : off + rm * z = rr * z) (hrm : rm <= rr)
  (hold : xk I old us) {cur : Lv} {fz : Nat × Nat} (hg : mp w.heap g = some (.cells ⟨cur⟩ el fz)) (hcl : cur.length = q + rr * z) (hus : us = (cur.drop (q + off)).take (len * z)) (hul : us.length = len * z) {news : Lv} (hcs : xk I cs news) (hnl : news.length = n * z) (hroom : len + n <= rm) (hrr : rr <= maxLen) (hfz : Fz fz cur.length)
  {s1 s' : St} (d1 : s1.nx = s.nx) (d2 : ∀ m, m ≠ b -> get s1.h m = get s.h m) (d3 : ∀ u, get s1.h b ≠ some u)
  (hn : s'.nx = s1.nx + 1) (h1 : ∀ m, m ≠ s1.nx -> get s'.h m = get s1.h m) (h2 : ∀ u, get s'.h s1.nx = some u -> .opn (old ++ cs) el = u) :
  wm I s (upd I s1.nx (g, q + off, some rm)) s' /\ Rl (upd I s1.nx (g, q + off, some rm)) (.slice (some ⟨s1.nx, 0, none⟩) (len + n) 0) (.slice (some ⟨g, q + off, none⟩) (len + n) rm) /\
   Ms P x B (upd I s1.nx (g, q + off, some rm)) s' (w.setCells g (q + off + len * z) news) := by
 have hd := M.hp.del d2 d3 (Nat.le_of_eq d1.symm);have hI : I s1.nx = none := by rw [d1]; exact M.hp.new s.nx (Nat.le_refl _)
 have ext := u5 (I := I) (g, q + off, some rm) hI;have hle : (len + n) * z <= rm * z := Nat.mul_le_mul_right _ hroom;rw [Nat.add_mul] at hle;obtain ⟨m1, m2⟩ := jA g news (q + off + len * z) w cur el fz hg (by rw [hnl]; omega);refine ⟨(wm.del hb d1 d2).trans (wm.new _ hI hn h1), .slo (yD _ _ _) (by omega), ?_, (jz g news _ w M.wd).1, ?_⟩
 ·intro g' hg';have := M.gl_upd (g, q + off, some rm) g' hg';rw [<- d1] at this;exact this
 ·have hBg : B g = none := M.hp.out b _ _ ho hb;refine hd.take hI (fun j o y hj hy e => ?_) hBg (fun j hj ob hob => (m2 j hj).trans hob) ?_ (j5 h1 h2) (aT hn)
  ·have hjb : j ≠ b := fun e1 => d3 o (by rw [<- e1]; exact hj);exact hjb (M.hp.sep j b o _ y _ (by rw [<- d2 j hjb]; exact hj) ho hy hb e)
  ·refine ⟨g, q + off, rm, z, _, fz, yD _ _ _, m1, hz', ?_, by omega, ?_, ?_⟩
   ·rw [fp _ _ _ (by rw [hnl]; omega)]; omega
   ·have e1 : (cur.take (q + off + len * z) ++ news ++ cur.drop (q + off + len * z + news.length)).drop (q + off) = us ++ news ++ cur.drop (q + off + len * z + news.length) := by
     rw [List.append_assoc, List.drop_append_of_le_length (by rw [List.length_take]; omega), List.drop_take, <- List.append_assoc]
     congr 2
     rw [hus]; congr 1; omega
    rw [e1];have e2 : (old ++ cs).length = (us ++ news).length := by rw [List.length_append, List.length_append, hold.len, hcs.len]
    rw [e2, List.take_left']
    ·exact (hold.app hcs).ext ext
    ·rfl
   ·rw [fp _ _ _ (by rw [hnl]; omega)]; exact hfz
end
end Go.Ev
namespace Go.Ev
open Go.Eng
section
variable {P : Program} {s : St} {r : Rs}
section
variable {t t1 el : Nat} {i : TypeInfo} {zv : Value} (ht : P.underlying t = some (.slice el)) (hi : P.info? el = some i) (hz : i.zero = some zv) (hzs : zv.cells.size = i.size)
include ht hi hz hzs
variable {ao b c : Nat} {cs : Lv} {k : KS} {len n : Nat} {xs : Lv}
theorem Oc (ho : get s.h b = some (.opn xs el)) (hoff : ao = c * i.size) (hm : len + n <= 1048576) (hb : (len + n) * i.bytes <= 140737488355328) (hlc : cs.length = n * i.size) (h : Od s k i.size el ⟨b, ao, none⟩ xs len n cs = r) (hr : r ≠ .no) :
  ∃ v s', k v s' = r /\ ApO P s t t1 i zv (some ⟨b, ao, none⟩) len c n cs v s' := by
 obtain ⟨h1, h2⟩ := qh h hr;rw [qJ] at h2;obtain ⟨s1, h3, d1, d2, d3⟩ := YI h2;rw [Gg] at h3;obtain ⟨s', h4, h5, h6, h7⟩ := kL h3;refine ⟨_, s', h4, fun {x B I w} M u x2 news hu hcs hap hone => ?_⟩;have hel : aA P el = some i.size := by simp [aA, hi]
 simp only [Nat.mul_eq] at h1;cases hu with
 | sl k1 _ => obtain ⟨_, _, _, _, _, _, k2, _⟩ := M.hp.obj _ _ _ ho k1; rw [k2] at k1; cases k1
 | @slo _ _ g q _ _ rr k1 k2 =>
   obtain ⟨g', q', rr', z', cur, fz, k3, k4, k5, k6, k7, k8, k9⟩ := M.hp.obj _ _ _ ho k1;rw [k1] at k3; cases k3;rw [hel] at k5; cases k5;have hxl := k8.len;rw [List.length_take, List.length_drop] at hxl;obtain ⟨us, g3, g4⟩ := fk M.mt0 ho rfl h1 k1;have hul : us.length = len * i.size := by rw [<- g3.len, List.length_take, List.length_drop]; omega
   by_cases hroom : len + n <= rr - c
   ·have hold : us = (cur.drop (q + ao)).take (len * i.size) := by
     apply List.ext_getElem?
     intro j;by_cases hj : j < us.length
     ·have := g4 j _ (List.getElem?_eq_getElem hj);have k4' : w.heap[g]? = some (.cells ⟨cur⟩ el fz) := k4;rw [List.getElem?_eq_getElem hj, List.getElem?_take, if_pos (by omega), List.getElem?_drop];rw [<- this]
      simp [World.cell?, k4']
     ·rw [List.getElem?_eq_none (by omega), List.getElem?_eq_none (by rw [List.length_take]; omega)]
    have hnl : news.length = n * i.size := by rw [<- hcs.len, hlc]
    have e0 : ao + (rr - c) * i.size = rr * i.size := by rw [hoff, <- Nat.add_mul]; congr 1; omega
    obtain ⟨j1, j2, j3⟩ := Zw (P := P) M ho k1 hel e0 (by omega) g3 k4 k6 hold hul hcs hnl hroom k7 k9 d1 d2 d3 h5 h6 h7;refine ⟨_, _, _, j1, j2, j3, fun ty => ?_⟩
    obtain ⟨m1, m2⟩ : (∀ j, j < news.length -> (w.cell? ⟨g, q + ao + len * i.size + j, none⟩).isSome = true) /\ (∀ j, j < news.length -> w.frozen? ⟨g, q + ao + len * i.size + j, none⟩ = false) := by
     have hle : (len + n) * i.size <= (rr - c) * i.size := Nat.mul_le_mul_right _ hroom;rw [Nat.add_mul] at hle;exact ⟨fun j hj => dA k4 (by simp; omega), fun j hj => WE k4 (by simpa using k9) (by simp; omega)⟩
    exact hap.room ht hi hz hzs hone (Nat.le_trans (Nat.mul_le_mul_right _ (Nat.le_add_left _ _)) hb) hroom m1 m2
   ·have hold : (Builtin.firstCells i.size len (.slice (some ⟨g, q + ao, none⟩) len (rr - c))).run P w.drew = .ok us.toArray w.drew :=
     run_firstCells_some w.drew i.size len _ len _ us hul fun j v hj => by rw [Addr.add_lit]; exact g4 j v hj
    have hge := grownCap_ge w (len + n) (rr - c) el;have hcm := grownCap_le_maxLen w (len + n) (rr - c) el (by simp only [maxLen]; omega);have hnl : (us ++ news).length = (len + n) * i.size := by rw [List.length_append, hul, <- hcs.len, hlc, Nat.add_mul]
    have M1 : Ms P x B I s1 w := ⟨M.gl, M.wd, M.hp.del d2 d3 (Nat.le_of_eq d1.symm)⟩;obtain ⟨j1, j2, j3⟩ := cU M1 hel hzs (g3.app hcs) hnl hge hcm h5 h6 h7;exact ⟨_, _, _, (wm.del k1 d1 d2).trans j1, j2, j3, fun ty => hap.grow ht hi hz hzs hone hold (by omega) hm hb⟩
theorem Oe {l : Nat} (ho : get s.h b = some (.opn xs el)) (hoff : ao = c * i.size) (hm : n <= 1048576) (hn0 : n ≠ 0) (hb : n * i.bytes <= 140737488355328) (hlc : cs.length = n * i.size) (h : (VN s b fun s => gU s k el n cs) = r) :
  ∃ v s', k v s' = r /\ ApO P s t t1 i zv (some ⟨b, ao, some (l + 1)⟩) i.size c n cs v s' := by
 obtain ⟨s1, h3, d1, d2, d3⟩ := YI h;obtain ⟨s', h4, h5, h6, h7⟩ := kL h3;refine ⟨_, s', h4, fun {x B I w} M u x2 news hu hcs hap hone => ?_⟩;have hel : aA P el = some i.size := by simp [aA, hi]
 have hnl : news.length = n * i.size := by rw [<- hcs.len, hlc]
 cases hu with
 | @sla _ _ g q _ _ _ rr k1 k2 =>
   obtain ⟨g', q', rr', z', cur, fz, k3, k4, k5, k6, k7, k8, k9⟩ := M.hp.obj _ _ _ ho k1;rw [k1] at k3; cases k3;rw [hel] at k5; cases k5;by_cases hroom : n <= rr - c - l
   ·rw [if_neg (by omega)];have e0 : ao + l * i.size + (rr - c - l) * i.size = rr * i.size := by rw [hoff, <- Nat.add_mul, <- Nat.add_mul]; congr 1; omega
    obtain ⟨j1, j2, j3⟩ := Zw (P := P) (len := 0) (old := []) (us := []) M ho k1 hel e0 (by omega) .nil k4 k6 (by simp) (by simp) hcs hnl (by omega) k7 k9 d1 d2 d3 h5 h6 (by simpa using h7);refine ⟨_, _, _, j1, by simpa using j2, j3, fun ty => ?_⟩
    obtain ⟨m1, m2⟩ : (∀ j, j < news.length -> (w.cell? ⟨g, q + (ao + l * i.size) + 0 * i.size + j, none⟩).isSome = true) /\ (∀ j, j < news.length -> w.frozen? ⟨g, q + (ao + l * i.size) + 0 * i.size + j, none⟩ = false) := by
     have hle : n * i.size <= (rr - c - l) * i.size := Nat.mul_le_mul_right _ hroom;exact ⟨fun j hj => dA k4 (by simp; omega), fun j hj => WE k4 (by simpa using k9) (by simp; omega)⟩
    have := hap.room ht hi hz hzs hone (ty := ty) (sLen := 0) (sCap := rr - c - l) (by omega) (by omega) m1 m2
    simpa using this
   ·have hge := grownCap_ge w n (rr - c - l) el;have hcm := grownCap_le_maxLen w n (rr - c - l) el (by simp only [maxLen]; omega);have M1 : Ms P x B I s1 w := ⟨M.gl, M.wd, M.hp.del d2 d3 (Nat.le_of_eq d1.symm)⟩;obtain ⟨j1, j2, j3⟩ := cU M1 hel hzs hcs hnl hge hcm h5 h6 h7;refine ⟨_, _, _, (wm.del k1 d1 d2).trans j1, j2, j3, fun ty => ?_⟩
    have hold : (Builtin.firstCells i.size 0 (.slice (some ⟨g, q + (if rr - c = l then ao else ao + l * i.size), none⟩) 0 (rr - c - l))).run P w.drew = .ok ([] : Lv).toArray w.drew :=
     run_firstCells_some w.drew i.size 0 _ 0 _ [] (by simp) fun j v hj => by cases hj
    have := hap.grow ht hi hz hzs hone (ty := ty) hold (by omega) (by omega) (by simpa using hb)
    simpa using this
theorem SB {p : Oa} (hm : len + n <= 1048576) (hn0 : n ≠ 0) (hb : (len + n) * i.bytes <= 140737488355328) (hlc : cs.length = n * i.size) (h : Dw s k i.size el p len c n cs = r) (hr : r ≠ .no) :
  ∃ v s', k v s' = r /\ ApO P s t t1 i zv p len c n cs v s' := by
 have hel : aA P el = some i.size := by simp [aA, hi]
 cases p with
 | none =>
   obtain ⟨s', h4, h5, h6, h7⟩ := kL (show gU s k el n cs = r from h);refine ⟨_, s', h4, fun {x B I w} M u x2 news hu hcs hap hone => ?_⟩;cases hu;have hge := grownCap_ge w n 0 el;have hcm := grownCap_le_maxLen w n 0 el (by simp only [maxLen]; omega);obtain ⟨j1, j2, j3⟩ := cU M hel hzs hcs (by rw [<- hcs.len, hlc]) hge hcm h5 h6 h7;refine ⟨_, _, _, j1, j2, j3, fun ty => ?_⟩
   have hold : (Builtin.firstCells i.size 0 (.slice none 0 0)).run P w.drew = .ok ([] : Lv).toArray w.drew := run_firstCells_none _ _ _ _ _;have := hap.grow ht hi hz hzs hone (ty := ty) hold (by omega) (by omega) hb
   simpa using this
 | some a =>
   obtain ⟨o, h1, h2⟩ := zt (show (oB (get s.h a.block) fun o => _) = r from h) hr;cases o with
   | mp _ _ => exact absurd h2.symm hr
   | cel xs te =>
     replace h2 : Bool.rec (motive := fun _ => Rs) (Qk s k i.size el a xs len n cs) (J7 s k i.size a len c n cs) (Nat.ble (Nat.add len n) c) = r := h2
     have sp : ∀ {x : Fx} {B : Mp} {I : As} {w : World}, Ms P x B I s w -> ∀ {u : Value}, Rl I (.slice (some a) len c) u -> ∃ g, I a.block = some (g, 0, none) /\ u = .slice (some ⟨g, 0 + a.off, none⟩) len c /\ len <= c /\ ∀ m, m <= c -> Rl I (.slice (some a) m c) (.slice (some ⟨g, 0 + a.off, none⟩) m c) := fun M u hu => by
      cases hu with
      | sl k1 k2 =>
        obtain ⟨g, us, fz, k3, -⟩ := M.hp.obj _ _ _ h1 k1;rw [k1] at k3; cases k3;exact ⟨_, k1, rfl, k2, fun m hm => .sl k1 hm⟩
      | slo k1 _ => obtain ⟨g, us, fz, k3, -⟩ := M.hp.obj _ _ _ h1 k1; rw [k1] at k3; cases k3
      | slk k1 _ => obtain ⟨g, us, fz, k3, -⟩ := M.hp.obj _ _ _ h1 k1; rw [k1] at k3; cases k3
      | sla k1 _ => obtain ⟨g, us, fz, k3, -⟩ := M.hp.obj _ _ _ h1 k1; rw [k1] at k3; cases k3
     cases hbl : Nat.ble (Nat.add len n) c with
     | true =>
       rw [hbl] at h2;have hbl := yq hbl;refine WZ ht hi hz hzs hb h2 hr fun M u hu => ?_;obtain ⟨g, g1, g2, g3, g4⟩ := sp M hu;exact ⟨g, 0, none, c, g1, g2, hbl, g4 _ hbl⟩
     | false =>
       rw [hbl] at h2;have hbl : ¬ len + n <= c := fun hle => by have := Nat.ble_eq_true_of_le hle; rw [show Nat.ble (len + n) c = Nat.ble (Nat.add len n) c from rfl, hbl] at this; cases this
       refine Qj ht hi hz hzs h1 rfl hm hb hlc h2 hr fun M u hu => ?_;obtain ⟨g, g1, g2, g3, g4⟩ := sp M hu;exact ⟨g, 0, none, c, g1, g2, by omega⟩
   | opn xs te =>
     obtain ⟨b, ao, asp⟩ := a;cases asp with
     | none =>
       obtain ⟨h3, h4⟩ := zl (show bB (Nat.beq ao (Nat.mul c i.size)) (bB (Nat.beq te el) (bB (Nat.ble 1 i.size) (Bool.rec (motive := fun _ => Rs) (Od s k i.size el ⟨b, ao, none⟩ xs len n cs) (J7 s k i.size ⟨b, ao, none⟩ len c n cs) (Nat.ble (Nat.mul (Nat.add c (Nat.add len n)) i.size) (ve xs))))) = r from h2) hr;obtain ⟨h5, h6⟩ := zl h4 hr;obtain ⟨h7, h8⟩ := zl h6 hr
       have hoff := Nat.eq_of_beq_eq_true h3;cases Nat.eq_of_beq_eq_true h5;have hz1 := yq h7;cases hbl : Nat.ble (Nat.mul (Nat.add c (Nat.add len n)) i.size) (ve xs) with
       | true =>
         rw [hbl] at h8;have hbl := yq hbl;rw [yO] at hbl;refine WZ ht hi hz hzs hb h8 hr fun M u hu => ?_;cases hu with
         | sl k1 _ => obtain ⟨_, _, _, _, _, _, k2, _⟩ := M.hp.obj _ _ _ h1 k1; rw [k2] at k1; cases k1
         | @slo _ _ g q _ _ rr k1 k2 =>
           have h9 := cE M.mt0 h1 k1 hel;have h10 : c + (len + n) <= rr := Nat.le_of_mul_le_mul_right (Nat.le_trans hbl h9) hz1;exact ⟨g, q, some rr, rr - c, k1, rfl, by omega, .slo k1 (by omega)⟩
       | false =>
         rw [hbl] at h8;exact Oc ht hi hz hzs h1 hoff hm hb hlc h8 hr
     | some sp =>
       cases sp with
       | zero =>
         replace h2 : Bool.rec (motive := fun _ => Rs) (Qk s k i.size el ⟨b, ao, some 0⟩ xs len n cs) (J7 s k i.size ⟨b, ao, some 0⟩ len c n cs) (Nat.ble (Nat.add len n) c) = r := h2
         cases hbl : Nat.ble (Nat.add len n) c with
         | true =>
           rw [hbl] at h2;have hbl := yq hbl;refine WZ ht hi hz hzs hb h2 hr fun M u hu => ?_;cases hu with
           | slk k1 k2 => exact ⟨_, _, _, c, k1, rfl, hbl, .slk k1 hbl⟩
         | false =>
           rw [hbl] at h2;have hbl : ¬ len + n <= c := fun hle => by have := Nat.ble_eq_true_of_le hle; rw [show Nat.ble (len + n) c = Nat.ble (Nat.add len n) c from rfl, hbl] at this; cases this
           refine Qj ht hi hz hzs h1 rfl hm hb hlc h2 hr fun M u hu => ?_;cases hu with
           | slk k1 k2 => exact ⟨_, _, _, c, k1, rfl, by omega⟩
       | succ l =>
         obtain ⟨h3, h4⟩ := zl (show bB (Nat.beq ao (Nat.mul c i.size)) (bB (Nat.beq te el) (bB (Nat.beq len i.size) (VN s b fun s => gU s k el n cs))) = r from h2) hr;obtain ⟨h5, h6⟩ := zl h4 hr;obtain ⟨h7, h8⟩ := zl h6 hr;have hoff := Nat.eq_of_beq_eq_true h3;cases Nat.eq_of_beq_eq_true h5;have hlen := Nat.eq_of_beq_eq_true h7;subst hlen
         exact Oe ht hi hz hzs h1 hoff (by omega) hn0 (Nat.le_trans (Nat.mul_le_mul_right _ (Nat.le_add_left _ _)) hb) hlc h8
end
variable {t t1 : Nat} {ts : List Nat} {u : Value} {us : Lv} {x2 : Value}
theorem J6 (g1 : us[0]? = some u) (g2 : us[1]? = some x2) (g3 : ts[0]? = some t) (g4 : ts[1]? = some t1) (ty : TypeId) : Builtin.append_ ⟨ts⟩ ty ⟨us⟩ = Builtin.append_ #[t, t1] ty #[u, x2] := by
 unfold Builtin.append_;simp only [List.getElem?_toArray, g1, g2, g3, g4]
 rfl
theorem Z1 {u' : Value} {w w' : World} (g1 : us[0]? = some u) (g2 : us[1]? = some x2) (g3 : ts[0]? = some t) (g4 : ts[1]? = some t1) (g5 : ∀ ty, (Builtin.append_ #[t, t1] ty #[u, x2]).run P w = .ok u' w') (ty : TypeId) (cs : Array Bool) :
  (builtin .append ⟨ts⟩ ty cs ⟨us⟩).run P w = .ok (.value u') w' := by
 simp only [builtin, Sem.run_bind];rw [J6 g1 g2 g3 g4, g5 ty]
 rfl
theorem Jy {k : KS} {as : Lv} (h : K7 P s k as ts = r) (hr : r ≠ .no) : ∃ v s', k v s' = r /\ BL P s .append as ts v s' := by
 obtain ⟨t, h1, h2⟩ := zt h hr;obtain ⟨t1, h3, h4⟩ := zt h2 hr;obtain ⟨⟨el, sz, xn, z⟩, h5, h6⟩ := zt h4 hr;obtain ⟨v, h7, h8⟩ := zt h6 hr;obtain ⟨w', h9, h10⟩ := zt h8 hr;obtain ⟨p, len, c, rfl, h11⟩ := jt h10 hr;obtain ⟨h12, h13⟩ := zl h11 hr;obtain ⟨h14, h15⟩ := zl h13 hr;simp only at h12 h14;have hzl := Nat.eq_of_beq_eq_true h14;rw [yO] at hzl
 obtain ⟨n, cs, h16, hlc, h17⟩ := Ob (P := P) h15 hr h12 hzl;rw [Gg] at h16;obtain ⟨h18, h19⟩ := zl h16 hr;obtain ⟨i, zv, hu, hi, hz, hsi, hby, hzc⟩ := ug h5;simp only at h17 hlc;rw [wC] at h1 h3 h7 h9;have hzs : zv.cells.size = i.size := by rw [hzc, hsi]; simpa using hzl
 have pre : ∀ {x : Fx} {B : Mp} {I : As} {w : World}, Ms P x B I s w -> ∀ us : Lv, xk I as us -> ∃ u x2 news, us[0]? = some u /\ us[1]? = some x2 /\ Rl I (.slice p len c) u /\ xk I cs news /\ H2 P t1 i zv x2 n news w /\ (∀ y ∈ news, y.oneCell' = true) := fun M us hus => by
  obtain ⟨u0, g1, g2⟩ := hus.nth 0 _ h7;obtain ⟨u1, g3, g4⟩ := hus.nth 1 _ h9;obtain ⟨news, g5, g6⟩ := h17 M g4 hsi hzc;exact ⟨u0, u1, news, g1, g3, g2, g5, g6, Ws g5 h18⟩
 cases n with
 | zero =>
   refine ⟨_, _, h19, fun {x B I w} M us hus => ?_⟩;obtain ⟨u, x2, news, g1, g2, g3, g4, g5, g6⟩ := pre M us hus
   have sp : ∃ A m c', u = .slice A m c' /\ m <= c' := by
    cases g3 with
    | nils => exact ⟨_, _, _, rfl, Nat.le_refl _⟩
    | sl _ hc => exact ⟨_, _, _, rfl, hc⟩
    | slo _ hc => exact ⟨_, _, _, rfl, by omega⟩
    | slk _ hc => exact ⟨_, _, _, rfl, hc⟩
    | sla _ hc => exact ⟨_, _, _, rfl, Nat.zero_le _⟩
   obtain ⟨A, m, c', rfl, hmc⟩ := sp;exact ⟨_, I, w, wm.refl _ _, g3, M, Z1 g1 g2 h1 h3 fun ty => g5.none hu hi hzs g6 hmc⟩
 | succ n =>
   obtain ⟨h20, h21⟩ := zl (show bB (Nat.ble (Nat.add len (n + 1)) 1048576) (bB (Nat.ble (Nat.mul (Nat.add len (n + 1)) xn) 140737488355328) (Dw s k sz el p len c (n + 1) cs)) = r from h19) hr;obtain ⟨h22, h23⟩ := zl h21 hr;rw [<- hsi] at h23;rw [<- hsi] at hlc
   obtain ⟨v, s', h24, h25⟩ := SB (P := P) (t := t) (t1 := t1) hu hi hz hzs (yq h20) (by omega) (by rw [hby]; exact yq h22) hlc h23 hr;refine ⟨v, s', h24, fun {x B I w} M us hus => ?_⟩;obtain ⟨u, x2, news, g1, g2, g3, g4, g5, g6⟩ := pre M us hus;obtain ⟨u', J, w', g7, g8, g9, g10⟩ := h25 M g3 g4 g5 g6;exact ⟨u', J, w', g7, g8, g9, Z1 g1 g2 h1 h3 g10⟩
end
end Go.Ev
namespace Go.Ev
open Go.Eng
section
variable {P : Program} {e : Env} {s : St} {r : Rs}
variable {as : Lv} {k : KS} {ts : List Nat}
theorem Hn (h : M9 P s k as ts = r) (hr : r ≠ .no) : ∃ v s', k v s' = r /\ BL P s .clear as ts v s' := by
 obtain ⟨t, h1, h2⟩ := zt h hr;obtain ⟨⟨el, sz, xn, z⟩, h3, h4⟩ := zt h2 hr;obtain ⟨v, h5, h6⟩ := zt h4 hr;obtain ⟨p, n, c, rfl, h7⟩ := jt h6 hr;rw [wC] at h1 h5;obtain ⟨i, zv, hu, hi, hz, hsi, hby, hzc⟩ := ug h3;cases p with
 | none =>
   refine ⟨_, _, h7, fun {x B I w} M us hus => ⟨_, I, w, wm.refl _ _, .tuple .nil, M, fun ty cs => ?_⟩⟩;obtain ⟨u0, g1, g2⟩ := hus.nth 0 _ h5;cases g2
   simp [builtin, Builtin.clear_, h1, g1, run_underlying hu]
 | some a =>
   replace h7 : (dU (some a) n fun n => bB (aQ z) <| Q5 z n fun cs => aF s ⟨a.block, a.off, none⟩ cs fun s => k qn s) = r := h7
   rw [eY] at h7;obtain ⟨h8, h9⟩ := zl h7 hr;rw [cn] at h9;obtain ⟨s', h10, h11⟩ := fg (P := P) h9 hr;refine ⟨_, s', h10, fun {x B I w} M us hus => ?_⟩;obtain ⟨u0, g1, g2⟩ := hus.nth 0 _ h5
   have hzz : Builtin.zeroCells zv.cells (QH (some a) n) = ⟨(List.replicate (QH (some a) n) z).flatten⟩ := by
    have : zv.cells.toList = z := by rw [hzc]
    rw [dJ, this]
   have fin : ∀ (g q : Nat) (y : Option Nat) (c' : Nat), I a.block = some (g, q, y) -> u0 = .slice (some ⟨g, q + a.off, none⟩) (QH (some a) n) c' -> ∃ u J w', wm I s J s' /\ Rl J qn u /\ Ms P x B J s' w' /\ ∀ (ty : TypeId) (cs : Array Bool), (builtin .clear ⟨ts⟩ ty cs ⟨us⟩).run P w = .ok (.value u) w' := by
    intro g q y c' g3 hu0;obtain ⟨k1, k2, k3, k4, k5⟩ := h11 M g3 (aJ h8 (QH (some a) n));refine ⟨_, I, _, k5, .tuple .nil, k4, fun ty cs => ?_⟩;rw [hu0] at g1;have hst := run_storeCells_cells (P := P) g (q + a.off) _ 0 w (by simpa using k2) (by simpa using k3) k1;simp only [Nat.add_zero] at hst;cases hN : QH (some a) n with
    | zero =>
      rw [hN] at g1
      simp [builtin, Builtin.clear_, h1, g1, run_underlying hu]
      rfl
    | succ m =>
      rw [hN] at g1 hst hzz
      simp [builtin, Builtin.clear_, h1, g1, run_underlying hu, zeroValue, typeInfo, hi, hz, hzz, hst]
   obtain ⟨b, o, sp⟩ := a;cases g2 with
   | sl g3 _ => exact fin _ _ _ _ g3 rfl
   | slo g3 _ => exact fin _ _ _ _ g3 rfl
   | slk g3 _ => exact fin _ _ _ _ g3 rfl
   | sla g3 _ =>
     -- nothing is there to clear
     obtain ⟨k1, k2, k3, k4, k5⟩ := h11 M g3 (aJ h8 _);refine ⟨_, I, w, k5, .tuple .nil, k4, fun ty cs => ?_⟩
     simp [builtin, Builtin.clear_, h1, g1, run_underlying hu]
variable {g : Nat}
theorem PZ {h : zZ} {o o' : Obj} (hg : mp h g = some o) : mp (h.setIfInBounds g o') g = some o' /\ ∀ j, j ≠ g -> mp (h.setIfInBounds g o') j = mp h j := by
 have hlt := vy hg;unfold mp;exact ⟨by simp [hlt], fun j hj => by simp [Ne.symm hj]⟩
variable {I : As}
theorem qR {x : Fx} {B : Mp} {w : World} (M : Ms P x B I s w) {b q : Nat} {y : Option Nat} {es : List MapEntry} {c : Nat} (ho : get s.h b = some (.mp es c)) (hb : I b = some (g, q, y)) {es2 Ln : List MapEntry} {c2 : Nat} (hes : qN I es2 Ln) {s' : St} (h1 : s'.nx = s.nx) (h2 : ∀ m, m ≠ b -> get s'.h m = get s.h m) (h3 : ∀ u, get s'.h b = some u -> .mp es2 c2 = u) : wm I s I s' /\ Ms P x B I s' { w with heap := w.heap.setIfInBounds g (.map ⟨Ln⟩ c2) } := by
 obtain ⟨g', us, k1, k2, -⟩ := M.hp.obj _ _ _ ho hb;rw [hb] at k1;cases k1;obtain ⟨m1, m2⟩ := PZ (o' := .map ⟨Ln⟩ c2) k2;have ok : bW P I (mp (w.heap.setIfInBounds g (.map ⟨Ln⟩ c2))) b (.mp es2 c2) := ⟨g, Ln, hb, m1, hes⟩;refine ⟨wm.set hb h1 h2, M.gl, ?_, M.hp.set ho hb m2 ok h2 h3 (Nat.le_of_eq h1.symm)⟩
 conv => lhs; rw [M.wd]
 rfl
theorem XQ : ∀ (es : List MapEntry) (i : Nat) (k : List MapEntry -> Rs), WJ es i k = k (es.eraseIdx i)
 | [], i, k => by cases i <;> rfl
 | x :: es, 0, k => rfl
 | x :: es, i + 1, k => by
   show WJ es i (fun r => k (x :: r)) = _;rw [XQ es i]; rfl
variable {y : MapEntry}
theorem Zm : ∀ (es : List MapEntry) (i : Nat) {k : List MapEntry -> Rs} {r : Rs}, MN es i y k = r -> r ≠ .no -> i < es.length /\ k (es.set i y) = r
 | [], i, k, r, h, hr => absurd h.symm hr
 | x :: es, 0, k, r, h, hr => ⟨by simp, h⟩
 | x :: es, i + 1, k, r, h, hr => by
   obtain ⟨h1, h2⟩ := Zm es i (k := fun r => k (x :: r)) h hr;exact ⟨by simp; omega, h2⟩
theorem qN.erase : ∀ {es us : List MapEntry} (i : Nat), qN I es us -> qN I (es.eraseIdx i) (us.eraseIdx i)
 | _, _, _, .nil => .nil
 | _, _, 0, .cons _ hs => hs
 | _, _, i + 1, .cons h hs => .cons h (qN.erase i hs)
variable {x : MapEntry}
theorem qN.set (h : Fq I x y) : ∀ {es us : List MapEntry} (i : Nat), qN I es us -> qN I (es.set i x) (us.set i y)
 | _, _, _, .nil => .nil
 | _, _, 0, .cons _ hs => .cons h hs
 | _, _, i + 1, .cons h' hs => .cons h' (qN.set h i hs)
theorem qN.app (h : Fq I x y) : ∀ {es us : List MapEntry}, qN I es us -> qN I (es ++ [x]) (us ++ [y])
 | _, _, .nil => .cons h .nil
 | _, _, .cons h' hs => .cons h' (qN.app h hs)
theorem Ux (us : List MapEntry) (i : Nat) (f : MapEntry -> MapEntry) (y : MapEntry) (h : us[i]? = some y) : (⟨us⟩ : Array MapEntry).modify i f = ⟨us.set i (f y)⟩ := by
 apply Array.ext'
 apply List.ext_getElem?
 intro j;have hlt := (List.getElem?_eq_some_iff.1 h).1;by_cases hij : i = j
 ·subst hij;simp only [Array.getElem?_toList, Array.getElem?_modify, if_true, List.getElem?_toArray, h, Option.map_some, List.getElem?_set_self hlt]
 ·simp only [Array.getElem?_toList, Array.getElem?_modify, if_neg hij, List.getElem?_toArray, List.getElem?_set_ne hij]
theorem fw {v : Value} {k : Nat -> List MapEntry -> Nat -> Rs} (h : Uz s v k = r) (hr : r ≠ .no) : ∃ b es c, v = .map (some b) /\ get s.h b = some (.mp es c) /\ k b es c = r := by
 obtain ⟨q, rfl, h1⟩ := dO h hr;obtain ⟨b, rfl, h2⟩ := zt h1 hr;obtain ⟨o, h3, h4⟩ := zt h2 hr;obtain ⟨es, c, rfl, h5⟩ := W7 h4 hr;exact ⟨b, es, c, rfl, h3, h5⟩
theorem Jw (h : K6 P s k as ts = r) (hr : r ≠ .no) : ∃ v s', k v s' = r /\ BL P s .delete as ts v s' := by
 obtain ⟨t, h1, h2⟩ := zt h hr;obtain ⟨kt, el, hm, h3⟩ := cJ h2 hr;obtain ⟨v, h4, h5⟩ := zt h3 hr;obtain ⟨key, h6, h7⟩ := zt h5 hr;obtain ⟨hk, h8⟩ := fA h7 hr;obtain ⟨b, es, c, rfl, ho, h9⟩ := fw h8 hr;rw [wC] at h1 h4 h6;obtain ⟨o, h10, h11⟩ := cZ hk h9 hr
 have pre : ∀ {x : Fx} {B : Mp} {I : As} {w : World}, Ms P x B I s w -> ∀ us : Lv, xk I as us -> ∃ g us', us[0]? = some (.map (some g)) /\ us[1]? = some key /\ I b = some (g, 0, none) /\ w.heap[g]? = some (.map ⟨us'⟩ c) /\ qN I es us' := fun M us hus => by
  obtain ⟨u0, g1, g2⟩ := hus.nth 0 _ h4;obtain ⟨u1, g3, g4⟩ := hus.nth 1 _ h6;cases hk.same g4;cases g2 with
  | map g5 =>
    obtain ⟨g, us', k1, k2, k3⟩ := M.hp.obj _ _ _ ho g5;rw [g5] at k1; cases k1;exact ⟨_, us', g1, g3, g5, k2, k3⟩
 cases o with
 | none =>
   refine ⟨_, _, h10, fun {x B I w} M us hus => ?_⟩;obtain ⟨g, us', g1, g2, g3, g4, g5⟩ := pre M us hus;obtain ⟨o', g6, g7⟩ := h11 g5;rcases g7 with ⟨-, rfl⟩ | ⟨_, _, _, e1, _⟩
   ·have e1 : { w with heap := w.heap.setIfInBounds g (.map ⟨us'⟩ c) } = w := by
     have : w.heap.setIfInBounds g (.map ⟨us'⟩ c) = w.heap := by
      apply Array.ext_getElem?
      intro j;by_cases hj : g = j
      ·subst hj;have := (Array.getElem?_eq_some_iff.1 g4).1;simp only [Array.getElem?_setIfInBounds_self, this, g4, if_true]
      ·rw [Array.getElem?_setIfInBounds_ne hj]
     rw [this]
    refine ⟨_, I, w, wm.refl _ _, .tuple .nil, M, fun ty cs => ?_⟩
    simp [builtin, Builtin.delete_, h1, g1, g2, run_underlying hm, MapKept.run_getObj_map g4, hk.check, g6, MapKept.run_setObj_map _ g4, e1]
   ·cases e1
 | some o =>
   obtain ⟨j, xe⟩ := o
   replace h10 : (WJ es j fun es => jx s b (.mp es c) fun s => k qn s) = r := h10
   rw [XQ] at h10;obtain ⟨s', h12, h13, h14, h15⟩ := uf h10;refine ⟨_, s', h12, fun {x B I w} M us hus => ?_⟩;obtain ⟨g, us', g1, g2, g3, g4, g5⟩ := pre M us hus;obtain ⟨o', g6, g7⟩ := h11 g5;rcases g7 with ⟨e1, -⟩ | ⟨j', x', y', e1, rfl, e2, e3, e4, e5⟩
   ·cases e1
   ·simp only [Nat.zero_add, Option.some.injEq, Prod.mk.injEq] at e1;obtain ⟨rfl, rfl⟩ := e1;obtain ⟨k1, k2⟩ := qR M ho g3 (g5.erase j) h13 h14 h15;refine ⟨_, I, _, k1, .tuple .nil, k2, fun ty cs => ?_⟩
    simp [builtin, Builtin.delete_, h1, g1, g2, run_underlying hm, MapKept.run_getObj_map g4, hk.check, g6, MapKept.run_setObj_map _ g4]
end
end Go.Ev
namespace Go.Ev
open Go.Eng
section
variable {P : Program} {e : Env} {s : St} {r : Rs}
theorem Zl (us : List MapEntry) (i : Nat) (f : MapEntry -> MapEntry) (y : MapEntry) (h : us[i]? = some y) : us.modify i f = us.set i (f y) := by
 have := congrArg Array.toList (Ux us i f y h)
 simpa using this
variable {I : As} {b : Nat}
theorem eU {x : Fx} {B : Mp} {w : World} (M : Ms P x B I s w) {es : List MapEntry} {c : Nat} (ho : get s.h b = some (.mp es c)) {u : Value} (hu : Rl I (.map (some b)) u) : ∃ g us', u = .map (some g) /\ I b = some (g, 0, none) /\ w.heap[g]? = some (.map ⟨us'⟩ c) /\ qN I es us' := by
 cases hu with
 | map g5 =>
   obtain ⟨g, us', k1, k2, k3⟩ := M.hp.obj _ _ _ ho g5;rw [g5] at k1; cases k1;exact ⟨_, us', rfl, g5, k2, k3⟩
variable {k : KS} {m : Operand} {t : Nat} {z : Operand}
theorem Zr {y : Operand} (h : jB P e s k t m y z = r) (hr : r ≠ .no) : ∃ s', k qn s' = r /\ LS P e s (.mapUpdate t m y z) qn s' /\ LS P e s (.insert t m y z) qn s' := by
 obtain ⟨kt, el, hm, h1⟩ := cJ h hr;obtain ⟨vm, h2, h3⟩ := zS h1 hr;obtain ⟨key, h4, h5⟩ := zS h3 hr;obtain ⟨v, h6, h7⟩ := zS h5 hr;obtain ⟨hk, h8⟩ := fA h7 hr;obtain ⟨b, es, c, rfl, ho, h9⟩ := fw h8 hr;obtain ⟨o, h10, h11⟩ := cZ hk h9 hr
 have both : ∀ {s'}, (∀ {x : Fx} {n : Nat} {B : Mp} {I : As} {a : Act} {w : World}, Mt P x n B I e s a w -> ∃ J w', (Instr.mapUpdate t (a.eval m) (a.eval y) (a.eval z)).run P w = .ok () w' /\ wm I s J s' /\ Ms P x B J s' w') -> LS P e s (.mapUpdate t m y z) qn s' /\ LS P e s (.insert t m y z) qn s' := fun H =>
  ⟨dI fun M _ _ _ _ _ => by obtain ⟨J, w', g1, g2, g3⟩ := H M; exact ⟨J, w', by simp only [execOp, Sem.run_bind, g1, Result.andThen_ok]; rfl, g2, g3⟩,
   dI fun M _ _ _ _ _ => by obtain ⟨J, w', g1, g2, g3⟩ := H M; exact ⟨J, w', by simp only [execOp, Sem.run_bind, g1, Result.andThen_ok]; rfl, g2, g3⟩⟩
 cases o with
 | none =>
   replace h10 : (bn es [⟨key, v, c⟩] fun es => jx s b (.mp es (Nat.succ c)) fun s => k qn s) = r := h10
   rw [qJ] at h10;obtain ⟨s', h12, h13, h14, h15⟩ := uf h10;refine ⟨s', h12, both fun {x n B I a w} M => ?_⟩;obtain ⟨um, g1, g2, -⟩ := zG M h2;obtain ⟨uk, g3, g4, -⟩ := zG M h4;obtain ⟨uv, g5, g6, -⟩ := zG M h6;cases hk.same g3;obtain ⟨g, us', rfl, g7, g8, g9⟩ := eU M.ms ho g1;obtain ⟨o', g10, g11⟩ := h11 g9;rcases g11 with ⟨-, rfl⟩ | ⟨_, _, _, e1, _⟩
   ·obtain ⟨k1, k2⟩ := qR M.ms ho g7 (g9.app (x := ⟨key, v, c⟩) (y := ⟨key, uv, c⟩) ⟨g3, g5, rfl⟩) h13 h14 h15;refine ⟨I, _, ?_, k1, k2⟩
    simp [g2, g4, g6, Instr.mapUpdate, run_underlying hm, MapKept.run_getObj_map g8, hk.check, g10, MapKept.run_setObj_map _ g8]
   ·cases e1
 | some o =>
   obtain ⟨j, xe⟩ := o
   replace h10 : (MN es j ⟨key, v, xe.born⟩ fun es => jx s b (.mp es c) fun s => k qn s) = r := h10
   obtain ⟨h12, h13⟩ := Zm es j h10 hr;obtain ⟨s', h14, h15, h16, h17⟩ := uf h13;refine ⟨s', h14, both fun {x n B I a w} M => ?_⟩;obtain ⟨um, g1, g2, -⟩ := zG M h2;obtain ⟨uk, g3, g4, -⟩ := zG M h4;obtain ⟨uv, g5, g6, -⟩ := zG M h6;cases hk.same g3;obtain ⟨g, us', rfl, g7, g8, g9⟩ := eU M.ms ho g1;obtain ⟨o', g10, g11⟩ := h11 g9
   rcases g11 with ⟨e1, -⟩ | ⟨j', x', y', e1, rfl, e2, e3, e4, e5⟩
   ·cases e1
   ·simp only [Nat.zero_add, Option.some.injEq, Prod.mk.injEq] at e1;obtain ⟨rfl, rfl⟩ := e1;obtain ⟨k1, k2⟩ := qR M.ms ho g7 (qN.set (x := ⟨key, v, xe.born⟩) (y := ⟨key, uv, y'.born⟩) ⟨g3, g5, e4.born⟩ j g9) h15 h16 h17;refine ⟨I, _, ?_, k1, k2⟩;have e6 := Zl us' j (fun e => { e with key := key, val := uv }) y' e3;simp only [Nat.zero_add] at g10
    simp [g2, g4, g6, Instr.mapUpdate, run_underlying hm, MapKept.run_getObj_map g8, hk.check, g10, e3, e5, hk.stays, MapKept.run_setObj_map _ g8, e6]
theorem Hm {k : KS} {y : Operand} (h : aZ P e s k t m y = r) (hr : r ≠ .no) : ∃ v s', k v s' = r /\ LS P e s (.mapEntry t m y) v s' := by
 obtain ⟨kt, el, hm, h1⟩ := cJ h hr;obtain ⟨vm, h2, h3⟩ := zS h1 hr;obtain ⟨key, h4, h5⟩ := zS h3 hr;obtain ⟨hk, h8⟩ := fA h5 hr;obtain ⟨b, es, c, rfl, ho, h9⟩ := fw h8 hr;obtain ⟨o, h10, h11⟩ := cZ hk h9 hr;cases o with
 | none =>
   obtain ⟨z, h6, hz1, hz2⟩ := fb (k := fun z => bn es [⟨key, z, c⟩] fun es => jx s b (.mp es (Nat.succ c)) fun s => k (.tuple #[z, .int .i64 (.ofNat c)]) s) h10 hr;rw [qJ] at h6;obtain ⟨s', h12, h13, h14, h15⟩ := uf h6;refine ⟨_, s', h12, kg fun {x n B I a w} M dst ty pos aft gd => ?_⟩;obtain ⟨um, g1, g2, -⟩ := zG M h2;obtain ⟨uk, g3, g4, -⟩ := zG M h4
   cases hk.same g3;obtain ⟨g, us', rfl, g7, g8, g9⟩ := eU M.ms ho g1;obtain ⟨o', g10, g11⟩ := h11 g9;rcases g11 with ⟨-, rfl⟩ | ⟨_, _, _, e1, _⟩
   ·obtain ⟨k1, k2⟩ := qR M.ms ho g7 (g9.app (x := ⟨key, z, c⟩) (y := ⟨key, z, c⟩) ⟨g3, hz1 _, rfl⟩) h13 h14 h15;refine ⟨_, I, _, ?_, k1, .tuple (.cons (hz1 _) (.cons (.int _ _) .nil)), k2⟩
    simp [execOp, g2, g4, Instr.mapEntry, run_underlying hm, MapKept.run_getObj_map g8, hk.check, g10, hz2, MapKept.run_setObj_map _ g8, goInt]
   ·cases e1
 | some o =>
   obtain ⟨j, xe⟩ := o
   replace h10 : (MN es j ⟨key, xe.val, xe.born⟩ fun es => jx s b (.mp es c) fun s => k (.tuple #[xe.val, .int .i64 (.ofNat xe.born)]) s) = r := h10
   obtain ⟨h12, h13⟩ := Zm es j h10 hr;obtain ⟨s', h14, h15, h16, h17⟩ := uf h13;refine ⟨_, s', h14, kg fun {x n B I a w} M dst ty pos aft gd => ?_⟩;obtain ⟨um, g1, g2, -⟩ := zG M h2;obtain ⟨uk, g3, g4, -⟩ := zG M h4;cases hk.same g3;obtain ⟨g, us', rfl, g7, g8, g9⟩ := eU M.ms ho g1;obtain ⟨o', g10, g11⟩ := h11 g9
   rcases g11 with ⟨e1, -⟩ | ⟨j', x', y', e1, rfl, e2, e3, e4, e5⟩
   ·cases e1
   ·simp only [Nat.zero_add, Option.some.injEq, Prod.mk.injEq] at e1;obtain ⟨rfl, rfl⟩ := e1;obtain ⟨k1, k2⟩ := qR M.ms ho g7 (qN.set (x := ⟨key, xe.val, xe.born⟩) (y := ⟨key, y'.val, y'.born⟩) ⟨g3, e4.val, e4.born⟩ j g9) h15 h16 h17;have e6 := Zl us' j (fun e => { e with key := key }) y' e3;simp only [Nat.zero_add] at g10
    refine ⟨.tuple #[y'.val, .int .i64 (y'.born : Int)], I, _, ?_, k1, .tuple (.cons e4.val (.cons ?_ .nil)), k2⟩
    ·simp [execOp, g2, g4, Instr.mapEntry, run_underlying hm, MapKept.run_getObj_map g8, hk.check, g10, e3, e5, hk.stays, MapKept.run_setObj_map _ g8, e6, goInt]
    ·rw [e4.born]; exact .int _ _
theorem Z0 {v : Value} : ∀ (es : List MapEntry) {k : List MapEntry -> Rs} {r : Rs}, J1 es b v k = r -> r ≠ .no -> ∃ i x, es[i]? = some x /\ k (es.set i ⟨x.key, v, x.born⟩) = r /\ ∀ {I : As} {us : List MapEntry}, qN I es us -> us.findIdx? (fun e => (e.born : Int) == (b : Int)) = some i
 | [], k, r, h, hr => absurd h.symm hr
 | x :: es, k, r, h, hr => by
   have h' : Bool.rec (motive := fun _ => Rs) (J1 es b v fun r => k (x :: r)) (k (⟨x.key, v, x.born⟩ :: es)) (Nat.beq x.born b) = r := h;cases hb : Nat.beq x.born b with
   | true =>
     rw [hb] at h';refine ⟨0, x, rfl, h', fun {I us} g => ?_⟩;cases g with
     | cons g gs =>
       have := Nat.eq_of_beq_eq_true hb;rw [List.findIdx?_cons]
       simp [<- g.born, this]
   | false =>
     rw [hb] at h';obtain ⟨i, y, h1, h2, h3⟩ := Z0 es h' hr;refine ⟨i + 1, y, by simpa using h1, h2, fun {I us} g => ?_⟩;cases g with
     | @cons _ y' _ us g gs =>
       have hne : ¬ ((y'.born : Int) = (b : Int)) := by
        rw [<- g.born];intro e;have e : x.born = b := by omega
        rw [e] at hb
        simp at hb
       rw [List.findIdx?_cons]
       simp [hne, h3 gs]
theorem qN.nth : ∀ {es us : List MapEntry} (i : Nat) (x : MapEntry), qN I es us -> es[i]? = some x -> ∃ y, us[i]? = some y /\ Fq I x y
 | _, _, 0, x, .cons h _, g => by cases g; exact ⟨_, rfl, h⟩
 | _, _, i + 1, x, .cons _ hs, g => by simpa using qN.nth i x hs (by simpa using g)
theorem Jv {y : Operand} (h : fy e s k t m y z = r) (hr : r ≠ .no) : ∃ v s', k v s' = r /\ LS P e s (.entryStore t m y z) v s' := by
 obtain ⟨vm, h2, h3⟩ := zS h hr;obtain ⟨st, h4, h5⟩ := zS h3 hr;obtain ⟨v, h6, h7⟩ := zS h5 hr;obtain ⟨b, es, c, rfl, ho, h9⟩ := fw h7 hr;obtain ⟨kd, n, rfl, h10⟩ := yW h9 hr;obtain ⟨n, rfl, h11⟩ := v8 h10 hr;obtain ⟨i, x, h12, h13, h14⟩ := Z0 es h11 hr;obtain ⟨s', h15, h16, h17, h18⟩ := uf h13
 refine ⟨_, s', h15, dI fun {x' n' B I a w} M dst ty pos aft gd => ?_⟩;obtain ⟨um, g1, g2, -⟩ := zG M h2;obtain ⟨us, g3, g4, -⟩ := zG M h4;obtain ⟨uv, g5, g6, -⟩ := zG M h6;cases g3;obtain ⟨g, us', rfl, g7, g8, g9⟩ := eU M.ms ho g1;obtain ⟨y', e3, e4⟩ := g9.nth i x h12
 obtain ⟨k1, k2⟩ := qR M.ms ho g7 (qN.set (x := ⟨x.key, v, x.born⟩) (y := ⟨y'.key, uv, y'.born⟩) ⟨e4.key, g5, e4.born⟩ i g9) h16 h17 h18;have e6 := Zl us' i (fun e => { e with val := uv }) y' e3;refine ⟨I, _, ?_, k1, k2⟩
 simp [execOp, g2, g4, g6, Instr.entryStore, MapKept.run_getObj_map g8, asInt, asIntOf, h14 g9, MapKept.run_setObj_map _ g8, e6]
variable {y : Operand}
theorem M8 {a d : Nat} (h : TK P e s k a d y = r) (hr : r ≠ .no) : ∃ v s', k v s' = r /\ LS P e s (.convert a d y) v s' := by
 obtain ⟨h1, h2⟩ := zl h hr;obtain ⟨h3, h4⟩ := zl h2 hr;obtain ⟨v, h5, h6⟩ := zS h4 hr;obtain ⟨p, n, c, rfl, h7⟩ := jt h6 hr;obtain ⟨ad, rfl, h8⟩ := zt h7 hr;obtain ⟨o, h9, h10⟩ := zt h8 hr;obtain ⟨xs, h11, h12⟩ := dB h10 hr;cases Nat.eq_of_beq_eq_true h1;obtain ⟨el, he, he8⟩ := ai h3;obtain ⟨h6b, h12⟩ := zl h12 hr
 refine ⟨_, s, h12, kg fun {x m B I act w} M dst ty pos aft gd => ?_⟩;obtain ⟨u, g1, g2, -⟩ := zG M h5
 have sp : ∃ g q y o' n' c', I ad.block = some (g, q, y) /\ u = .slice (some ⟨g, o', none⟩) n' c' := by
  cases g1 with
  | sl h _ => exact ⟨_, _, _, _, _, _, h, rfl⟩
  | slo h _ => exact ⟨_, _, _, _, _, _, h, rfl⟩
  | slk h _ => exact ⟨_, _, _, _, _, _, h, rfl⟩
  | sla h _ => exact ⟨_, _, _, _, _, _, h, rfl⟩
 obtain ⟨g, q, y', o', n', c', g3, rfl⟩ := sp
 have key : ∀ (cur : Lv) (t : Nat) (fz : Nat × Nat), mp w.heap g = some (.cells ⟨cur⟩ t fz) -> Fz fz cur.length -> ∃ fz', Fz fz' cur.length /\ mp (w.freeze ⟨g, cur.length, none⟩ 1).heap g = some (.cells ⟨cur⟩ t fz') /\ (∀ j, j ≠ g -> mp (w.freeze ⟨g, cur.length, none⟩ 1).heap j = mp w.heap j) /\
   (execOp act.eval ⟨dst, .convert a a y, ty, pos, aft, gd⟩).run P w = .ok (.value (.slice (some ⟨g, o', none⟩) n' c')) (w.freeze ⟨g, cur.length, none⟩ 1) := by
  intro cur t fz hg hf;obtain ⟨lo, hi⟩ := fz;have hg' : w.heap[g]? = some (.cells ⟨cur⟩ t (lo, hi)) := hg;refine ⟨if lo == hi then (cur.length, cur.length + 1) else (min lo cur.length, max hi (cur.length + 1)), ?_, ?_, ?_, ?_⟩
  ·by_cases e : lo = hi
   ·subst e; simp [Fz]
   ·have : ¬ (lo == hi) = true := by simpa using e
    rw [if_neg this];rcases hf with hf | hf
    ·exact absurd hf e
    ·exact .inr (by simp only at hf ⊢; omega)
  ·unfold World.freeze mp;simp only [Nat.one_ne_zero, if_false, Array.getElem?_modify, if_true, hg', Option.map_some]
  ·intro j hj;unfold World.freeze mp;simp only [Nat.one_ne_zero, if_false, Array.getElem?_modify, if_neg (Ne.symm hj)]
  ·have hsh : w.shape? g = some (t, cur.length) := by unfold World.shape?; simp [hg']
   simp only [execOp, g2, convert, Sem.run_bind, run_underlying he, Result.andThen_ok, run_underlying he8, beq_self_eq_true]
   simp [markStringish, shape, freeze, Sem.run, hsh]
 have wd' : ∀ l, w.freeze ⟨g, l, none⟩ 1 = W x (w.freeze ⟨g, l, none⟩ 1).heap (w.freeze ⟨g, l, none⟩ 1).drawn := fun l => by
  conv => lhs; rw [M.wd]
  rfl
 cases o with
 | mp _ _ => cases h11
 | cel xs' t =>
   obtain ⟨g', cur, fz, k1, k2, k3, k4⟩ := M.hp.obj _ _ _ h9 g3;rw [g3] at k1; cases k1;obtain ⟨fz', m1, m2, m3, m4⟩ := key cur t fz k2 k4.1;have ok : bW P I (mp (w.freeze ⟨g, cur.length, none⟩ 1).heap) ad.block (.cel xs' t) := ⟨g, cur, fz', g3, m2, k3, m1, fun h => absurd (Nat.le_of_ble_eq_true h6b) (Nat.not_le_of_lt h)⟩
   exact ⟨_, I, _, m4, wm.refl _ _, g1, M.gl, wd' _, M.hp.set h9 g3 m3 ok (fun _ _ => rfl) (fun u hu => by rw [h9] at hu; injection hu) (Nat.le_refl _)⟩
 | opn xs' t =>
   obtain ⟨g', q', rr, z, cur, fz, k1, k2, k3, k4, k5, k6, k7⟩ := M.hp.obj _ _ _ h9 g3;rw [g3] at k1; cases k1;obtain ⟨fz', m1, m2, m3, m4⟩ := key cur t fz k2 k7;have ok : bW P I (mp (w.freeze ⟨g, cur.length, none⟩ 1).heap) ad.block (.opn xs' t) := ⟨g, q, rr, z, cur, fz', g3, m2, k3, k4, k5, k6, m1⟩
   exact ⟨_, I, _, m4, wm.refl _ _, g1, M.gl, wd' _, M.hp.set h9 g3 m3 ok (fun _ _ => rfl) (fun u hu => by rw [h9] at hu; injection hu) (Nat.le_refl _)⟩
end
end Go.Ev
namespace Go.Ev
open Go.Eng
def wv (P : Program) (s : St) (g : Nat) (vs : Lv) (v : Value) (s' : St) : Prop :=
 ∀ {x : Fx} {B : Mp} {I : As} {w : World}, Ms P x B I s w -> ∀ us : Lv, xk I vs us -> Calls P g ⟨us⟩ w fun e w' => ∃ u J, e = .returned u /\ wm I s J s' /\ Rl J v u /\ Ms P x B J s' w'
def kN (P : Program) (X : ki) : Prop := ∀ g c, X g = some c -> z7 P g = true /\ ∀ {vs : Lv} {s : St} {k : KS} {r : Rs}, c vs s k = r -> r ≠ .no -> ∃ v s', k v s' = r /\ wv P s g vs v s'
def Nu : Ex -> Exit
 | .normal => .normal
 | .exit i => .exit i
 | .ret => .ret
noncomputable section
def Kq (P : Program) (o : Op) : Bool := match o with
 | .load _ _ | .slice _ _ _ _ _ | .lookup _ _ _ _ => true
 | .convert a _ _ => qF P a
 | .call _ => true
 | _ => false
def qU (P : Program) (o : Op) : Nat := match Ys P o with
 | 0 => if Kq P o then 1 else 0
 | 1 => 1
 | 2 => 2
 | _ => 3
def aj (o : Oper) : List Nat := o.after.toList.filterMap fun e => if Region.binds .any e then some e.on else none
def Do (l : List Oper) : List Nat := l.foldl (fun acc o => acc ++ [(aj o).foldl (fun m j => m ||| (1 <<< j) ||| acc.getD j 0) 0]) []
def Vq (bs : List Nat) (i j : Nat) : Bool := (bs.getD i 0).testBit j
def orL (bs : List Nat) (ks : List Nat) : Nat := ks.foldl (fun m k => m ||| (1 <<< k) ||| bs.getD k 0) 0
def TL (l : List Oper) (bs : List Nat) : Bool := (List.range bs.length).all fun i => match l[i]? with
 | some o => (bs.getD i 0 &&& orL bs (aj o)) == bs.getD i 0
 | none => false
def fY (l : List Oper) (o : Oper) : List Nat := (o.op.operands.toList.filterMap fun | .tmp t => some t | _ => none) ++ (match o.guard with | some (g, _) => ((vZ l g).bind (·.dst)).toList | none => [])
def qg (l : List Oper) (i : Nat) : Option Nat := (l[i]?).bind (·.dst)
def TX (l : List Oper) (i : Nat) : List (Nat × Nat) := match l with
 | [] => []
 | o :: r => match o.dst with
   | some d => (i, d) :: TX r (i + 1)
   | none => TX r (i + 1)
def BH (dl : List (Nat × Nat)) : Bool := dl.all fun x => dl.all fun y => x.1 == y.1 || x.2 != y.2
def L9 (l : List Oper) (dl : List (Nat × Nat)) (bs : List Nat) (j : Nat) : Bool := match l[j]? with
 | some o => (fY l o).all fun t => dl.all fun x => x.2 != t || Vq bs j x.1
 | none => false
def Jj (P : Program) (l : List Oper) (dl : List (Nat × Nat)) (bs : List Nat) (don : Nat) (lds rds : List Nat) (i : Nat) (o : Oper) (ck : List Nat) : Bool :=
 !don.testBit i && (aj o).all (don.testBit ·) &&
 (fY l o).all (fun t => dl.all fun x => x.2 != t || x.1 == i || (Vq bs i x.1 && don.testBit x.1) || (Vq bs x.1 i && !don.testBit x.1)) &&
 (match qU P o.op with
  | 0 => true
  | 3 => lds.all (Vq bs i ·) && rds.all fun j => Vq bs i j || (ck.contains j && L9 l dl bs j)
  | _ => lds.all (Vq bs i ·))
def FX (P : Program) (l : List Oper) (dl : List (Nat × Nat)) (bs : List Nat) : Pl -> Nat -> List Nat -> List Nat -> Bool
 | [], don, _, _ => (List.range l.length).all (don.testBit ·)
 | (i, ck) :: r, don, lds, rds => match l[i]? with
   | some o => Jj P l dl bs don lds rds i o ck && FX P l dl bs r (don ||| (1 <<< i)) (if qU P o.op = 3 then i :: lds else lds) (if qU P o.op = 1 then i :: rds else rds)
   | none => false
def Nk (n : Nat) : Pl := (List.range n).map fun i => (i, [])
def Tz (P : Program) (l : List Oper) (pl : Pl) (bs : List Nat) (dl : List (Nat × Nat)) : Bool := bs.length == l.length && TL l bs && BH dl && FX P l dl bs pl 0 [] []
def XD (P : Program) (l : List Oper) (pl : Pl) : Bool := Tz P l pl (Do l) (TX l 0)
def gw (nt : Nat) (l : List Oper) : Bool := l.all fun o => match o.dst with | some d => Nat.blt d nt | none => true
def uX (P : Program) (rp : RP) (nt : Nat) : Code -> Bool
 | .region id ops dr => gw nt ops.toList && (!dr || XD P ops.toList ((plF rp id).getD (Nk ops.size)))
 | .seq a b => uX P rp nt a && uX P rp nt b
 | .cond _ a b => uX P rp nt a && uX P rp nt b
 | .block _ b => uX P rp nt b
 | .loop b => uX P rp nt b
 | .scope b => uX P rp nt b
 | _ => true
end
def qk (P : Program) (nt : Nat) (c : Code) (e : Env) (s : St) (ex : Ex) (e' : Env) (s' : St) : Prop :=
 ∀ {x : Fx} {n : Nat} {B : Mp} {I : As} {a : Act} {w : World}, nt <= n -> Mt P x n B I e s a w -> c.wp P (fun ext a' w' => ext = Nu ex /\ ∃ J, wm I s J s' /\ Mt P x n B J e' s' a' w') a w
def vP (P : Program) (ih : jn) : Prop := ∀ {rp : RP} {nt : Nat} {c : Code} {e : Env} {s : St} {r : Rs}, uX P rp nt c = true -> ih rp c e s = r -> r ≠ .no -> ∃ ex e' s', r = .ok ex e' s' /\ qk P nt c e s ex e' s'
def aC (P : Program) (D : Nat -> Option DE) : Prop := ∀ g d, D g = some d -> P.funcs[g]? = some d.fn /\ ∀ b, d.fn.body = some b -> uX P d.rp d.fn.ntmps b = true
def wq (P : Program) : Prop := ∀ (g : Nat) (fn : Func), P.funcs[g]? = some fn -> fn.name ≠ "runtime.NumGoroutine"
theorem Ms.fx {P : Program} {x y : Fx} {B : Mp} {I : As} {s : St} {w : World} (M : Ms P x B I s w) (h : ∀ H d, W x H d = W y H d) : Ms P y B I s w := ⟨M.gl, by rw [<- h]; exact M.wd, M.hp⟩
section
variable {P : Program} {X : ki} {D : Nat -> Option DE} {ih : jn} {e : Env} {s : St} {r : Rs}
theorem PE {R : Type} {v : Option Value} {i : Nat} {k : Env -> R} {r : R} (h : put v e i k = r) : ∃ e', k e' = r /\ (∀ m, m ≠ i -> get e' m = get e m) /\ ∀ u, get e' i = some u -> v = some u := by
 obtain ⟨t, h1, h2, h3⟩ := Zc v e i;exact ⟨t, by rw [<- h]; exact (h1 k).symm, h2, h3⟩
theorem fB : ∀ (vs : Lv) (i : Nat) (e : Env) {k : Env -> Rs} {r : Rs}, UK vs i e k = r -> ∃ e', k e' = r /\ ∀ t v, get e' t = some v -> (i <= t /\ vs[t - i]? = some v) \/ get e t = some v
 | [], i, e, k, r, h => ⟨e, h, fun t v h => .inr h⟩
 | v :: vs, i, e, k, r, h => by
   obtain ⟨e1, h1, h2, h3⟩ := PE (show put (some v) e i (fun e => UK vs (i + 1) e k) = r from h);obtain ⟨e', h4, h5⟩ := fB vs (i + 1) e1 h1;refine ⟨e', h4, fun t u hu => ?_⟩;rcases h5 t u hu with ⟨h6, h7⟩ | h6
   ·refine .inl ⟨by omega, ?_⟩;rw [show t - i = (t - (i + 1)) + 1 by omega]
    simpa using h7
   ·by_cases ht : t = i
    ·subst ht;have := h3 u h6;exact .inl ⟨Nat.le_refl _, by rw [Nat.sub_self]; simpa using this⟩
    ·rw [h2 t ht] at h6; exact .inr h6
theorem qS {α : Type} : ∀ (d n : Nat), get (dc d : Tr α) n = none
 | 0, n => rfl
 | d + 1, 0 => rfl
 | d + 1, n + 1 => by
   show get (.nd (dc d) none (dc d) : Tr α) (n + 1) = none;rw [xV]; split <;> exact qS d _
def cr (tmps : Array Value) : ResultVar -> Sem Value
 | .tmp t => pure (tmps.getD t undef)
 | .cell b t => do loadVar t (<- asAddr (tmps.getD b undef))
variable {t : Nat} {tmps : Array Value} {u : Value}
theorem IZ (h : tmps[t]? = some u) (w : World) : (cr tmps (.tmp t)).run P w = .ok u w := by simp [cr, h]
variable {w : World}
theorem Q8 {b : Nat} {c : Addr} (h : tmps[b]? = some (.pointer (some c))) (g : (loadVar t c).run P w = .ok u w) : (cr tmps (.cell b t)).run P w = .ok u w := by simp [cr, h, asAddr, g]
theorem Q3 (fn : Func) (tmps : Array Value) : results fn tmps = (do let vs <- fn.results.mapM (cr tmps); pure (if h : vs.size = 1 then vs[0] else .tuple vs)) := rfl
theorem cj : ∀ (rs : List ResultVar) {k : Lv -> Rs} {r : Rs}, VX P e s.h rs k = r -> r ≠ .no -> ∃ vs, k vs = r /\ ∀ {x : Fx} {n : Nat} {B : Mp} {I : As} {a : Act} {w : World}, Mt P x n B I e s a w -> ∃ us, xk I vs us /\
  (rs.mapM (cr a.tmps) : Sem Lv).run P w = .ok us w
 | [], k, r, h, _ => ⟨[], h, fun _ => ⟨[], .nil, by simp⟩⟩
 | .tmp t :: rs, k, r, h, hr => by
   obtain ⟨v, h1, h2⟩ := zt (show (oB (get e t) fun v => VX P e s.h rs fun vs => k (v :: vs)) = r from h) hr;obtain ⟨vs, h3, h4⟩ := cj rs h2 hr;refine ⟨v :: vs, h3, fun M => ?_⟩;obtain ⟨u, g1, g2⟩ := M.env t v h1;obtain ⟨us, g3, g4⟩ := h4 M;refine ⟨u :: us, .cons g2 g3, ?_⟩;simp only [List.mapM_cons, Sem.run_bind, IZ g1, Result.andThen_ok, g4, Sem.run_pure]
 | .cell b t :: rs, k, r, h, hr => by
   obtain ⟨p, h1, h2⟩ := zt (show (oB (get e b) fun p => Yh p fun p => oB p fun a => K3 P s.h (fun v => VX P e s.h rs fun vs => k (v :: vs)) t a) = r from h) hr;obtain ⟨p, rfl, h3⟩ := jU h2 hr;obtain ⟨a, rfl, h4⟩ := zt h3 hr;obtain ⟨v, h5, h6⟩ := UA (e := e) h4 hr;obtain ⟨vs, h7, h8⟩ := cj rs h5 hr;refine ⟨v :: vs, h7, fun M => ?_⟩;obtain ⟨u, g1, g2⟩ := M.env b _ h1
   obtain ⟨-, g, q, c, g3, rfl⟩ := gA g2;obtain ⟨u, g4, g5⟩ := h6 M g3;obtain ⟨us, g6, g7⟩ := h8 M;refine ⟨u :: us, .cons g4 g6, ?_⟩;simp only [List.mapM_cons, Sem.run_bind, Q8 g1 g5, Result.andThen_ok, g7, Sem.run_pure]
variable {us : Lv}
theorem dR {fn : Func} (h : (fn.results.toList.mapM (cr tmps)).run P w = .ok us w) : (results fn tmps).run P w = .ok (fM us) w := by
 rw [Q3, show fn.results.mapM (cr tmps) = List.toArray <$> fn.results.toList.mapM (cr tmps) from Array.mapM_eq_mapM_toList];simp only [map_eq_pure_bind, Sem.run_bind, h, Result.andThen_ok, Sem.run_pure]
 match us with
 | [] => rfl
 | [u] => rfl
 | u :: u' :: us => rfl
variable {vs : Lv}
theorem Wb {I : As} (h : xk I vs us) : Rl I (fM vs) (fM us) := by
 cases h with
 | nil => exact .tuple .nil
 | cons h hs =>
   cases hs with
   | nil => exact h
   | cons h' hs => exact .tuple (.cons h (.cons h' hs))
variable {g : Nat} {k : KS}
theorem Z6 (hX : kN P X) (hD : aC P D) (hI : vP P ih) (hN : wq P) (h : Qn P X D ih s k g vs = r) (hr : r ≠ .no) : z7 P g = true /\ ∃ v s', k v s' = r /\ wv P s g vs v s' := by
 unfold Qn at h;cases hx : X g with
 | some c => rw [hx] at h; exact ⟨(hX g c hx).1, (hX g c hx).2 h hr⟩
 | none =>
   rw [hx] at h;obtain ⟨d, h1, h2⟩ := zt h hr;obtain ⟨b, h3, h4⟩ := zt h2 hr;obtain ⟨e0, h5, h6⟩ := fB vs 0 _ h4;obtain ⟨hf, hb⟩ := hD g d h1;have hne : ih d.rp b e0 s ≠ .no := fun e1 => by rw [e1] at h5; exact hr h5.symm
   obtain ⟨ex, e', s', h7, h8⟩ := hI (hb b h3) rfl hne;rw [h7] at h5
   have hfin : (ex = .normal \/ ex = .ret) /\ (VX P e' s'.h d.fn.results.toList fun vs => k (fM vs) s') = r := by
    cases ex with
    | normal => exact ⟨.inl rfl, h5⟩
    | exit i => exact absurd h5.symm hr
    | ret => exact ⟨.inr rfl, h5⟩
   obtain ⟨hex, h9⟩ := hfin;obtain ⟨zs, h10, h11⟩ := cj d.fn.results.toList h9 hr;refine ⟨?_, fM zs, s', h10, fun {x B I w} M us hus => ?_⟩
   ·unfold z7
    simp [hf, h3, hN g d.fn hf]
   ·refine calls_of_wp hf h3 (wp_mono (h8 (x := ⟨x.tape, x.os, x.out, []⟩) (n := ((⟨us⟩ : Array Value) ++ Array.replicate (d.fn.ntmps - us.length) undef).size) (by simp; omega) (Ms.mt (x := ⟨x.tape, x.os, x.out, []⟩) (a := ⟨(⟨us⟩ : Array Value) ++ Array.replicate (d.fn.ntmps - us.length) undef, []⟩) (M.fx fun _ _ => rfl) rfl rfl fun t v hv => ?_)) ?_)
    ·rcases h6 t v hv with ⟨-, h12⟩ | h12
     ·obtain ⟨u, g1, g2⟩ := hus.nth t v (by simpa using h12);refine ⟨u, ?_, g2⟩;have hlt := (List.getElem?_eq_some_iff.1 g1).1;rw [Array.getElem?_append_left (by simpa using hlt)]
      simpa using g1
     ·rw [Hw, qS] at h12; cases h12
    ·rintro ext a' w' ⟨rfl, J, g1, g2⟩;obtain ⟨us', g3, g4⟩ := h11 g2
     have g5 : a'.defers = [] /\ ∃ v, (results d.fn a'.tmps).run P w' = .ok v w' /\ ∃ u J, (Ending.returned v) = .returned u /\ wm I s J s' /\ Rl J (fM zs) u /\ Ms P x B J s' w' :=
      ⟨g2.df, _, dR g4, _, J, rfl, g1, Wb g3, g2.ms.fx fun _ _ => rfl⟩
     rcases hex with rfl | rfl
     ·exact g5
     ·exact g5
variable {o : Op} {s' : St} {v : Value}
theorem GR (hc : z7 P g = true) (hC : wv P s g vs v s') (h : ∀ {x : Fx} {n : Nat} {B : Mp} {I : As} {a : Act} {w : World}, Mt P x n B I e s a w -> ∃ us, xk I vs us /\ ∀ dst ty pos aft gd, (execOp a.eval ⟨dst, o, ty, pos, aft, gd⟩).run P w = (callFunc g ⟨us⟩).run P w) : LS P e s o v s' := by
 intro x n B I a w M dst ty pos aft gd K Q hK;obtain ⟨us, g1, g2⟩ := h M;unfold Oper.wp;rw [g2, wi hc, Oper.upon_enter];refine (hC M.ms us g1).mono ?_;rintro e w' ⟨u, J, rfl, g3, g4, g5⟩;exact hK J u w' g3 g4 g5
theorem dz {fn : Fn} {k : Nat -> Rs} (h : EN fn k = r) (hr : r ≠ .no) : ∃ g, fn = .func g /\ k g = r := by
 cases fn <;> first | exact ⟨_, rfl, h⟩ | exact absurd h.symm hr
variable {args : Array Operand} {ts : Array Nat}
theorem Ho (hX : kN P X) (hD : aC P D) (hI : vP P ih) (hN : wq P) {f : Operand} (h : Zs P X D ih e s k args.toList f = r) (hr : r ≠ .no) : ∃ v s', k v s' = r /\ LS P e s (.call ⟨.value f, args, ts⟩) v s' := by
 obtain ⟨vf, h1, h2⟩ := zS h hr;obtain ⟨fn, ⟨first⟩, ⟨cap⟩, rfl, h3⟩ := dP h2 hr;obtain ⟨g, rfl, h4⟩ := dz h3 hr;obtain ⟨vs, h5, h6⟩ := qf (P := P) h4 hr;rw [qJ, qJ] at h5;obtain ⟨hc, v, s', h7, h8⟩ := Z6 hX hD hI hN h5 hr;refine ⟨v, s', h7, GR hc h8 fun {x n B I a w} M => ?_⟩;obtain ⟨u, g1, g2, -⟩ := zG M h1;obtain ⟨us, g3, g4⟩ := h6 M;cases g1 with
 | func k1 k2 =>
   refine ⟨_, k1.app (g3.app k2), fun dst ty pos aft gd => ?_⟩;have e1 := qv (yc a) g4
   have e2 : args.map a.eval = ⟨us⟩ := by
    have : (args.toList.toArray).map a.eval = us.toArray := e1
    simpa using this
   simp only [execOp, resolve, e2, g2, Deferred.ofValue, Sem.run_bind, Sem.run_pure, Result.andThen_ok, invoke];rw [List.append_toArray, List.append_toArray, List.append_assoc]
theorem JA (h : JB P t = false) : ∃ d, P.underlying t = some d /\ ∀ el, d ≠ .pointer el := by
 unfold JB at h;cases hu : P.underlying t with
 | none => rw [hu] at h; cases h
 | some d =>
   rw [hu] at h;refine ⟨d, rfl, fun el e1 => ?_⟩;subst e1;cases h
variable {name : String}
theorem Hh (h : MQ P t name = some g) (v : Value) (w : World) (d : Nat) : (method (d + 1) t v name).run P w = .ok (g, v) w := by
 unfold MQ at h
 split at h
 ·rename_i i hi
  split at h
  ·rename_i m hm
   split at h
   ·rename_i f hp hf
    split at h
    ·cases h
    ·rename_i hpt
     cases h;obtain ⟨d', hd, hne⟩ := JA hpt;unfold method;simp only [Sem.run_bind, typeInfo, run_program, Result.andThen_ok, hi, Sem.run_pure, hm, hp, follow, hf, receiverAt, run_underlying hd];cases d' <;> first | rfl | exact absurd rfl (hne _)
   ·cases h
  ·cases h
 ·cases h
theorem Ju (hX : kN P X) (hD : aC P D) (hI : vP P ih) (hN : wq P) {rc : Operand} (h : cO P X D ih e s k args.toList rc name = r) (hr : r ≠ .no) : ∃ v s', k v s' = r /\ LS P e s (.call ⟨.invoke rc name, args, ts⟩) v s' := by
 obtain ⟨vr, h1, h2⟩ := zS h hr;rcases yC h2 hr with ⟨_, rfl, h⟩ | ⟨kd, i, rfl, h⟩ | ⟨sb, rfl, h⟩ | ⟨p, rfl, h⟩ | ⟨p, n, c, rfl, h⟩ | ⟨_, rfl, h⟩ | ⟨fn, a, c, rfl, h⟩ | ⟨rfl, h⟩ | ⟨d, vv, rfl, h⟩ | ⟨rfl, h⟩ | ⟨⟨cs⟩, rfl, h⟩ | ⟨_, rfl, h⟩ <;> first | exact absurd h.symm hr | skip
 obtain ⟨g, h3, h4⟩ := zt h hr;obtain ⟨vs, h5, h6⟩ := qf (P := P) h4 hr;obtain ⟨hc, v, s', h7, h8⟩ := Z6 hX hD hI hN h5 hr;refine ⟨v, s', h7, GR hc h8 fun {x n B I a w} M => ?_⟩;obtain ⟨u, g1, g2, -⟩ := zG M h1;obtain ⟨us, g3, g4⟩ := h6 M;cases g1 with
 | @iface _ _ u g5 =>
   refine ⟨u :: us, .cons g5 g3, fun dst ty pos aft gd => ?_⟩;have e1 := qv (yc a) g4
   have e2 : args.map a.eval = ⟨us⟩ := by
    have : (args.toList.toArray).map a.eval = us.toArray := e1
    simpa using this
   have e3 : (⟨us⟩ : Array Value).size + 1 = (#[Value.iface d u] ++ ⟨us⟩ : Array Value).size := by simp
   have e4 : ((#[Value.iface d u] ++ (⟨us⟩ : Array Value)).extract 1 (#[Value.iface d u] ++ (⟨us⟩ : Array Value)).size) = ⟨us⟩ := by
    apply Array.ext'
    simp
   have e5 : (#[Value.iface d u] ++ (⟨us⟩ : Array Value))[0]? = some (.iface d u) := by simp
   obtain ⟨fuel, hfuel⟩ : ∃ fuel, P.types.size + Made.depth = fuel + 1 := ⟨P.types.size + Made.depth - 1, by
    have : 0 < Made.depth := by decide
    omega⟩
   simp only [execOp, resolve, e2, g2, Sem.run_bind, Sem.run_pure, Result.andThen_ok, invoke, e5, e4, callMethod, run_program, hfuel, Hh h3]
   congr 2
   exact List.append_toArray [u] us
theorem Bp (hX : kN P X) (hD : aC P D) (hI : vP P ih) (hN : wq P) (h : lK P X D ih e s k o = r) (hr : r ≠ .no) : ∃ v s', k v s' = r /\ LS P e s o v s' := by
 cases o with
 | insert t m y z => obtain ⟨s', h1, -, h2⟩ := Zr (P := P) h hr; exact ⟨_, s', h1, h2⟩
 | mapUpdate t m y z => obtain ⟨s', h1, h2, -⟩ := Zr (P := P) h hr; exact ⟨_, s', h1, h2⟩
 | store t y z => exact Hl h hr
 | convert a d y => exact M8 h hr
 | mapEntry t m y => exact Hm h hr
 | entryStore t m y z => exact Jv h hr
 | call c =>
   obtain ⟨callee, args, ts⟩ := c;cases callee with
   | value f => exact Ho hX hD hI hN h hr
   | invoke rc name => exact Ju hX hD hI hN h hr
   | builtin b =>
     obtain ⟨as, h1, h2⟩ := qf (P := P) (show fP e args.toList (fun as => UF P s k b as ts.toList) = r from h) hr;cases b with
     | append => obtain ⟨v, s', h3, h4⟩ := Jy h1 hr; exact ⟨v, s', h3, kV h4 h2⟩
     | copy => obtain ⟨v, s', h3, h4⟩ := M7 h1 hr; exact ⟨v, s', h3, kV h4 h2⟩
     | delete => obtain ⟨v, s', h3, h4⟩ := Jw h1 hr; exact ⟨v, s', h3, kV h4 h2⟩
     | clear => obtain ⟨v, s', h3, h4⟩ := Hn h1 hr; exact ⟨v, s', h3, kV h4 h2⟩
     | _ => exact absurd h1.symm hr
 | _ => exact absurd h.symm hr
theorem QS.ls (h : QS P e s o v) : LS P e s o v s := kg fun {x n B I a w} M dst ty pos aft gd => by
 obtain ⟨u, g1, g2⟩ := h M dst ty pos aft gd;exact ⟨u, I, w, g2, wm.refl _ _, g1, M.ms⟩
theorem NS.ls {ao : AO} (h : NS P e s.nx o ao v) (h1 : s'.nx = s.nx + 1) (h2 : ∀ m, m ≠ s.nx -> get s'.h m = get s.h m) (h3 : ∀ u, get s'.h s.nx = some u -> ao = u) : LS P e s o v s' := kg fun {x n B I a w} M dst ty pos aft gd => by
 have hI := M.hp.new s.nx (Nat.le_refl _);obtain ⟨u, h', g, q, c, d', g1, g2, g3, g4, g5⟩ := h M hI dst ty pos aft gd;refine ⟨u, _, W x h' d', g1, wm.new _ hI h1 h2, g4, M.ms.gl_upd _, rfl, M.hp.add hI g3 g2 g5 (j5 h2 h3) (aT h1)⟩
theorem F5 (h : F6 P e s k o = r) (hr : r ≠ .no) : ∃ v s', k v s' = r /\ LS P e s o v s' := by
 obtain ⟨ao, v, h1, h2⟩ := MK (P := P) h hr;obtain ⟨s', h3, h4, h5, h6⟩ := qQ h1;exact ⟨v, s', h3, h2.ls h4 h5 h6⟩
theorem Ji (hX : kN P X) (hD : aC P D) (hI : vP P ih) (hN : wq P) {kd : Nat} (h : ME P X D ih e s k o kd = r) (hr : r ≠ .no) : ∃ v s', k v s' = r /\ LS P e s o v s' := by
 match kd with
 | 0 => obtain ⟨v, h1, h2⟩ := Ue (P := P) (show qK P e s.h (fun v => k v s) o = r from h) hr; exact ⟨v, s, h1, h2.ls⟩
 | 1 => obtain ⟨v, h1, h2⟩ := Ue (P := P) (show qK P e s.h (fun v => k v s) o = r from h) hr; exact ⟨v, s, h1, h2.ls⟩
 | 2 => exact F5 h hr
 | kd + 3 => exact Bp hX hD hI hN h hr
end
end Go.Ev
