/- Plain: how bytes are read as letters, and that what is written is read as it was. No condition. -/
import Derived.Test.YtbpihgphicmdiaaWiO
namespace Go.Proofs.Ytbpihgphicmdiaa
open Wi
/-- what reading tells: a thing, and where it ends; or the first byte that can't stand there -/
inductive Res (α : Type) where
  | ok (x : α) (at_ : Nat)
  | bad (at_ : Nat)
def Res.bind {α β : Type} (r : Res α) (f : α → Nat → Res β) : Res β := match r with
  | .ok x a => f x a
  | .bad a => .bad a
abbrev Prs (α : Type) := List UInt8 → Nat → Res α
def pByte : Prs UInt8 := fun b a => match b[a]? with
  | some x => .ok x (a + 1)
  | none => .bad b.length
/-- so many things, one behind the other -/
def pN {α : Type} (p : Prs α) : Nat → Prs (List α)
  | 0, _, a => .ok [] a
  | n + 1, b, a => (p b a).bind fun x a1 => (pN p n b a1).bind fun l a2 => .ok (x :: l) a2
def val8 (l : List UInt8) : Nat := l.foldl (fun n x => n * 256 + x.toNat) 0
def i64of (n : Nat) : Int := if n < 9223372036854775808 then (n : Int) else (n : Int) - 18446744073709551616
def pNum : Prs Int := fun b a => (pN pByte 8 b a).bind fun l a1 => .ok (i64of (val8 l)) a1
def pSmall : Prs Int := fun b a => (pByte b a).bind fun x a1 => if x.toNat ≤ 127 then .ok (x.toNat : Int) a1 else .bad a
def pSize (each : Nat) : Prs Nat := fun b a => (pByte b a).bind fun x a1 => (pByte b a1).bind fun y a2 => if (x.toNat * 256 + y.toNat) * each ≤ b.length - a2 then .ok (x.toNat * 256 + y.toNat) a2 else .bad a
def pMany {α : Type} (each : Nat) (p : Prs α) : Prs (List α) := fun b a => (pSize each b a).bind fun n a1 => pN p n b a1
def pText : Prs (List UInt8) := pMany 1 pByte
def pPair : Prs (Int × Int) := fun b a => (pNum b a).bind fun x a1 => (pNum b a1).bind fun y a2 => .ok (x, y) a2
def pAct : Prs Acn := fun b a => (pSmall b a).bind fun o a0 => (pNum b a0).bind fun s a1 => (pNum b a1).bind fun p a2 => (pNum b a2).bind fun t a3 => (pMany 8 pNum b a3).bind fun i a4 => (pMany 16 pPair b a4).bind fun q a5 => .ok ⟨o, s, p, t, i, q⟩ a5
def pEvt : Prs Evt := fun b a => (pSmall b a).bind fun k a0 => (pNum b a0).bind fun s a1 => (pNum b a1).bind fun c a2 => (pNum b a2).bind fun i a3 => (pNum b a3).bind fun o a4 => (pNum b a4).bind fun n a5 => (pMany 8 pNum b a5).bind fun q a6 => .ok ⟨k, s, c, i, o, n, q⟩ a6
/-- a letter behind its kind -/
def pBody (k : Int) : Prs Ltr := fun b a =>
  if k = 1 then (pText b a).bind fun t a1 => .ok ⟨1, 0, [], t, [], acn0, 0, 0, []⟩ a1 else
  if k = 64 then (pByte b a).bind fun t a1 => (pNum b a1).bind fun e a2 => .ok ⟨64, 0, [], [], [], acn0, (t.toNat : Int), e, []⟩ a2 else
  if k = 8 then .ok ⟨8, 0, [], [], [], acn0, 0, 0, []⟩ a else
  (pNum b a).bind fun n a1 =>
    if k = 2 then (pText b a1).bind fun t a2 => .ok ⟨2, n, t, [], [], acn0, 0, 0, []⟩ a2 else
    if k = 3 then (pMany 2 pText b a1).bind fun t a2 => .ok ⟨3, n, [], [], t, acn0, 0, 0, []⟩ a2 else
    if k = 4 then (pAct b a1).bind fun t a2 => .ok ⟨4, n, [], [], [], t, 0, 0, []⟩ a2 else
    if k = 65 ∨ k = 67 then (pText b a1).bind fun t a2 => .ok ⟨k, n, [], t, [], acn0, 0, 0, []⟩ a2 else
    if k = 66 then (pMany 43 pEvt b a1).bind fun t a2 => .ok ⟨66, n, [], [], [], acn0, 0, 0, t⟩ a2 else
    .ok ⟨k, n, [], [], [], acn0, 0, 0, []⟩ a1
/-- bytes as a letter: at most 4096 of them -/
def pAll (b : List UInt8) : Res Ltr := (pByte b 0).bind fun k a =>
  if known (k.toNat : Int) = true then (pBody (k.toNat : Int) b a).bind fun l a1 => if a1 < b.length then .bad a1 else .ok l a1 else .bad 0

/-! ### what is written is read -/
/-- x is read where e stands -/
def Rds {α : Type} (p : Prs α) (x : α) (e : List UInt8) : Prop := ∀ (b : List UInt8) (a : Nat) (r : List UInt8), b.drop a = e ++ r → p b a = .ok x (a + e.length)
theorem drop_next {b e r : List UInt8} {a : Nat} (h : b.drop a = e ++ r) : b.drop (a + e.length) = r := by
  rw [← List.drop_drop, h, List.drop_left]
theorem Rds.bind {α β : Type} {p : Prs α} {q : α → Prs β} {x : α} {y : β} {e f : List UInt8} (h1 : Rds p x e) (h2 : Rds (q x) y f) : Rds (fun b a => (p b a).bind fun x a1 => q x b a1) y (e ++ f) := by
  intro b a r h
  rw [List.append_assoc] at h
  show (p b a).bind _ = _
  rw [h1 b a _ h]
  show q x b (a + e.length) = _
  rw [h2 b _ r (drop_next h), List.length_append, Nat.add_assoc]
theorem Rds.pure {α : Type} {x : α} : Rds (fun _ a => .ok x a) x [] := fun b a r h => rfl
theorem rds_byte (x : UInt8) : Rds pByte x [x] := by
  intro b a r h
  have : b[a]? = some x := by
    have h1 : (b.drop a)[0]? = some x := by rw [h]; rfl
    rw [List.getElem?_drop] at h1
    exact h1
  unfold pByte
  rw [this]
  rfl
theorem rds_N {α : Type} {p : Prs α} {enc : α → Option (List UInt8)} : ∀ {l : List α} {e : List UInt8}, (∀ x ∈ l, ∀ e, enc x = some e → Rds p x e) → encL enc l = some e → Rds (pN p l.length) l e
  | [], e, _, h => by
    simp only [encL, Option.some.injEq] at h
    subst h
    exact Rds.pure
  | x :: l, e, hp, h => by
    simp only [encL] at h
    cases hx : enc x with
    | none => rw [hx] at h; cases h
    | some u =>
      rw [hx] at h
      simp only [Option.bind_some] at h
      cases hl : encL enc l with
      | none => rw [hl] at h; cases h
      | some t =>
        rw [hl] at h
        simp only [Option.map_some, Option.some.injEq] at h
        subst h
        have h1 := hp x (by simp) u hx
        have h2 := rds_N (fun y hy => hp y (by simp [hy])) hl
        have h3 : Rds (fun b a => (pN p l.length b a).bind fun l a2 => .ok (x :: l) a2) (x :: l) (t ++ []) := Rds.bind (q := fun l _ a2 => .ok (x :: l) a2) h2 Rds.pure
        rw [List.append_nil] at h3
        exact Rds.bind (q := fun x b a1 => (pN p l.length b a1).bind fun l a2 => .ok (x :: l) a2) h1 h3
theorem val8_be8 (n : Int) : val8 (be8 n) = (n % 18446744073709551616).toNat := by
  have hb : ∀ j, (nb n j).toNat = (n % 18446744073709551616).toNat / 2 ^ (56 - 8 * j) % 256 := fun j => ofNat_toNat (Nat.mod_lt _ (by decide))
  have hlt : (n % 18446744073709551616).toNat < 18446744073709551616 := by
    have h1 := Int.emod_lt_of_pos n (show (0 : Int) < 18446744073709551616 by decide)
    have h2 := Int.emod_nonneg n (show (18446744073709551616 : Int) ≠ 0 by decide)
    omega
  simp only [val8, be8, List.foldl_cons, List.foldl_nil, hb]
  generalize (n % 18446744073709551616).toNat = N at hlt
  simp only [Nat.mul_zero, Nat.sub_zero, Nat.mul_one]
  omega
theorem i64of_val {n : Int} (h : I64 n) : i64of (val8 (be8 n)) = n := by
  rw [val8_be8]
  unfold i64of I64 at *
  split <;> omega
theorem rds_num {n : Int} (h : I64 n) : Rds pNum n (be8 n) := by
  have h1 : Rds (pN pByte 8) (be8 n) (be8 n) := by
    have := rds_N (p := pByte) (enc := fun x => some [x]) (fun x _ e h => by cases h; exact rds_byte x) (l := be8 n) (e := be8 n) (by rw [encL_some]; simp)
    exact this
  have h2 := Rds.bind (q := fun l _ a1 => Res.ok (i64of (val8 l)) a1) h1 (Rds.pure (x := i64of (val8 (be8 n))))
  rw [List.append_nil, i64of_val h] at h2
  exact h2
theorem rds_small {op : Int} {e : List UInt8} (ho : I8 op) (h : wSmall op = some e) : Rds pSmall op e := by
  unfold wSmall at h
  split at h
  · rename_i h0
    cases h
    have hu := ub_pos h0 ho.2
    have h2 : Rds (fun _ a1 => if (ub op).toNat ≤ 127 then Res.ok ((ub op).toNat : Int) a1 else Res.bad a1) op [] := by
      intro b a r hr
      have h3 : (ub op).toNat ≤ 127 := by unfold I8 at ho; omega
      show (if (ub op).toNat ≤ 127 then Res.ok ((ub op).toNat : Int) a else Res.bad a) = _
      rw [if_pos h3, hu]
      rfl
    intro b a r hr
    have h1 := rds_byte (ub op) b a r hr
    unfold pSmall
    rw [h1]
    show (if (ub op).toNat ≤ 127 then Res.ok ((ub op).toNat : Int) _ else Res.bad a) = _
    rw [if_pos (by unfold I8 at ho; omega), hu]
  · cases h
theorem encL_min {α : Type} {enc : α → Option (List UInt8)} {k : Nat} : ∀ {l : List α} {e : List UInt8}, (∀ x ∈ l, ∀ e, enc x = some e → k ≤ e.length) → encL enc l = some e → l.length * k ≤ e.length
  | [], e, _, h => by simp
  | x :: l, e, hk, h => by
    simp only [encL] at h
    cases hx : enc x with
    | none => rw [hx] at h; cases h
    | some u =>
      rw [hx] at h
      simp only [Option.bind_some] at h
      cases hl : encL enc l with
      | none => rw [hl] at h; cases h
      | some t =>
        rw [hl] at h
        simp only [Option.map_some, Option.some.injEq] at h
        subst h
        have h1 := hk x (by simp) u hx
        have h2 := encL_min (fun y hy => hk y (by simp [hy])) hl
        rw [List.length_append, List.length_cons, Nat.add_mul, Nat.one_mul]
        omega
theorem sz2_len' (n : Nat) : (sz2 n).length = 2 := rfl
theorem sz2_val {n : Nat} (h : n ≤ 65535) : (UInt8.ofNat (n / 256 % 256)).toNat * 256 + (UInt8.ofNat (n % 256)).toNat = n := by
  rw [ofNat_toNat (Nat.mod_lt _ (by decide)), ofNat_toNat (Nat.mod_lt _ (by decide))]
  omega
theorem rds_many {α : Type} {p : Prs α} {enc : α → Option (List UInt8)} {each : Nat} {l : List α} {e : List UInt8} (hp : ∀ x ∈ l, ∀ e, enc x = some e → Rds p x e) (hk : ∀ x ∈ l, ∀ e, enc x = some e → each ≤ e.length) (h : encMany enc l = some e) : Rds (pMany each p) l e := by
  unfold encMany at h
  split at h
  · rename_i hn
    cases hl : encL enc l with
    | none => rw [hl] at h; cases h
    | some t =>
      rw [hl] at h
      simp only [Option.map_some, Option.some.injEq] at h
      subst h
      have h2 := rds_N hp hl
      have hmin := encL_min hk hl
      intro b a r hr
      have e1 : sz2 l.length = [UInt8.ofNat (l.length / 256 % 256)] ++ [UInt8.ofNat (l.length % 256)] := rfl
      rw [e1, List.append_assoc, List.append_assoc] at hr
      have k1 : pByte b a = .ok (UInt8.ofNat (l.length / 256 % 256)) (a + 1) := rds_byte _ b a _ hr
      have hr1 : b.drop (a + 1) = [UInt8.ofNat (l.length % 256)] ++ (t ++ r) := drop_next hr
      have k2 : pByte b (a + 1) = .ok (UInt8.ofNat (l.length % 256)) (a + 1 + 1) := rds_byte _ b _ _ hr1
      have hr2 : b.drop (a + 1 + 1) = t ++ r := drop_next hr1
      have hlen : t.length ≤ b.length - (a + 1 + 1) := by
        have := congrArg List.length hr2
        simp only [List.length_drop, List.length_append] at this
        omega
      simp only [pMany, pSize, k1, k2, Res.bind]
      rw [sz2_val hn, if_pos (by omega)]
      show pN p l.length b (a + 1 + 1) = _
      rw [h2 b _ r hr2, List.length_append, sz2_len']
      congr 1
      omega
  · cases h
theorem rds_text {s e : List UInt8} (h : eText s = some e) : Rds pText s e :=
  rds_many (enc := eByte) (fun x _ e h => by cases h; exact rds_byte x) (fun x _ e h => by cases h; exact Nat.le_refl _) h
theorem eText_min {s e : List UInt8} (h : eText s = some e) : 2 ≤ e.length := by
  unfold eText encMany at h
  split at h
  · cases hl : encL eByte s with
    | none => rw [hl] at h; cases h
    | some t => rw [hl] at h; simp only [Option.map_some, Option.some.injEq] at h; subst h; rw [List.length_append, sz2_len']; omega
  · cases h
theorem rds_nums {l : List Int} {e : List UInt8} (hl : ∀ n ∈ l, I64 n) (h : encMany eNum l = some e) : Rds (pMany 8 pNum) l e :=
  rds_many (enc := eNum) (fun x hx e h => by cases h; exact rds_num (hl x hx)) (fun x _ e h => by cases h; exact Nat.le_refl _) h
theorem Rds.map {α β : Type} {p : Prs α} {f : α → β} {x : α} {e : List UInt8} (h : Rds p x e) : Rds (fun b a => (p b a).bind fun x a1 => .ok (f x) a1) (f x) e := by
  have := Rds.bind (q := fun x _ a1 => .ok (f x) a1) h Rds.pure
  rw [List.append_nil] at this
  exact this
theorem rds_pair {p : Int × Int} (h1 : I64 p.1) (h2 : I64 p.2) : Rds pPair p (be8 p.1 ++ be8 p.2) :=
  Rds.bind (q := fun x b a1 => (pNum b a1).bind fun y a2 => .ok (x, y) a2) (rds_num h1) (Rds.map (f := fun y => (p.1, y)) (rds_num h2))
theorem rds_pairs {l : List (Int × Int)} {e : List UInt8} (hl : ∀ p ∈ l, I64 p.1 ∧ I64 p.2) (h : encMany ePair l = some e) : Rds (pMany 16 pPair) l e :=
  rds_many (enc := ePair) (fun x hx e h => by cases h; exact rds_pair (hl x hx).1 (hl x hx).2) (fun x _ e h => by cases h; exact Nat.le_refl _) h
theorem rds_act {x : Acn} {e : List UInt8} (ho : ActN x) (hi : ∀ n ∈ x.ids, I64 n) (hp : ∀ p ∈ x.pairs, I64 p.1 ∧ I64 p.2) (h : eAct x = some e) : Rds pAct x e := by
  unfold eAct at h
  cases h0 : wSmall x.op with
  | none => rw [h0] at h; cases h
  | some e0 =>
    cases h1 : encMany eNum x.ids with
    | none => rw [h0, h1] at h; cases h
    | some e1 =>
      cases h2 : encMany ePair x.pairs with
      | none => rw [h0, h1, h2] at h; cases h
      | some e2 =>
        rw [h0, h1, h2] at h
        simp only [Option.bind_some, Option.map_some, Option.some.injEq, List.flatMap_cons, List.flatMap_nil, List.append_nil, List.append_assoc] at h
        subst h
        obtain ⟨o1, o2, o3, o4⟩ := ho
        exact Rds.bind (q := fun o b a0 => (pNum b a0).bind fun s a1 => (pNum b a1).bind fun p a2 => (pNum b a2).bind fun t a3 => (pMany 8 pNum b a3).bind fun i a4 => (pMany 16 pPair b a4).bind fun q a5 => .ok (⟨o, s, p, t, i, q⟩ : Acn) a5) (rds_small o1 h0)
          (Rds.bind (q := fun s b a1 => (pNum b a1).bind fun p a2 => (pNum b a2).bind fun t a3 => (pMany 8 pNum b a3).bind fun i a4 => (pMany 16 pPair b a4).bind fun q a5 => .ok (⟨x.op, s, p, t, i, q⟩ : Acn) a5) (rds_num o2)
          (Rds.bind (q := fun p b a2 => (pNum b a2).bind fun t a3 => (pMany 8 pNum b a3).bind fun i a4 => (pMany 16 pPair b a4).bind fun q a5 => .ok (⟨x.op, x.side, p, t, i, q⟩ : Acn) a5) (rds_num o3)
          (Rds.bind (q := fun t b a3 => (pMany 8 pNum b a3).bind fun i a4 => (pMany 16 pPair b a4).bind fun q a5 => .ok (⟨x.op, x.side, x.place, t, i, q⟩ : Acn) a5) (rds_num o4)
          (Rds.bind (q := fun i b a4 => (pMany 16 pPair b a4).bind fun q a5 => .ok (⟨x.op, x.side, x.place, x.target, i, q⟩ : Acn) a5) (rds_nums hi h1)
          (Rds.map (f := fun q => (⟨x.op, x.side, x.place, x.target, x.ids, q⟩ : Acn)) (rds_pairs hp h2))))))
def EvtN (x : Evt) : Prop := I8 x.kind ∧ I64 x.side ∧ I64 x.card ∧ I64 x.id ∧ I64 x.other ∧ I64 x.n ∧ ∀ n ∈ x.cards, I64 n
theorem rds_evt {x : Evt} {e : List UInt8} (ho : EvtN x) (h : eEvt x = some e) : Rds pEvt x e ∧ 43 ≤ e.length := by
  unfold eEvt at h
  cases h0 : wSmall x.kind with
  | none => rw [h0] at h; cases h
  | some e0 =>
    cases h1 : encMany eNum x.cards with
    | none => rw [h0, h1] at h; cases h
    | some e1 =>
      rw [h0, h1] at h
      simp only [Option.bind_some, Option.map_some, Option.some.injEq, List.flatMap_cons, List.flatMap_nil, List.append_nil, List.append_assoc] at h
      subst h
      obtain ⟨o1, o2, o3, o4, o5, o6, hc⟩ := ho
      refine ⟨Rds.bind (q := fun k b a0 => (pNum b a0).bind fun s a1 => (pNum b a1).bind fun c a2 => (pNum b a2).bind fun i a3 => (pNum b a3).bind fun o a4 => (pNum b a4).bind fun n a5 => (pMany 8 pNum b a5).bind fun q a6 => .ok (⟨k, s, c, i, o, n, q⟩ : Evt) a6) (rds_small o1 h0)
          (Rds.bind (q := fun s b a1 => (pNum b a1).bind fun c a2 => (pNum b a2).bind fun i a3 => (pNum b a3).bind fun o a4 => (pNum b a4).bind fun n a5 => (pMany 8 pNum b a5).bind fun q a6 => .ok (⟨x.kind, s, c, i, o, n, q⟩ : Evt) a6) (rds_num o2)
          (Rds.bind (q := fun c b a2 => (pNum b a2).bind fun i a3 => (pNum b a3).bind fun o a4 => (pNum b a4).bind fun n a5 => (pMany 8 pNum b a5).bind fun q a6 => .ok (⟨x.kind, x.side, c, i, o, n, q⟩ : Evt) a6) (rds_num o3)
          (Rds.bind (q := fun i b a3 => (pNum b a3).bind fun o a4 => (pNum b a4).bind fun n a5 => (pMany 8 pNum b a5).bind fun q a6 => .ok (⟨x.kind, x.side, x.card, i, o, n, q⟩ : Evt) a6) (rds_num o4)
          (Rds.bind (q := fun o b a4 => (pNum b a4).bind fun n a5 => (pMany 8 pNum b a5).bind fun q a6 => .ok (⟨x.kind, x.side, x.card, x.id, o, n, q⟩ : Evt) a6) (rds_num o5)
          (Rds.bind (q := fun n b a5 => (pMany 8 pNum b a5).bind fun q a6 => .ok (⟨x.kind, x.side, x.card, x.id, x.other, n, q⟩ : Evt) a6) (rds_num o6)
          (Rds.map (f := fun q => (⟨x.kind, x.side, x.card, x.id, x.other, x.n, q⟩ : Evt)) (rds_nums hc h1))))))), ?_⟩
      have l0 := wSmall_len h0
      have l1 : 2 ≤ e1.length := by
        unfold encMany at h1
        split at h1
        · cases hl : encL eNum x.cards with
          | none => rw [hl] at h1; cases h1
          | some t => rw [hl] at h1; simp only [Option.map_some, Option.some.injEq] at h1; subst h1; rw [List.length_append, sz2_len']; omega
        · cases h1
      simp only [List.length_append, be8_len]
      omega
/-- the numbers of a letter are in their kinds' ranges -/
def OkR (x : Ltr) : Prop := U8 x.kind ∧ I64 x.table ∧ ActN x.act ∧ (∀ n ∈ x.act.ids, I64 n) ∧ (∀ p ∈ x.act.pairs, I64 p.1 ∧ I64 p.2) ∧ U8 x.to_ ∧ I64 x.e ∧ ∀ e ∈ x.evs, EvtN e
theorem LtA.okR {m : Go.Eng.Mp} {l : List Go.Value} {x : Ltr} (h : LtA m l x) : OkR x := by
  obtain ⟨_, _, _, _, _, _, _, _, ⟨_, _, _, _, _, hi⟩, ⟨_, _, _, _, _, hp⟩, ⟨_, _, _, _, _, he⟩, r1, r2, r3, r4, r5, r6, r7⟩ := h
  refine ⟨r1, r2, r5, fun n hn => ?_, fun p hq => ?_, r6, r7, fun e hq => ?_⟩
  · obtain ⟨i, hj, rfl⟩ := List.getElem_of_mem hn; exact (hi i hj).2
  · obtain ⟨i, hj, rfl⟩ := List.getElem_of_mem hq; exact ⟨(hp i hj).2.2.1, (hp i hj).2.2.2⟩
  · obtain ⟨i, hj, rfl⟩ := List.getElem_of_mem hq
    obtain ⟨vc, _, _, _, _, _, _, _, ⟨_, _, _, _, _, hc⟩, q1, q2, q3, q4, q5, q6⟩ := he i hj
    refine ⟨q1, q2, q3, q4, q5, q6, fun n hn => ?_⟩
    obtain ⟨k, hk, rfl⟩ := List.getElem_of_mem hn
    exact (hc k hk).2
theorem right_known {x : Ltr} (h : rightP x = true) : known x.kind = true := by
  cases hk : known x.kind with
  | true => rfl
  | false => rw [rightP, hk] at h; cases h
theorem rds_body {x : Ltr} {e : List UInt8} (hr : rightP x = true) (ho : OkR x) (h : eBody x = some e) : Rds (pBody x.kind) x e := by
  have hq := (flat_right (right_known hr)).2 hr
  obtain ⟨o1, o2, o3, o4, o5, o6, o7, o8⟩ := ho
  have table : ∀ {f : Int → Prs Ltr} {e2 : List UInt8}, x.kind ≠ 1 → x.kind ≠ 64 → x.kind ≠ 8 → (∀ b a, pBody x.kind b a = (pNum b a).bind fun n a1 => f n b a1) → Rds (f x.table) x e2 → Rds (pBody x.kind) x (be8 x.table ++ e2) := fun {f} {e2} _ _ _ hf h2 b a r hb => by
    rw [hf]
    exact Rds.bind (q := f) (rds_num o2) h2 b a r hb
  rcases known_or (right_known hr) with hk | hk | hk | hk | hk | hk | hk | hk | hk | hk | hk | hk
  · rw [flat_1 hk] at hq
    rw [eBody, if_pos hk] at h
    intro b a r hb
    rw [pBody, if_pos hk, rds_text h b a r hb]
    show Res.ok _ _ = _
    rw [hq]
  · rw [flat_2 hk] at hq
    rw [eBody, if_neg (by omega), if_neg (by omega), if_neg (by omega), if_pos hk] at h
    cases hen : eText x.text with
    | none => rw [hen] at h; cases h
    | some e2 =>
      rw [hen] at h
      cases h
      refine table (f := fun n b a1 => (pText b a1).bind fun t a2 => .ok (⟨2, n, t, [], [], acn0, 0, 0, []⟩ : Ltr) a2) (by omega) (by omega) (by omega) (fun b a => ?_) ?_
      · rw [pBody, if_neg (by omega), if_neg (by omega), if_neg (by omega)]
        congr 1
        funext n a1
        rw [if_pos hk]
      · intro b a r hb
        dsimp only
        rw [rds_text hen b a r hb]
        show Res.ok _ _ = _
        rw [hq]
  · rw [flat_3 hk] at hq
    rw [eBody, if_neg (by omega), if_neg (by omega), if_neg (by omega), if_neg (by omega), if_pos hk] at h
    cases hen : encMany eText x.cards with
    | none => rw [hen] at h; cases h
    | some e2 =>
      rw [hen] at h
      cases h
      refine table (f := fun n b a1 => (pMany 2 pText b a1).bind fun t a2 => .ok (⟨3, n, [], [], t, acn0, 0, 0, []⟩ : Ltr) a2) (by omega) (by omega) (by omega) (fun b a => ?_) ?_
      · rw [pBody, if_neg (by omega), if_neg (by omega), if_neg (by omega)]
        congr 1
        funext n a1
        rw [if_neg (by omega), if_pos hk]
      · intro b a r hb
        dsimp only
        rw [rds_many (enc := eText) (fun _ _ _ h => rds_text h) (fun _ _ _ h => eText_min h) hen b a r hb]
        show Res.ok _ _ = _
        rw [hq]
  · rw [flat_4 hk] at hq
    rw [eBody, if_neg (by omega), if_neg (by omega), if_neg (by omega), if_neg (by omega), if_neg (by omega), if_pos hk] at h
    cases hen : eAct x.act with
    | none => rw [hen] at h; cases h
    | some e2 =>
      rw [hen] at h
      cases h
      refine table (f := fun n b a1 => (pAct b a1).bind fun t a2 => .ok (⟨4, n, [], [], [], t, 0, 0, []⟩ : Ltr) a2) (by omega) (by omega) (by omega) (fun b a => ?_) ?_
      · rw [pBody, if_neg (by omega), if_neg (by omega), if_neg (by omega)]
        congr 1
        funext n a1
        rw [if_neg (by omega), if_neg (by omega), if_pos hk]
      · intro b a r hb
        dsimp only
        rw [rds_act o3 o4 o5 hen b a r hb]
        show Res.ok _ _ = _
        rw [hq]
  · rw [flat_5 hk] at hq
    rw [eBody, if_neg (by omega), if_neg (by omega), if_neg (by omega), if_neg (by omega), if_neg (by omega), if_neg (by omega), if_neg (by omega), if_neg (by omega)] at h
    cases h
    have := table (f := fun n _ a1 => .ok ⟨x.kind, n, [], [], [], acn0, 0, 0, []⟩ a1) (e2 := []) (by omega) (by omega) (by omega) (fun b a => by
      rw [pBody, if_neg (by omega), if_neg (by omega), if_neg (by omega)]
      congr 1
      funext n a1
      rw [if_neg (by omega), if_neg (by omega), if_neg (by omega), if_neg (by omega), if_neg (by omega)]) (by
      intro b a r hb
      show Res.ok _ _ = _
      rw [hk, hq]
      rfl)
    rw [List.append_nil] at this
    exact this
  · rw [flat_6 hk] at hq
    rw [eBody, if_neg (by omega), if_neg (by omega), if_neg (by omega), if_neg (by omega), if_neg (by omega), if_neg (by omega), if_neg (by omega), if_neg (by omega)] at h
    cases h
    have := table (f := fun n _ a1 => .ok ⟨x.kind, n, [], [], [], acn0, 0, 0, []⟩ a1) (e2 := []) (by omega) (by omega) (by omega) (fun b a => by
      rw [pBody, if_neg (by omega), if_neg (by omega), if_neg (by omega)]
      congr 1
      funext n a1
      rw [if_neg (by omega), if_neg (by omega), if_neg (by omega), if_neg (by omega), if_neg (by omega)]) (by
      intro b a r hb
      show Res.ok _ _ = _
      rw [hk, hq]
      rfl)
    rw [List.append_nil] at this
    exact this
  · rw [flat_7 hk] at hq
    rw [eBody, if_neg (by omega), if_neg (by omega), if_neg (by omega), if_neg (by omega), if_neg (by omega), if_neg (by omega), if_neg (by omega), if_neg (by omega)] at h
    cases h
    have := table (f := fun n _ a1 => .ok ⟨x.kind, n, [], [], [], acn0, 0, 0, []⟩ a1) (e2 := []) (by omega) (by omega) (by omega) (fun b a => by
      rw [pBody, if_neg (by omega), if_neg (by omega), if_neg (by omega)]
      congr 1
      funext n a1
      rw [if_neg (by omega), if_neg (by omega), if_neg (by omega), if_neg (by omega), if_neg (by omega)]) (by
      intro b a r hb
      show Res.ok _ _ = _
      rw [hk, hq]
      rfl)
    rw [List.append_nil] at this
    exact this
  · rw [flat_8 hk] at hq
    rw [eBody, if_neg (by omega), if_neg (by omega), if_pos hk] at h
    cases h
    intro b a r hb
    rw [pBody, if_neg (by omega), if_neg (by omega), if_pos hk, hq]
    rfl
  · rw [flat_64 hk] at hq
    rw [eBody, if_neg (by omega), if_pos hk] at h
    cases h
    intro b a r hb
    have h1 := Rds.bind (q := fun t b a1 => (pNum b a1).bind fun e a2 => .ok (⟨64, 0, [], [], [], acn0, (t.toNat : Int), e, []⟩ : Ltr) a2) (rds_byte (ub x.to_)) (Rds.map (f := fun e => (⟨64, 0, [], [], [], acn0, ((ub x.to_).toNat : Int), e, []⟩ : Ltr)) (rds_num o7)) b a r hb
    rw [pBody, if_neg (by omega), if_pos hk]
    refine h1.trans ?_
    rw [← ub_u8 o6, hq]
    rfl
  · rw [flat_65 hk] at hq
    rw [eBody, if_neg (by omega), if_neg (by omega), if_neg (by omega), if_neg (by omega), if_neg (by omega), if_neg (by omega), if_pos (.inl hk)] at h
    cases hen : eText x.bytes with
    | none => rw [hen] at h; cases h
    | some e2 =>
      rw [hen] at h
      cases h
      refine table (f := fun n b a1 => (pText b a1).bind fun t a2 => .ok (⟨x.kind, n, [], t, [], acn0, 0, 0, []⟩ : Ltr) a2) (by omega) (by omega) (by omega) (fun b a => ?_) ?_
      · rw [pBody, if_neg (by omega), if_neg (by omega), if_neg (by omega)]
        congr 1
        funext n a1
        rw [if_neg (by omega), if_neg (by omega), if_neg (by omega), if_pos (.inl hk)]
      · intro b a r hb
        dsimp only
        rw [rds_text hen b a r hb]
        show Res.ok _ _ = _
        rw [hk, hq]
  · rw [flat_66 hk] at hq
    rw [eBody, if_neg (by omega), if_neg (by omega), if_neg (by omega), if_neg (by omega), if_neg (by omega), if_neg (by omega), if_neg (by omega), if_pos hk] at h
    cases hen : encMany eEvt x.evs with
    | none => rw [hen] at h; cases h
    | some e2 =>
      rw [hen] at h
      cases h
      refine table (f := fun n b a1 => (pMany 43 pEvt b a1).bind fun t a2 => .ok (⟨66, n, [], [], [], acn0, 0, 0, t⟩ : Ltr) a2) (by omega) (by omega) (by omega) (fun b a => ?_) ?_
      · rw [pBody, if_neg (by omega), if_neg (by omega), if_neg (by omega)]
        congr 1
        funext n a1
        rw [if_neg (by omega), if_neg (by omega), if_neg (by omega), if_neg (by omega), if_pos hk]
      · intro b a r hb
        dsimp only
        rw [rds_many (enc := eEvt) (fun y hy _ h => (rds_evt (o8 y hy) h).1) (fun y hy _ h => (rds_evt (o8 y hy) h).2) hen b a r hb]
        show Res.ok _ _ = _
        rw [hq]
  · rw [flat_67 hk] at hq
    rw [eBody, if_neg (by omega), if_neg (by omega), if_neg (by omega), if_neg (by omega), if_neg (by omega), if_neg (by omega), if_pos (.inr hk)] at h
    cases hen : eText x.bytes with
    | none => rw [hen] at h; cases h
    | some e2 =>
      rw [hen] at h
      cases h
      refine table (f := fun n b a1 => (pText b a1).bind fun t a2 => .ok (⟨x.kind, n, [], t, [], acn0, 0, 0, []⟩ : Ltr) a2) (by omega) (by omega) (by omega) (fun b a => ?_) ?_
      · rw [pBody, if_neg (by omega), if_neg (by omega), if_neg (by omega)]
        congr 1
        funext n a1
        rw [if_neg (by omega), if_neg (by omega), if_neg (by omega), if_pos (.inr hk)]
      · intro b a r hb
        dsimp only
        rw [rds_text hen b a r hb]
        show Res.ok _ _ = _
        rw [hk, hq]
theorem rds_all {x : Ltr} {e : List UInt8} (hr : rightP x = true) (ho : OkR x) (h : eAll x = some e) : pAll e = .ok x e.length := by
  unfold eAll at h
  cases hb : eBody x with
  | none => rw [hb] at h; cases h
  | some t =>
    rw [hb] at h
    simp only [Option.map_some, Option.some.injEq] at h
    subst h
    have h1 := rds_byte (ub x.kind) (ub x.kind :: t) 0 t rfl
    have h2 := rds_body hr ho hb (ub x.kind :: t) 1 [] (by simp)
    unfold pAll
    rw [h1]
    show (if known (((ub x.kind).toNat : Nat) : Int) = true then _ else _) = _
    rw [← ub_u8 ho.1, if_pos (right_known hr)]
    show ((pBody x.kind (ub x.kind :: t) 1).bind _) = _
    rw [h2]
    show (if 1 + t.length < (ub x.kind :: t).length then _ else _) = _
    rw [if_neg (by simp; omega)]
    congr 1
    simp
    omega
end Go.Proofs.Ytbpihgphicmdiaa
