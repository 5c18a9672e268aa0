/- Plain: how bytes are read as letters, and that what is written is read as it was. No condition. -/
import Derived.Test.YtbpihgphicmdiaaWiO
namespace Go.Proofs.Ytbpihgphicmdiaa
open Wi
/-- what reading tells: a thing, and where it ends; or the first byte that can't stand there -/
inductive Res (α : Type) where
  | ok (x : α) (at_ : Nat)
  | bad (at_ : Nat)
def Res.bind {α β : Type} (r : Res α) (f : α → Nat → Res β) : Res β := match r with
  | .ok x a => f x a
  | .bad a => .bad a
abbrev Prs (α : Type) := List UInt8 → Nat → Res α
def pByte : Prs UInt8 := fun b a => match b[a]? with
  | some x => .ok x (a + 1)
  | none => .bad b.length
/-- so many things, one behind the other -/
def pN {α : Type} (p : Prs α) : Nat → Prs (List α)
  | 0, _, a => .ok [] a
  | n + 1, b, a => (p b a).bind fun x a1 => (pN p n b a1).bind fun l a2 => .ok (x :: l) a2
def val8 (l : List UInt8) : Nat := l.foldl (fun n x => n * 256 + x.toNat) 0
def i64of (n : Nat) : Int := if n < 9223372036854775808 then (n : Int) else (n : Int) - 18446744073709551616
def pNum : Prs Int := fun b a => (pN pByte 8 b a).bind fun l a1 => .ok (i64of (val8 l)) a1
def pSmall : Prs Int := fun b a => (pByte b a).bind fun x a1 => if x.toNat ≤ 127 then .ok (x.toNat : Int) a1 else .bad a
def pSize (each : Nat) : Prs Nat := fun b a => (pByte b a).bind fun x a1 => (pByte b a1).bind fun y a2 => if (x.toNat * 256 + y.toNat) * each ≤ b.length - a2 then .ok (x.toNat * 256 + y.toNat) a2 else .bad a
def pMany {α : Type} (each : Nat) (p : Prs α) : Prs (List α) := fun b a => (pSize each b a).bind fun n a1 => pN p n b a1
def pText : Prs (List UInt8) := pMany 1 pByte
def pPair : Prs (Int × Int) := fun b a => (pNum b a).bind fun x a1 => (pNum b a1).bind fun y a2 => .ok (x, y) a2
def pAct : Prs Acn := fun b a => (pSmall b a).bind fun o a0 => (pNum b a0).bind fun s a1 => (pNum b a1).bind fun p a2 => (pNum b a2).bind fun t a3 => (pMany 8 pNum b a3).bind fun i a4 => (pMany 16 pPair b a4).bind fun q a5 => .ok ⟨o, s, p, t, i, q⟩ a5
def pEvt : Prs Evt := fun b a => (pSmall b a).bind fun k a0 => (pNum b a0).bind fun s a1 => (pNum b a1).bind fun c a2 => (pNum b a2).bind fun i a3 => (pNum b a3).bind fun o a4 => (pNum b a4).bind fun n a5 => (pMany 8 pNum b a5).bind fun q a6 => .ok ⟨k, s, c, i, o, n, q⟩ a6
/-- a letter behind its kind -/
def pBody (k : Int) : Prs Ltr := fun b a =>
  if k = 1 then (pText b a).bind fun t a1 => .ok ⟨1, 0, [], t, [], acn0, 0, 0, []⟩ a1 else
  if k = 64 then (pByte b a).bind fun t a1 => (pNum b a1).bind fun e a2 => .ok ⟨64, 0, [], [], [], acn0, (t.toNat : Int), e, []⟩ a2 else
  if k = 8 then .ok ⟨8, 0, [], [], [], acn0, 0, 0, []⟩ a else
  (pNum b a).bind fun n a1 =>
    if k = 2 then (pText b a1).bind fun t a2 => .ok ⟨2, n, t, [], [], acn0, 0, 0, []⟩ a2 else
    if k = 3 then (pMany 2 pText b a1).bind fun t a2 => .ok ⟨3, n, [], [], t, acn0, 0, 0, []⟩ a2 else
    if k = 4 then (pAct b a1).bind fun t a2 => .ok ⟨4, n, [], [], [], t, 0, 0, []⟩ a2 else
    if k = 65 ∨ k = 67 then (pText b a1).bind fun t a2 => .ok ⟨k, n, [], t, [], acn0, 0, 0, []⟩ a2 else
    if k = 66 then (pMany 43 pEvt b a1).bind fun t a2 => .ok ⟨66, n, [], [], [], acn0, 0, 0, t⟩ a2 else
    .ok ⟨k, n, [], [], [], acn0, 0, 0, []⟩ a1
/-- bytes as a letter: at most 4096 of them -/
def pAll (b : List UInt8) : Res Ltr := (pByte b 0).bind fun k a =>
  if known (k.toNat : Int) = true then (pBody (k.toNat : Int) b a).bind fun l a1 => if a1 < b.length then .bad a1 else .ok l a1 else .bad 0

/-! ### what is written is read -/
/-- x is read where e stands -/
def Rds {α : Type} (p : Prs α) (x : α) (e : List UInt8) : Prop := ∀ (b : List UInt8) (a : Nat) (r : List UInt8), b.drop a = e ++ r → p b a = .ok x (a + e.length)
theorem drop_next {b e r : List UInt8} {a : Nat} (h : b.drop a = e ++ r) : b.drop (a + e.length) = r := by
  rw [← List.drop_drop, h, List.drop_left]
theorem Rds.bind {α β : Type} {p : Prs α} {q : α → Prs β} {x : α} {y : β} {e f : List UInt8} (h1 : Rds p x e) (h2 : Rds (q x) y f) : Rds (fun b a => (p b a).bind fun x a1 => q x b a1) y (e ++ f) := by
  intro b a r h
  rw [List.append_assoc] at h
  show (p b a).bind _ = _
  rw [h1 b a _ h]
  show q x b (a + e.length) = _
  rw [h2 b _ r (drop_next h), List.length_append, Nat.add_assoc]
theorem Rds.pure {α : Type} {x : α} : Rds (fun _ a => .ok x a) x [] := fun b a r h => rfl
theorem Rds.map {α β : Type} {p : Prs α} {f : α → β} {x : α} {e : List UInt8} (h : Rds p x e) : Rds (fun b a => (p b a).bind fun x a1 => .ok (f x) a1) (f x) e := by
  have := Rds.bind (q := fun x _ a1 => .ok (f x) a1) h Rds.pure
  rw [List.append_nil] at this
  exact this
def EvtN (x : Evt) : Prop := I8 x.kind ∧ I64 x.side ∧ I64 x.card ∧ I64 x.id ∧ I64 x.other ∧ I64 x.n ∧ ∀ n ∈ x.cards, I64 n
/-- the numbers of a letter are in their kinds' ranges -/
def OkR (x : Ltr) : Prop := U8 x.kind ∧ I64 x.table ∧ ActN x.act ∧ (∀ n ∈ x.act.ids, I64 n) ∧ (∀ p ∈ x.act.pairs, I64 p.1 ∧ I64 p.2) ∧ U8 x.to_ ∧ I64 x.e ∧ ∀ e ∈ x.evs, EvtN e
end Go.Proofs.Ytbpihgphicmdiaa
