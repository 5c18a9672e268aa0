/- Plain: which numbers, conditions, effects and cards may be. No condition. -/
import Derived.Test.YtbghonkgflolaaaDoorKdP
namespace Kd
open Go Go.Eng
def numHead (t : Bool) (op n who : Int) (k : Nat) : Bool :=
  if op = 0 then decide (0 ≤ n) && decide (n ≤ 999) && decide (who = 0) && decide (k = 0)
  else if op = 1 ∨ op = 2 ∨ op = 3 ∨ op = 4 then decide (n = 0) && sideB who && decide (k = 0)
  else if op = 5 ∨ op = 6 then decide (n = 0) && decide (who = 0) && decide (k = 0)
  else if op = 7 then decide (n = 0) && (decide (who = 0) && t) && decide (k = 0)
  else if op = 8 ∨ op = 9 ∨ op = 10 ∨ op = 11 ∨ op = 12 then decide (n = 0) && decide (who = 0) && decide (k = 2)
  else false
inductive NumOk (t : Bool) : NumT → Prop
  | mk {op n who : Int} {kids : List NumT} (hh : numHead t op n who kids.length = true) (hk : ∀ (i : Nat) (h : i < kids.length), NumOk t kids[i]) : NumOk t (.mk op n who kids)
/-- what is known of names: is there a card, and is it a unit? -/
abbrev Us := List UInt8 → Option Bool
def condHead (u : Us) (op who : Int) (name : List UInt8) (a b : Nat) : Bool :=
  if op = 0 ∨ op = 1 ∨ op = 2 then (decide (who = 0) && decide (name = [])) && decide (a = 2) && decide (b = 0)
  else if op = 3 then (decide (who = 0) && decide (name = [])) && decide (a = 0) && decide (b = 1)
  else if op = 4 ∨ op = 5 then (decide (who = 0) && decide (name = [])) && decide (a = 0) && decide (b = 2)
  else if op = 6 then ((u name).isSome && sideB who) && decide (a = 0) && decide (b = 0)
  else false
inductive CondOk (u : Us) (t : Bool) : CondT → Prop
  | mk {op who : Int} {name : List UInt8} {nums : List NumT} {kids : List CondT} (hh : condHead u op who name nums.length kids.length = true) (hn : ∀ (i : Nat) (h : i < nums.length), NumOk t nums[i]) (hk : ∀ (i : Nat) (h : i < kids.length), CondOk u t kids[i]) : CondOk u t (.mk op who name nums kids)
/-- four lengths together, as the machine adds them -/
def wsum (a b c d : Nat) : Int := IntKind.i64.wrap (IntKind.i64.wrap (IntKind.i64.wrap ((a : Int) + b) + c) + d)
def zeroP : EffT → Bool
  | .mk op _ (.mk nop nn nwho nk) name (.mk cop cwho cname cns ck) t e =>
    (countsB op || (decide (nop = 0) && decide (nn = 0) && decide (nwho = 0) && decide (nk.length = 0))) && (decide (op = 7) || decide (name = [])) &&
    (decide (op = 8) || (decide (cop = 0) && decide (cwho = 0) && decide (cname = []) && decide (wsum cns.length ck.length t.length e.length = 0)))
def whoHead (u : Us) (t : Bool) (op who : Int) (name : List UInt8) : Bool :=
  if op = 0 ∨ op = 1 then sideB who || (decide (who = 2) && t)
  else if op = 2 ∨ op = 4 ∨ op = 6 then sideB who
  else if op = 3 ∨ op = 5 then decide (who = 0)
  else if op = 7 then decide (who = 0) && (u name).getD false
  else if op = 8 then decide (who = 0)
  else false
inductive EffOk (u : Us) (t : Bool) : Nat → EffT → Prop
  | mk {d : Nat} {op who : Int} {n : NumT} {name : List UInt8} {c : CondT} {a b : List EffT} (hz : zeroP (.mk op who n name c a b) = true) (hn : countsB op = true → NumOk t n) (hw : whoHead u t op who name = true)
      (hc : op = 8 → CondOk u t c) (ha : op = 8 → a.length ≤ 16 ∧ d + 1 ≤ 8) (hak : op = 8 → ∀ (i : Nat) (h : i < a.length), EffOk u t (d + 1) a[i])
      (hb : op = 8 → b.length ≤ 16) (hbk : op = 8 → ∀ (i : Nat) (h : i < b.length), EffOk u t (d + 1) b[i]) : EffOk u t d (.mk op who n name c a b)
def ListOk (u : Us) (t : Bool) (d : Nat) (l : List EffT) : Prop := l.length ≤ 16 ∧ d ≤ 8 ∧ ∀ (i : Nat) (h : i < l.length), EffOk u t d l[i]
end Kd
namespace Kd
open Go Go.Eng
/-- names and whether they are of units, as a map -/
def esU (l : List (List UInt8 × Bool)) : List (List UInt8 × Value) := l.map fun p => (p.1, .bool p.2)
def uOf (l : List (List UInt8 × Bool)) : Us := fun s => (l.find? fun p => decide (s = p.1)).map (·.2)
theorem findM_esU {s : List UInt8} : ∀ (l : List (List UInt8 × Bool)) (i : Nat), (findM s i (esU l)).map (·.2) = (uOf l s).map .bool
  | [], _ => rfl
  | (k, b) :: r, i => by
    show (if s = k then some (i, Value.bool b) else findM s (i + 1) (esU r)).map (·.2) = _
    unfold uOf
    by_cases h : s = k
    · rw [if_pos h, List.find?_cons_of_pos (by simpa using h)]
      rfl
    · rw [if_neg h, List.find?_cons_of_neg (by simpa using h)]
      exact findM_esU r (i + 1)
theorem getM_esU {s : List UInt8} {l : List (List UInt8 × Bool)} : getM (esU l) s = (uOf l s).map .bool := findM_esU l 0
theorem putM_esU {s : List UInt8} {l : List (List UInt8 × Bool)} {b : Bool} (h : uOf l s = none) : putM (esU l) s (.bool b) = esU (l ++ [(s, b)]) := by
  have h2 : findM s 0 (esU l) = none := by
    have := findM_esU (s := s) l 0
    rw [h] at this
    simpa using this
  unfold putM
  rw [h2]
  simp [esU]
theorem uOf_snoc {s x : List UInt8} {b : Bool} {l : List (List UInt8 × Bool)} : uOf (l ++ [(x, b)]) s = match uOf l s with | some v => some v | none => if s = x then some b else none := by
  unfold uOf
  rw [List.find?_append]
  cases h : l.find? (fun p => decide (s = p.1)) with
  | some v => simp
  | none =>
    simp only [Option.none_or, Option.map_none]
    by_cases hs : s = x <;> simp [hs]
end Kd
