/- Plain: labels of numbers, conditions, effects. No condition. -/
import Derived.Test.YtigmehimficmlaaLaP
import Derived.Test.YtigmehimficmlaaEng
namespace La
open Go.Eng
mutual
def numL : NumT → Int
  | .mk op _ _ kids => if op = 6 then 3 else if 8 ≤ op ∧ op ≤ 12 then numsL 0 kids else 0
def numsL : Int → List NumT → Int
  | l, [] => l
  | l, k :: r => numsL (joinP l (numL k)) r
end
mutual
def condL : CondT → Int
  | .mk op who _ nums kids => if op = 6 then (if who = 0 then 1 else if who = 1 then 2 else 3) else condsL (numsL 0 nums) kids
def condsL : Int → List CondT → Int
  | l, [] => l
  | l, k :: r => condsL (joinP l (condL k)) r
end
mutual
def rightE : Int → EffT → Bool
  | u, .mk op _ n _ cond thn els =>
    if op = 5 then flowsP (joinP u (numL n)) 1
    else if op = 8 then rightS (joinP u (condL cond)) thn && rightS (joinP u (condL cond)) els
    else if 0 ≤ op ∧ op ≤ 3 then decide (joinP u (numL n) = 0)
    else decide (knownP u = 0)
def rightS : Int → List EffT → Bool
  | _, [] => true
  | u, x :: r => rightE u x && rightS u r
end
theorem numsL_append (l : Int) (a b : List NumT) : numsL l (a ++ b) = numsL (numsL l a) b := by
  induction a generalizing l with
  | nil => simp [numsL]
  | cons x r ih => simp [numsL, ih]
theorem condsL_append (l : Int) (a b : List CondT) : condsL l (a ++ b) = condsL (condsL l a) b := by
  induction a generalizing l with
  | nil => simp [condsL]
  | cons x r ih => simp [condsL, ih]
theorem rightS_append (u : Int) (a b : List EffT) : rightS u (a ++ b) = (rightS u a && rightS u b) := by
  induction a with
  | nil => simp [rightS]
  | cons x r ih => simp [rightS, ih, Bool.and_assoc]
theorem numsL_succ {l : Int} {k : List NumT} {i : Nat} (h : i < k.length) : numsL l (k.take (i + 1)) = joinP (numsL l (k.take i)) (numL k[i]) := by
  rw [List.take_succ_eq_append_getElem h, numsL_append]; simp [numsL]
theorem condsL_succ {l : Int} {k : List CondT} {i : Nat} (h : i < k.length) : condsL l (k.take (i + 1)) = joinP (condsL l (k.take i)) (condL k[i]) := by
  rw [List.take_succ_eq_append_getElem h, condsL_append]; simp [condsL]
theorem rightS_succ {u : Int} {k : List EffT} {i : Nat} (h : i < k.length) : rightS u (k.take (i + 1)) = (rightS u (k.take i) && rightE u k[i]) := by
  rw [List.take_succ_eq_append_getElem h, rightS_append]; simp [rightS]
end La
