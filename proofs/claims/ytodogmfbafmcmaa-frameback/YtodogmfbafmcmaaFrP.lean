/- Plain: what a reader holds, fed byte by byte. No condition. -/
namespace Fr
/-- where whole frames end -/
def endsFrom (k : Nat) : List (List UInt8) → List Nat
  | [] => []
  | r :: rs => (k + r.length) :: endsFrom (k + r.length) rs
def lenOf (a b : UInt8) : Nat := a.toNat * 256 + b.toNat
def needOf : List UInt8 → Nat
  | [] => 0
  | [a] => a.toNat * 256
  | a :: b :: q => lenOf a b - q.length
def stOf : List UInt8 → Nat
  | [] => 0
  | [_] => 1
  | _ :: _ :: _ => 2
def okP : List UInt8 → Prop
  | a :: b :: q => 0 < lenOf a b ∧ lenOf a b ≤ 4096 ∧ q.length < lenOf a b
  | _ => True
def feedP : List (List UInt8) → List UInt8 → List UInt8 → List (List UInt8) × List UInt8 × Bool
  | R, p, [] => (R, p, false)
  | R, [], x :: xs => feedP R [x] xs
  | R, [a], x :: xs => if 0 < lenOf a x ∧ lenOf a x ≤ 4096 then feedP R [a, x] xs else (R, [], true)
  | R, a :: b :: q, x :: xs => if q.length + 1 = lenOf a b then feedP (R ++ [a :: b :: q ++ [x]]) [] xs else feedP R (a :: b :: q ++ [x]) xs
theorem endsFrom_length (k : Nat) (R : List (List UInt8)) : (endsFrom k R).length = R.length := by
  induction R generalizing k with
  | nil => rfl
  | cons r rs ih => simp [endsFrom, ih]
theorem endsFrom_snoc (k : Nat) (R : List (List UInt8)) (r : List UInt8) : endsFrom k (R ++ [r]) = endsFrom k R ++ [k + R.flatten.length + r.length] := by
  induction R generalizing k with
  | nil => simp [endsFrom]
  | cons a rs ih => simp [endsFrom, ih, Nat.add_assoc]
end Fr
