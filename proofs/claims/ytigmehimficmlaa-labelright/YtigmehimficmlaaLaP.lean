/- Plain: labels. No condition. -/
namespace La
def knownP (a : Int) : Int := if a < 0 ∨ 3 < a then 3 else a
def joinK (a b : Int) : Int := if a = b ∨ b = 0 then a else if a = 0 then b else 3
def joinP (a b : Int) : Int := joinK (knownP a) (knownP b)
theorem knownP_range (a : Int) : 0 ≤ knownP a ∧ knownP a ≤ 3 := by unfold knownP; split <;> omega
theorem knownP_cases (a : Int) : knownP a = 0 ∨ knownP a = 1 ∨ knownP a = 2 ∨ knownP a = 3 := by have := knownP_range a; omega
theorem knownP_id {a : Int} (h : 0 ≤ a ∧ a ≤ 3) : knownP a = a := by unfold knownP; split <;> omega
theorem joinP_range (a b : Int) : 0 ≤ joinP a b ∧ joinP a b ≤ 3 := by
  have h1 := knownP_range a
  have h2 := knownP_range b
  unfold joinP joinK
  split <;> (try split) <;> omega
theorem joinP_self (a : Int) : joinP a a = knownP a := by simp [joinP, joinK]
def flowsP (a b : Int) : Bool := decide (joinP a b = knownP b)
end La
