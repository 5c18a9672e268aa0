/- Plain: laws of labels. No condition. -/
import Derived.Test.YtigmehimficmlaaLaQ
namespace La
def lbl (x : Int) : Int := (x.tmod 4 + 4).tmod 4
theorem lbl_range (x : Int) : 0 ≤ lbl x ∧ lbl x ≤ 3 := by
  unfold lbl
  have h1 := Int.tmod_lt_of_pos x (b := 4) (by decide)
  have h2 := Int.lt_tmod_of_pos x (b := 4) (by decide)
  have h3 : 0 ≤ x.tmod 4 + 4 := by omega
  rw [Int.tmod_eq_emod_of_nonneg h3]
  omega
theorem four {a : Int} (h : 0 ≤ a ∧ a ≤ 3) : a = 0 ∨ a = 1 ∨ a = 2 ∨ a = 3 := by omega
theorem join_comm (a b : Int) : joinP b a = joinP a b := by
  unfold joinP
  rcases knownP_cases a with h | h | h | h <;> rcases knownP_cases b with k | k | k | k <;> rw [h, k] <;> rfl
theorem join_idem {a : Int} (h : 0 ≤ a ∧ a ≤ 3) : joinP a a = a := by rw [joinP_self, knownP_id h]
theorem join_assoc {a b c : Int} (ha : 0 ≤ a ∧ a ≤ 3) (hb : 0 ≤ b ∧ b ≤ 3) (hc : 0 ≤ c ∧ c ≤ 3) : joinP (joinP a b) c = joinP a (joinP b c) := by
  rcases four ha with rfl | rfl | rfl | rfl <;> rcases four hb with rfl | rfl | rfl | rfl <;> rcases four hc with rfl | rfl | rfl | rfl <;> rfl
theorem flow_l {a b : Int} (ha : 0 ≤ a ∧ a ≤ 3) (hb : 0 ≤ b ∧ b ≤ 3) : flowsP a (joinP a b) = true := by
  rcases four ha with rfl | rfl | rfl | rfl <;> rcases four hb with rfl | rfl | rfl | rfl <;> rfl
theorem flow_r {a b : Int} (ha : 0 ≤ a ∧ a ≤ 3) (hb : 0 ≤ b ∧ b ≤ 3) : flowsP b (joinP a b) = true := by
  rcases four ha with rfl | rfl | rfl | rfl <;> rcases four hb with rfl | rfl | rfl | rfl <;> rfl
theorem flow_join {a b c : Int} (ha : 0 ≤ a ∧ a ≤ 3) (hb : 0 ≤ b ∧ b ≤ 3) (hc : 0 ≤ c ∧ c ≤ 3) (h1 : flowsP a c = true) (h2 : flowsP b c = true) : flowsP (joinP a b) c = true := by
  revert h1 h2
  rcases four ha with rfl | rfl | rfl | rfl <;> rcases four hb with rfl | rfl | rfl | rfl <;> rcases four hc with rfl | rfl | rfl | rfl <;> decide
theorem flow_anti {a b : Int} (ha : 0 ≤ a ∧ a ≤ 3) (hb : 0 ≤ b ∧ b ≤ 3) (h1 : flowsP a b = true) (h2 : flowsP b a = true) : a = b := by
  revert h1 h2
  rcases four ha with rfl | rfl | rfl | rfl <;> rcases four hb with rfl | rfl | rfl | rfl <;> decide
theorem flow_both {a : Int} (ha : 0 ≤ a ∧ a ≤ 3) : flowsP 0 a = true := by rcases four ha with rfl | rfl | rfl | rfl <;> rfl
theorem flow_nobody {a : Int} (ha : 0 ≤ a ∧ a ≤ 3) : flowsP a 3 = true := by rcases four ha with rfl | rfl | rfl | rfl <;> rfl
theorem join_mono {a b c : Int} (ha : 0 ≤ a ∧ a ≤ 3) (hb : 0 ≤ b ∧ b ≤ 3) (hc : 0 ≤ c ∧ c ≤ 3) (h : flowsP a b = true) : flowsP (joinP a c) (joinP b c) = true := by
  revert h
  rcases four ha with rfl | rfl | rfl | rfl <;> rcases four hb with rfl | rfl | rfl | rfl <;> rcases four hc with rfl | rfl | rfl | rfl <;> decide
theorem flow_trans {a b c : Int} (ha : 0 ≤ a ∧ a ≤ 3) (hb : 0 ≤ b ∧ b ≤ 3) (hc : 0 ≤ c ∧ c ≤ 3) (h : flowsP a b = true) (h2 : flowsP b c = true) : flowsP a c = true := by
  revert h h2
  rcases four ha with rfl | rfl | rfl | rfl <;> rcases four hb with rfl | rfl | rfl | rfl <;> rcases four hc with rfl | rfl | rfl | rfl <;> decide
theorem flow_zero {a b : Int} (ha : 0 ≤ a ∧ a ≤ 3) (hb : 0 ≤ b ∧ b ≤ 3) (h : flowsP a b = true) (h2 : b = 0) : a = 0 := by
  revert h h2
  rcases four ha with rfl | rfl | rfl | rfl <;> rcases four hb with rfl | rfl | rfl | rfl <;> decide
theorem join_known (a c : Int) : joinP a c = joinP a (knownP c) := by unfold joinP; rw [knownP_id (knownP_range c)]
end La
