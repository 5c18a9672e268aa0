/- Plain: bytes cut into frames. No condition. -/
import Derived.Test.YtodogmfbafmcmaaFrP
namespace Fr
def cutGo : Nat → List UInt8 → List (List UInt8) × Nat × Bool
  | 0, b => ([], b.length, false)
  | k + 1, b => match b with
    | x :: y :: q =>
      if lenOf x y = 0 ∨ 4096 < lenOf x y then ([], b.length, true)
      else if q.length < lenOf x y then ([], b.length, false)
      else (q.take (lenOf x y) :: (cutGo k (q.drop (lenOf x y))).1, (cutGo k (q.drop (lenOf x y))).2)
    | _ => ([], b.length, false)
theorem cutGo_short (k : Nat) (b : List UInt8) (h : b.length < 2) : cutGo k b = ([], b.length, false) := by
  cases k with
  | zero => rfl
  | succ k =>
    match b, h with
    | [], _ => rfl
    | [x], _ => rfl
theorem cutGo_stable : ∀ (k : Nat) (b : List UInt8), b.length ≤ k → cutGo (k + 1) b = cutGo k b
  | 0, b, h => by
    have : b = [] := List.eq_nil_of_length_eq_zero (by omega)
    subst this
    rfl
  | k + 1, b, h => by
    match b, h with
    | [], _ => rfl
    | [x], _ => rfl
    | x :: y :: q, h =>
      have ih := cutGo_stable k (q.drop (lenOf x y)) (by simp at h ⊢; omega)
      unfold cutGo
      simp only [ih]
/-- the cut, whatever the fuel -/
def cutF (b : List UInt8) : List (List UInt8) × Nat × Bool := cutGo b.length b
theorem cutGo_eq : ∀ (k : Nat) (b : List UInt8), b.length ≤ k → cutGo k b = cutF b
  | k, b, h => by
    unfold cutF
    induction k with
    | zero => have : b.length = 0 := by omega
              rw [this]
    | succ k ih =>
      by_cases hk : b.length = k + 1
      · rw [hk]
      · rw [cutGo_stable k b (by omega)]
        exact ih (by omega)
theorem cutF_short (b : List UInt8) (h : b.length < 2) : cutF b = ([], b.length, false) := cutGo_short _ _ h
theorem cutF_bad (x y : UInt8) (q : List UInt8) (h : lenOf x y = 0 ∨ 4096 < lenOf x y) : cutF (x :: y :: q) = ([], (x :: y :: q).length, true) := by
  unfold cutF
  rw [List.length_cons]
  unfold cutGo
  simp only [if_pos h, List.length_cons]
theorem cutF_less (x y : UInt8) (q : List UInt8) (h : ¬ (lenOf x y = 0 ∨ 4096 < lenOf x y)) (h2 : q.length < lenOf x y) : cutF (x :: y :: q) = ([], (x :: y :: q).length, false) := by
  unfold cutF
  rw [List.length_cons]
  unfold cutGo
  simp only [if_neg h, if_pos h2, List.length_cons]
theorem cutF_more (x y : UInt8) (q : List UInt8) (h : ¬ (lenOf x y = 0 ∨ 4096 < lenOf x y)) (h2 : ¬ q.length < lenOf x y) :
    cutF (x :: y :: q) = (q.take (lenOf x y) :: (cutF (q.drop (lenOf x y))).1, (cutF (q.drop (lenOf x y))).2) := by
  have e : cutF (x :: y :: q) = cutGo (q.length + 1 + 1) (x :: y :: q) := rfl
  rw [e]
  unfold cutGo
  simp only [if_neg h, if_neg h2]
  rw [cutGo_eq _ _ (by simp; omega)]
/-- a load, written -/
def hdr (n : Nat) : List UInt8 := [UInt8.ofNat (n / 256), UInt8.ofNat n]
end Fr
