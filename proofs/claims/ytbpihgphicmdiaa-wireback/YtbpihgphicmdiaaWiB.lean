/- A part of the proof: contracts of functions of the program. No condition. -/
import Derived.Test.YtbpihgphicmdiaaWiA
namespace Go.Proofs.Ytbpihgphicmdiaa
open Go.Eng Wi
theorem SlP_at {m : Mp} {a : Option Addr} {xs : List (Int × Int)} (hr : Rd m a (xs.flatMap pV)) {i : Nat} (hi : i < xs.length) : At m ((sa a).add (i * 2)) (pV xs[i]) ∧ a.isSome = true := by
  have hfl : ∀ (us : List (Int × Int)) (k : Nat) (h : k < us.length), ((us.flatMap pV).drop (k * 2)).take 2 = pV us[k] := by
    intro us
    induction us with
    | nil => intro k h; simp at h
    | cons u r ih =>
      intro k h
      cases k with
      | zero => simp [pV]
      | succ k =>
        have := ih k (by simpa using h)
        rw [List.flatMap_cons, show (k + 1) * 2 = (pV u).length + k * 2 by simp [pV]; omega, ← List.drop_drop, List.drop_left, this]
        rfl
  have h8 := hfl xs i hi
  have hpos : 0 < (xs.flatMap pV).length := by
    have h9 := congrArg List.length h8
    rw [List.length_take, List.length_drop] at h9
    simp only [pV, List.length_cons, List.length_nil] at h9
    omega
  have := hr.elem (i * 2) 2
  rw [h8] at this
  exact ⟨this, hr.isSome hpos⟩
def pF (p : Int × Int) : List Dt := [.i .i64 p.1, .i .i64 p.2]
theorem pF_inj {p q : Int × Int} (h : pF p = pF q) : p = q := by
  obtain ⟨a, b⟩ := p
  obtain ⟨c, d⟩ := q
  simp [pF] at h
  simp [h]
end Go.Proofs.Ytbpihgphicmdiaa
