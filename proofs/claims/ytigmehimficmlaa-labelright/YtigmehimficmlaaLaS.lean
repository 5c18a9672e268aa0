/- Plain: what is right under a label is right under each that flows to it. No condition. -/
import Derived.Test.YtigmehimficmlaaLaR
namespace La
open Go.Eng
mutual
theorem downE : ∀ (x : EffT) {a b : Int}, (0 ≤ a ∧ a ≤ 3) → (0 ≤ b ∧ b ≤ 3) → flowsP a b = true → rightE b x = true → rightE a x = true
  | .mk op who n name cond thn els, a, b, ha, hb, hf, h => by
    rw [rightE] at h ⊢
    have jm : ∀ c, flowsP (joinP a c) (joinP b c) = true := fun c => by
      rw [join_known a c, join_known b c]
      exact join_mono ha hb (knownP_range c) hf
    split
    · rename_i h5
      rw [if_pos h5] at h
      exact flow_trans (joinP_range _ _) (joinP_range _ _) (by omega) (jm _) h
    · rename_i h5
      rw [if_neg h5] at h
      split
      · rename_i h8
        rw [if_pos h8] at h
        rw [Bool.and_eq_true] at h ⊢
        exact ⟨downS thn (joinP_range _ _) (joinP_range _ _) (jm _) h.1, downS els (joinP_range _ _) (joinP_range _ _) (jm _) h.2⟩
      · rename_i h8
        rw [if_neg h8] at h
        split
        · rename_i h3
          rw [if_pos h3, decide_eq_true_eq] at h
          rw [decide_eq_true_eq]
          exact flow_zero (joinP_range _ _) (joinP_range _ _) (jm _) h
        · rename_i h3
          rw [if_neg h3, decide_eq_true_eq, knownP_id hb] at h
          rw [decide_eq_true_eq, knownP_id ha]
          exact flow_zero ha hb hf h
theorem downS : ∀ (l : List EffT) {a b : Int}, (0 ≤ a ∧ a ≤ 3) → (0 ≤ b ∧ b ≤ 3) → flowsP a b = true → rightS b l = true → rightS a l = true
  | [], a, b, ha, hb, hf, h => by rw [rightS]
  | x :: r, a, b, ha, hb, hf, h => by
    rw [rightS, Bool.and_eq_true] at h ⊢
    exact ⟨downE x ha hb hf h.1, downS r ha hb hf h.2⟩
end
theorem right_cut (u : Int) (l : List EffT) (k : Nat) : rightS u l = (rightS u (l.take k) && rightS u (l.drop k)) := by
  rw [← rightS_append, List.take_append_drop]
end La
namespace Go.Eng
theorem EffsR.cut {m : Mp} {A : Option Addr} {len c : Nat} {l : List EffT} (h : EffsR m A len l) (i k : Nat) (hik : i + k ≤ len) (hc : len ≤ c) : EffsR m (cutA A i c 14) k ((l.drop i).take k) := by
  obtain ⟨h1, h2, vs, h3, h4, h5⟩ := h
  refine ⟨by simp; omega, by omega, (vs.drop (i * 14)).take (k * 14), h3.cut k (by omega), by simp; omega, fun j hj => ?_⟩
  have hjk : j < k := by simp at hj; omega
  have := h5 (i + j) (by simp at hj; omega)
  rw [List.drop_take, List.drop_drop, List.take_take, show min 14 (k * 14 - j * 14) = 14 by omega, show i * 14 + j * 14 = (i + j) * 14 by omega]
  simpa using this
end Go.Eng
