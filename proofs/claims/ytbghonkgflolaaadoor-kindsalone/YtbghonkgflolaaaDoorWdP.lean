/- Plain: runes, words of a text. No condition. -/
import Derived.Test.YtbghonkgflolaaaDoorEng2
namespace Wd
open Go Go.Eng

def cont (s : List UInt8) (i : Nat) : Bool := decide (i < s.length) && by_ s i / 64 == 2
/-- the rune that stands at a place, and how many bytes; none: none stands there -/
def rn (s : List UInt8) (p : Nat) : Option (Nat × Nat) :=
  if by_ s p < 128 then some (by_ s p, 1)
  else if by_ s p / 32 == 6 && cont s (p + 1) then
    if by_ s p % 32 * 64 + by_ s (p + 1) % 64 ≥ 128 then some (by_ s p % 32 * 64 + by_ s (p + 1) % 64, 2) else none
  else if by_ s p / 16 == 14 && cont s (p + 1) && cont s (p + 2) then
    if by_ s p % 16 * 4096 + by_ s (p + 1) % 64 * 64 + by_ s (p + 2) % 64 ≥ 2048 && Utf8.valid (by_ s p % 16 * 4096 + by_ s (p + 1) % 64 * 64 + by_ s (p + 2) % 64 : Nat) then
      some (by_ s p % 16 * 4096 + by_ s (p + 1) % 64 * 64 + by_ s (p + 2) % 64, 3) else none
  else if by_ s p / 8 == 30 && cont s (p + 1) && cont s (p + 2) && cont s (p + 3) then
    if by_ s p % 8 * 262144 + by_ s (p + 1) % 64 * 4096 + by_ s (p + 2) % 64 * 64 + by_ s (p + 3) % 64 ≥ 65536 && Utf8.valid (by_ s p % 8 * 262144 + by_ s (p + 1) % 64 * 4096 + by_ s (p + 2) % 64 * 64 + by_ s (p + 3) % 64 : Nat) then
      some (by_ s p % 8 * 262144 + by_ s (p + 1) % 64 * 4096 + by_ s (p + 2) % 64 * 64 + by_ s (p + 3) % 64, 4) else none
  else none
def dec (s : List UInt8) (p : Nat) : Nat × Nat := (rn s p).getD (65533, 1)
theorem get_bs (s : List UInt8) (i : Nat) : ((bs s).get! i).toNat = by_ s i := by
  unfold by_
  have : (bs s).get! i = s.getD i 0 := by
    show (bs s).data[i]! = _
    simp only [bs]
    rw [List.getD_eq_getElem?_getD, getElem!_def]
    simp
    cases s[i]? <;> rfl
  rw [this]
theorem dec_shape (c0 c1 c2 c3 d1 d2 d3 : Prop) [Decidable c0] [Decidable c1] [Decidable c2] [Decidable c3] [Decidable d1] [Decidable d2] [Decidable d3] (v0 v1 v2 v3 e : Nat × Nat) :
    (if c0 then v0 else if c1 then (if d1 then v1 else e) else if c2 then (if d2 then v2 else e) else if c3 then (if d3 then v3 else e) else e) =
    (if c0 then some v0 else if c1 then (if d1 then some v1 else none) else if c2 then (if d2 then some v2 else none) else if c3 then (if d3 then some v3 else none) else none).getD e := by
  by_cases h0 : c0 <;> by_cases h1 : c1 <;> by_cases h2 : c2 <;> by_cases h3 : c3 <;> by_cases k1 : d1 <;> by_cases k2 : d2 <;> by_cases k3 : d3 <;> simp [*]
theorem decode_eq (s : List UInt8) (p : Nat) : Utf8.decode (bs s) p = dec s p := by
  have h0 : (bs s).size = s.length := bs_size s
  have h1 : ∀ k, ((bs s).get! (p + k)).toNat = by_ s (p + k) := fun k => get_bs s _
  unfold Utf8.decode dec rn cont
  rw [h0, show (fun k => ((bs s).get! (p + k)).toNat) = fun k => by_ s (p + k) from funext h1]
  exact dec_shape _ _ _ _ _ _ _ _ _ _ _ _
theorem rn_shape {c0 c1 c2 c3 d1 d2 d3 : Prop} [Decidable c0] [Decidable c1] [Decidable c2] [Decidable c3] [Decidable d1] [Decidable d2] [Decidable d3] {v0 v1 v2 v3 r : Nat × Nat}
    (h : (if c0 then some v0 else if c1 then (if d1 then some v1 else none) else if c2 then (if d2 then some v2 else none) else if c3 then (if d3 then some v3 else none) else none) = some r) :
    (c0 ∧ v0 = r) ∨ (¬ c0 ∧ c1 ∧ d1 ∧ v1 = r) ∨ (¬ c0 ∧ ¬ c1 ∧ c2 ∧ d2 ∧ v2 = r) ∨ (¬ c0 ∧ ¬ c1 ∧ ¬ c2 ∧ c3 ∧ d3 ∧ v3 = r) := by
  by_cases h0 : c0 <;> by_cases h1 : c1 <;> by_cases h2 : c2 <;> by_cases h3 : c3 <;> by_cases k1 : d1 <;> by_cases k2 : d2 <;> by_cases k3 : d3 <;> simp_all
theorem cont_iff {s : List UInt8} {i : Nat} : cont s i = true ↔ i < s.length ∧ by_ s i / 64 = 2 := by simp [cont]
theorem valid_nat (c : Nat) : Utf8.valid (c : Int) = true ↔ c < 55296 ∨ (57344 ≤ c ∧ c ≤ 1114111) := by simp [Utf8.valid]; omega
/-- the four kinds of runes -/
inductive RnK (s : List UInt8) (p : Nat) : Nat → Nat → Prop
  | one (h : by_ s p < 128) : RnK s p (by_ s p) 1
  | two (x : Nat) (h : by_ s p / 32 = 6) (l1 : p + 1 < s.length) (k1 : by_ s (p + 1) / 64 = 2) (hx : x = by_ s p % 32 * 64 + by_ s (p + 1) % 64) (h1 : 128 ≤ x) : RnK s p x 2
  | three (x : Nat) (h : by_ s p / 16 = 14) (l1 : p + 2 < s.length) (k1 : by_ s (p + 1) / 64 = 2) (k2 : by_ s (p + 2) / 64 = 2) (hx : x = by_ s p % 16 * 4096 + by_ s (p + 1) % 64 * 64 + by_ s (p + 2) % 64) (h1 : 2048 ≤ x) (hv : x < 55296 ∨ (57344 ≤ x ∧ x ≤ 1114111)) : RnK s p x 3
  | four (x : Nat) (h : by_ s p / 8 = 30) (l1 : p + 3 < s.length) (k1 : by_ s (p + 1) / 64 = 2) (k2 : by_ s (p + 2) / 64 = 2) (k3 : by_ s (p + 3) / 64 = 2)
      (hx : x = by_ s p % 8 * 262144 + by_ s (p + 1) % 64 * 4096 + by_ s (p + 2) % 64 * 64 + by_ s (p + 3) % 64) (h1 : 65536 ≤ x) (hv : x < 55296 ∨ (57344 ≤ x ∧ x ≤ 1114111)) : RnK s p x 4
theorem rn_kind {s : List UInt8} {p x k : Nat} (h : rn s p = some (x, k)) : RnK s p x k := by
  unfold rn at h
  rcases rn_shape h with ⟨h0, e⟩ | ⟨h0, h1, h2, e⟩ | ⟨h0, h1, h2, h3, e⟩ | ⟨h0, h1, h2, h3, h4, e⟩
  · injection e with e1 e2; subst e1 e2; exact .one h0
  · obtain ⟨a, b⟩ := Bool.and_eq_true_iff.1 h1
    obtain ⟨b1, b2⟩ := cont_iff.1 b
    injection e with e1 e2; subst e2; exact .two x (beq_iff_eq.1 a) b1 b2 e1.symm (e1 ▸ h2)
  · obtain ⟨a, c⟩ := Bool.and_eq_true_iff.1 h2
    obtain ⟨a, b⟩ := Bool.and_eq_true_iff.1 a
    obtain ⟨b1, b2⟩ := cont_iff.1 b
    obtain ⟨c1, c2⟩ := cont_iff.1 c
    obtain ⟨d1, d2⟩ := Bool.and_eq_true_iff.1 h3
    injection e with e1 e2; subst e2; exact .three x (beq_iff_eq.1 a) c1 b2 c2 e1.symm (e1 ▸ of_decide_eq_true d1) (e1 ▸ (valid_nat _).1 d2)
  · obtain ⟨a, d⟩ := Bool.and_eq_true_iff.1 h3
    obtain ⟨a, c⟩ := Bool.and_eq_true_iff.1 a
    obtain ⟨a, b⟩ := Bool.and_eq_true_iff.1 a
    obtain ⟨b1, b2⟩ := cont_iff.1 b
    obtain ⟨c1, c2⟩ := cont_iff.1 c
    obtain ⟨d1, d2⟩ := cont_iff.1 d
    obtain ⟨f1, f2⟩ := Bool.and_eq_true_iff.1 h4
    injection e with e1 e2; subst e2; exact .four x (beq_iff_eq.1 a) d1 b2 c2 d2 e1.symm (e1 ▸ of_decide_eq_true f1) (e1 ▸ (valid_nat _).1 f2)
theorem rn_pos {s : List UInt8} {p x k : Nat} (h : rn s p = some (x, k)) : 1 ≤ k ∧ k ≤ 4 ∧ x ≤ 1114111 ∧ (k = 1 → x = by_ s p ∧ x < 128) ∧ (2 ≤ k → 128 ≤ x ∧ 192 ≤ by_ s p ∧ p + k ≤ s.length) := by
  have b0 := by_lt s p
  cases rn_kind h <;> omega
theorem dec_pos (s : List UInt8) (p : Nat) : 1 ≤ (dec s p).2 ∧ (dec s p).2 ≤ 4 ∧ (dec s p).1 ≤ 1114111 := by
  unfold dec
  cases h : rn s p with
  | none => simp
  | some r =>
    obtain ⟨x, k⟩ := r
    have := rn_pos h
    simp
    omega
end Wd
