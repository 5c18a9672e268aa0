/- Plain: decks turned round, and with a card less. No condition. -/
import Derived.Test.YtccleakfgmcjpaaDoorDkP
namespace Dk
/-- nothing is wrong with a name -/
def Good (b : BkT) (f : FmtT) (deck : List (List UInt8)) (s : List UInt8) : Prop :=
  (ix s (names b)).isSome = true ∧ (ix s f.banned).isSome = false ∧ (((count s deck : Nat) : Int) > 1 → (ix s f.single).isSome = false) ∧ ((count s deck : Nat) : Int) ≤ f.copies
theorem mem_count {s : List UInt8} {l : List (List UInt8)} : s ∈ l ↔ 0 < count s l := by
  unfold count
  rw [List.countP_pos_iff]
  simp
theorem Good.less {b : BkT} {f : FmtT} {d1 d2 : List (List UInt8)} {s : List UInt8} (h : Good b f d1 s) (hc : count s d2 ≤ count s d1) : Good b f d2 s := by
  obtain ⟨h1, h2, h3, h4⟩ := h
  exact ⟨h1, h2, fun hg => h3 (by omega), by omega⟩
end Dk
