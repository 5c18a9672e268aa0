/- A part of the proof: contracts of functions of the program. No condition. -/
import Derived.Test.YtbpihgphicmdiaaFacts
import Derived.Test.YtbpihgphicmdiaaRows
import Derived.Test.YtbpihgphicmdiaaWiP
namespace Go.Proofs.Ytbpihgphicmdiaa
open Go.Eng Wi
abbrev Gives (w : Value) : Value → List Ent → Prop := fun v L' => v = w ∧ L' = []
theorem SlE_at {m : Mp} {a : Option Addr} {vs : List (List Value)} {es : List Evt} (hr : Rd m a vs.flatten) (hl : vs.length = es.length) (hg : ∀ (i : Nat) (l : List Value) (e : Evt), vs[i]? = some l → es[i]? = some e → EvR m l e) {i : Nat} (hi : i < es.length) :
    ∃ l, EvR m l es[i] ∧ At m ((sa a).add (i * 7)) l ∧ a.isSome = true := by
  have hiv : i < vs.length := by omega
  have h7 : ∀ (j : Nat) l, vs[j]? = some l → l.length = 7 := fun j l hj => by
    have hje : j < es.length := by have := (List.getElem?_eq_some_iff.1 hj).1; omega
    obtain ⟨v, rfl, _⟩ := hg j l es[j] hj (List.getElem?_eq_getElem hje)
    rfl
  refine ⟨vs[i], hg i _ _ (List.getElem?_eq_getElem hiv) (List.getElem?_eq_getElem hi), ?_⟩
  have hfl : ∀ (us : List (List Value)) (k : Nat), (∀ l ∈ us, l.length = 7) → (h : k < us.length) → (us.flatten.drop (k * 7)).take 7 = us[k] := by
    intro us
    induction us with
    | nil => intro k _ h; simp at h
    | cons u r ih =>
      intro k hu h
      have hu7 : u.length = 7 := hu u (by simp)
      cases k with
      | zero => simp [hu7]
      | succ k =>
        have := ih k (fun l hl => hu l (by simp [hl])) (by simpa using h)
        rw [List.flatten_cons, show (k + 1) * 7 = u.length + k * 7 by omega, ← List.drop_drop, List.drop_left, this]
        rfl
  have h8 := hfl vs i (fun l hl => by obtain ⟨j, hj, rfl⟩ := List.mem_iff_getElem.1 hl; exact h7 j _ (List.getElem?_eq_getElem hj)) hiv
  have hpos : 0 < vs.flatten.length := by
    have h9 := congrArg List.length h8
    rw [h7 i _ (List.getElem?_eq_getElem hiv), List.length_take, List.length_drop] at h9
    omega
  have := hr.elem (i * 7) 7
  rw [h8] at this
  exact ⟨this, hr.isSome hpos⟩
end Go.Proofs.Ytbpihgphicmdiaa
