/- Plain: decks turned round, and with a card less. No condition. -/
import Derived.Test.YtccleakfgmcjpaaDoorDkP
namespace Dk
/-- nothing is wrong with a name -/
def Good (b : BkT) (f : FmtT) (deck : List (List UInt8)) (s : List UInt8) : Prop :=
  (ix s (names b)).isSome = true ∧ (ix s f.banned).isSome = false ∧ (((count s deck : Nat) : Int) > 1 → (ix s f.single).isSome = false) ∧ ((count s deck : Nat) : Int) ≤ f.copies
theorem addR_false {rs : List Rea} {r : Rea} : addR rs r false = rs := rfl
theorem addR_ge {rs : List Rea} {r : Rea} {so : Bool} : rs.length ≤ (addR rs r so).length := by
  unfold addR
  cases so <;> simp
theorem addR_true {rs : List Rea} {r : Rea} : (addR rs r true).length = rs.length + 1 := by simp [addR]
theorem stepR_good {b : BkT} {f : FmtT} {deck : List (List UInt8)} {rs : List Rea} {s : List UInt8} (h : Good b f deck s) : stepR b f deck rs s = rs := by
  obtain ⟨h1, h2, h3, h4⟩ := h
  unfold stepR
  rw [if_pos h1, h2, addR_false, decide_eq_false (show ¬ (((count s deck : Nat) : Int) > f.copies) by omega), addR_false]
  by_cases hc : ((count s deck : Nat) : Int) > 1
  · rw [h3 hc, Bool.and_false, addR_false]
  · rw [decide_eq_false hc, Bool.false_and, addR_false]
theorem stepR_ge {b : BkT} {f : FmtT} {deck : List (List UInt8)} {rs : List Rea} {s : List UInt8} : rs.length ≤ (stepR b f deck rs s).length := by
  unfold stepR
  split
  · exact Nat.le_trans addR_ge (Nat.le_trans addR_ge addR_ge)
  · simp
theorem stepR_bad {b : BkT} {f : FmtT} {deck : List (List UInt8)} {rs : List Rea} {s : List UInt8} (h : ¬ Good b f deck s) : rs.length < (stepR b f deck rs s).length := by
  unfold stepR
  split
  · rename_i h1
    by_cases h2 : (ix s f.banned).isSome = true
    · rw [h2]
      have g1 := addR_true (rs := rs) (r := ⟨4, s, count s deck⟩)
      have g2 := addR_ge (rs := addR rs ⟨4, s, count s deck⟩ true) (r := ⟨5, s, count s deck⟩) (so := decide (((count s deck : Nat) : Int) > 1) && (ix s f.single).isSome)
      have g3 := addR_ge (rs := addR (addR rs ⟨4, s, count s deck⟩ true) ⟨5, s, count s deck⟩ (decide (((count s deck : Nat) : Int) > 1) && (ix s f.single).isSome)) (r := ⟨6, s, count s deck⟩) (so := decide (((count s deck : Nat) : Int) > f.copies))
      omega
    · have h2' : (ix s f.banned).isSome = false := by simpa using h2
      rw [h2', addR_false]
      by_cases h3 : (decide (((count s deck : Nat) : Int) > 1) && (ix s f.single).isSome) = true
      · rw [h3]
        have g2 := addR_true (rs := rs) (r := ⟨5, s, count s deck⟩)
        have g3 := addR_ge (rs := addR rs ⟨5, s, count s deck⟩ true) (r := ⟨6, s, count s deck⟩) (so := decide (((count s deck : Nat) : Int) > f.copies))
        omega
      · have h3' : (decide (((count s deck : Nat) : Int) > 1) && (ix s f.single).isSome) = false := by simpa using h3
        rw [h3', addR_false]
        by_cases h4 : ((count s deck : Nat) : Int) > f.copies
        · rw [decide_eq_true h4, addR_true]
          omega
        · exact absurd ⟨h1, h2', fun hc => by rw [decide_eq_true hc, Bool.true_and] at h3'; exact h3', by omega⟩ h
  · simp
theorem foldl_good {b : BkT} {f : FmtT} {deck : List (List UInt8)} : ∀ {l : List (List UInt8)} {rs : List Rea}, (∀ s ∈ l, Good b f deck s) → l.foldl (stepR b f deck) rs = rs
  | [], _, _ => rfl
  | x :: l, rs, h => by
    rw [List.foldl_cons, stepR_good (h x (by simp))]
    exact foldl_good fun s hs => h s (by simp [hs])
theorem foldl_ge {b : BkT} {f : FmtT} {deck : List (List UInt8)} : ∀ {l : List (List UInt8)} {rs : List Rea}, rs.length ≤ (l.foldl (stepR b f deck) rs).length
  | [], _ => Nat.le_refl _
  | x :: l, rs => by
    rw [List.foldl_cons]
    exact Nat.le_trans stepR_ge foldl_ge
theorem foldl_bad {b : BkT} {f : FmtT} {deck : List (List UInt8)} {s : List UInt8} (h : ¬ Good b f deck s) : ∀ {l : List (List UInt8)} {rs : List Rea}, s ∈ l → rs.length < (l.foldl (stepR b f deck) rs).length
  | x :: l, rs, hm => by
    rw [List.foldl_cons]
    rcases List.mem_cons.1 hm with rfl | hm
    · exact Nat.lt_of_lt_of_le (stepR_bad h) foldl_ge
    · exact Nat.lt_of_le_of_lt stepR_ge (foldl_bad h hm)
theorem reasons_nil {b : BkT} {f : FmtT} {deck : List (List UInt8)} : (reasons b f deck).length = 0 ↔ (base0 f deck.length).length = 0 ∧ ∀ s ∈ deck, Good b f deck s := by
  unfold reasons
  constructor
  · intro h
    refine ⟨by have := foldl_ge (b := b) (f := f) (deck := deck) (l := firsts deck) (rs := base0 f deck.length); omega, fun s hs => ?_⟩
    refine Classical.byContradiction fun hg => ?_
    have := foldl_bad hg (l := firsts deck) (rs := base0 f deck.length) (mem_firsts.2 hs)
    omega
  · rintro ⟨h1, h2⟩
    rw [foldl_good fun s hs => h2 s (mem_firsts.1 hs)]
    exact h1
theorem mem_count {s : List UInt8} {l : List (List UInt8)} : s ∈ l ↔ 0 < count s l := by
  unfold count
  rw [List.countP_pos_iff]
  simp
theorem Good.less {b : BkT} {f : FmtT} {d1 d2 : List (List UInt8)} {s : List UInt8} (h : Good b f d1 s) (hc : count s d2 ≤ count s d1) : Good b f d2 s := by
  obtain ⟨h1, h2, h3, h4⟩ := h
  exact ⟨h1, h2, fun hg => h3 (by omega), by omega⟩
/-- the order changes nothing -/
theorem check_turned {b : BkT} {fm : List UInt8} {d1 d2 : List (List UInt8)} (hl : d2.length = d1.length) (hc : ∀ s, count s d2 = count s d1) : (checkP b fm d2).2 = (checkP b fm d1).2 := by
  unfold checkP
  cases fmtOf fm b with
  | none => rfl
  | some f =>
    have key : (reasons b f d2).length = 0 ↔ (reasons b f d1).length = 0 := by
      rw [reasons_nil, reasons_nil, hl]
      constructor
      · rintro ⟨h1, h2⟩
        exact ⟨h1, fun s hs => (h2 s (by rw [mem_count, hc, ← mem_count]; exact hs)).less (by rw [hc]; exact Nat.le_refl _)⟩
      · rintro ⟨h1, h2⟩
        exact ⟨h1, fun s hs => (h2 s (by rw [mem_count, ← hc, ← mem_count]; exact hs)).less (by rw [hc]; exact Nat.le_refl _)⟩
    by_cases h : (reasons b f d1).length = 0
    · show (if _ then _ else _ : List Rea × Int).2 = (if _ then _ else _ : List Rea × Int).2
      rw [if_pos h, if_pos (key.2 h)]
    · show (if _ then _ else _ : List Rea × Int).2 = (if _ then _ else _ : List Rea × Int).2
      rw [if_neg h, if_neg (fun g => h (key.1 g))]
theorem check_some {b : BkT} {fm : List UInt8} {d : List (List UInt8)} (h : (checkP b fm d).1.length ≠ 0) : (checkP b fm d).2 = 292 := by
  unfold checkP at h ⊢
  cases hf : fmtOf fm b with
  | none => rw [hf] at h; simp at h
  | some f =>
    rw [hf] at h
    by_cases hz : (reasons b f d).length = 0
    · have h2 : (if (reasons b f d).length = 0 then (([], 0) : List Rea × Int) else (reasons b f d, 292)).1.length ≠ 0 := h
      rw [if_pos hz] at h2
      simp at h2
    · show (if _ then _ else _ : List Rea × Int).2 = 292
      rw [if_neg hz]
/-- a card taken away -/
theorem check_less {b : BkT} {fm : List UInt8} {d1 d2 : List (List UInt8)} (h0 : (checkP b fm d1).2 = 0) (hl : d2.length + 1 = d1.length) (hc : ∀ s, count s d2 ≤ count s d1) : (checkP b fm d2).2 = 0 ∨ checkP b fm d2 = ([⟨1, [], d2.length⟩], 292) := by
  unfold checkP at h0 ⊢
  cases hf : fmtOf fm b with
  | none => rw [hf] at h0; simp at h0
  | some f =>
    rw [hf] at h0
    by_cases hz : (reasons b f d1).length = 0
    · obtain ⟨g1, g2⟩ := reasons_nil.1 hz
      have hg : ∀ s ∈ d2, Good b f d2 s := fun s hs => (g2 s (by rw [mem_count] at hs ⊢; have := hc s; omega)).less (hc s)
      have hr : reasons b f d2 = base0 f d2.length := by
        unfold reasons
        exact foldl_good fun s hs => hg s (mem_firsts.1 hs)
      have hM : ¬ ((d1.length : Int) > f.most) ∧ ¬ ((d1.length : Int) > 60) := by
        unfold base0 at g1
        constructor
        · intro h
          rw [decide_eq_true h, Bool.true_or, addR_true] at g1
          omega
        · intro h
          rw [decide_eq_true h, Bool.or_true, addR_true] at g1
          omega
      have hb2 : base0 f d2.length = addR [] ⟨1, [], d2.length⟩ (decide ((d2.length : Int) < f.least)) := by
        unfold base0
        rw [decide_eq_false (show ¬ ((d2.length : Int) > f.most) by omega), decide_eq_false (show ¬ ((d2.length : Int) > 60) by omega)]
        rfl
      show (if _ then _ else _ : List Rea × Int).2 = 0 ∨ (if _ then _ else _ : List Rea × Int) = _
      rw [hr, hb2]
      by_cases hs : (d2.length : Int) < f.least
      · rw [decide_eq_true hs]
        exact .inr rfl
      · rw [decide_eq_false hs]
        exact .inl rfl
    · have h2 : (if (reasons b f d1).length = 0 then (([], 0) : List Rea × Int) else (reasons b f d1, 292)).2 = 0 := h0
      rw [if_neg hz] at h2
      simp at h2
theorem count_app {s : List UInt8} {a b : List (List UInt8)} : count s (a ++ b) = count s a + count s b := List.countP_append
theorem turned_count {s : List UInt8} {l : List (List UInt8)} {i : Nat} : count s (l.drop i ++ l.take i) = count s l := by
  rw [count_app, Nat.add_comm, ← count_app, List.take_append_drop]
theorem less_count {s : List UInt8} {l : List (List UInt8)} {i : Nat} : count s (l.take i ++ l.drop (i + 1)) ≤ count s l := by
  have h1 : count s l = count s (l.take i) + count s (l.drop i) := by rw [← count_app, List.take_append_drop]
  have h2 : count s (l.drop (i + 1)) ≤ count s (l.drop i) := by
    unfold count
    rw [← List.drop_drop]
    exact List.Sublist.countP_le (List.drop_sublist 1 _)
  rw [count_app, h1]
  omega
end Dk
