/- Plain: what is told of cards; the order of cards changes nothing. No condition. -/
import Derived.Test.YtbghonkgflolaaaDoorKdT
namespace Go.Proofs.YtbghonkgflolaaaDoor
open Go Go.Eng Kd Wd
def addU (acc : List (List UInt8 × Bool)) (c : CardT) : List (List UInt8 × Bool) := if (uOf acc c.name).isSome then acc else acc ++ [(c.name, c.unit)]
def unitsOf (l : List CardT) : List (List UInt8 × Bool) := l.foldl addU []
theorem unitsOf_snoc (l : List CardT) (c : CardT) : unitsOf (l ++ [c]) = addU (unitsOf l) c := by simp [unitsOf]
theorem unitsOf_take {l : List CardT} {i : Nat} (h : i < l.length) : unitsOf (l.take (i + 1)) = addU (unitsOf (l.take i)) l[i] := by
  rw [List.take_add_one, List.getElem?_eq_getElem h]
  exact unitsOf_snoc _ _
/-- the first card of a name: is it a unit? -/
def uC (l : List CardT) : Us := fun s => (l.find? fun c => decide (s = c.name)).map (·.unit)
theorem uOf_addU (acc : List (List UInt8 × Bool)) (c : CardT) (s : List UInt8) : uOf (addU acc c) s = match uOf acc s with | some v => some v | none => if s = c.name then some c.unit else none := by
  unfold addU
  split
  · rename_i h
    cases hs : uOf acc s with
    | some v => rfl
    | none =>
      by_cases he : s = c.name
      · subst he; rw [hs] at h; cases h
      · simp [he]
  · exact uOf_snoc
theorem uOf_foldl : ∀ (l : List CardT) (acc : List (List UInt8 × Bool)) (s : List UInt8), uOf (l.foldl addU acc) s = match uOf acc s with | some v => some v | none => uC l s
  | [], acc, s => by cases h : uOf acc s <;> simp [uC, h]
  | c :: r, acc, s => by
    rw [List.foldl_cons, uOf_foldl r, uOf_addU]
    cases h : uOf acc s with
    | some v => rfl
    | none =>
      unfold uC
      by_cases he : s = c.name
      · simp [he]
      · simp [he]
theorem uOf_units (l : List CardT) : uOf (unitsOf l) = uC l := by
  funext s
  rw [unitsOf, uOf_foldl]
  rfl
def namesC (l : List CardT) : List (List UInt8) := l.map (·.name)
theorem namesC_take {l : List CardT} {i : Nat} (h : i < l.length) : namesC (l.take (i + 1)) = namesC (l.take i) ++ [l[i].name] := by
  unfold namesC
  rw [List.take_add_one, List.getElem?_eq_getElem h, List.map_append]
  rfl
def okAt (l : List CardT) (i : Nat) (h : i < l.length) : Prop := l[i].name ∉ namesC (l.take i) ∧ mayP (uC l) l[i]
/-- what is told of cards -/
def CheckPost (l : List CardT) (e a : Int) : Prop :=
  (240 < l.length ∧ e = 3 ∧ a = 0) ∨ (l.length ≤ 240 ∧ ((e = 0 ∧ a = 0 ∧ ∀ (i : Nat) (h : i < l.length), okAt l i h) ∨
    ∃ (i : Nat) (h : i < l.length), (∀ (j : Nat) (hj : j < i), okAt l j (by omega)) ∧ a = l[i].at_ ∧ ((e = 101 ∧ l[i].name ∈ namesC (l.take i)) ∨ (e = 130 ∧ l[i].name ∉ namesC (l.take i) ∧ ¬ mayP (uC l) l[i]))))
theorem CheckPost.ok {l : List CardT} {a : Int} (h : CheckPost l 0 a) : l.length ≤ 240 ∧ ∀ (i : Nat) (h : i < l.length), okAt l i h := by
  rcases h with ⟨_, e, _⟩ | ⟨h1, ⟨_, _, h2⟩ | ⟨i, h, _, _, ⟨e, _⟩ | ⟨e, _⟩⟩⟩
  · cases e
  · exact ⟨h1, h2⟩
  · cases e
  · cases e
theorem CheckPost.of_ok {l : List CardT} {e a : Int} (h : CheckPost l e a) (h1 : l.length ≤ 240) (h2 : ∀ (i : Nat) (h : i < l.length), okAt l i h) : e = 0 := by
  rcases h with ⟨h3, _⟩ | ⟨_, ⟨e, _⟩ | ⟨i, hi, _, _, ⟨_, h4⟩ | ⟨_, _, h4⟩⟩⟩
  · omega
  · exact e
  · exact absurd h4 (h2 i hi).1
  · exact absurd (h2 i hi).2 h4
/-- cards with names that are told once each -/
theorem nodup_of {l : List CardT} (h : ∀ (i : Nat) (h : i < l.length), l[i].name ∉ namesC (l.take i)) : (namesC l).Nodup := by
  rw [List.nodup_iff_pairwise_ne, List.pairwise_iff_getElem]
  intro i j hi hj hij e
  have hj' : j < l.length := by simpa [namesC] using hj
  have hi' : i < l.length := by omega
  refine h j hj' ?_
  rw [show l[j].name = (namesC l)[j] by simp [namesC], ← e]
  have h2 : i < (namesC (l.take j)).length := by simp [namesC]; omega
  have : (namesC l)[i] = (namesC (l.take j))[i] := by simp [namesC]
  rw [this]
  exact List.getElem_mem h2
theorem of_nodup {l : List CardT} (h : (namesC l).Nodup) (i : Nat) (hi : i < l.length) : l[i].name ∉ namesC (l.take i) := by
  rw [List.nodup_iff_pairwise_ne, List.pairwise_iff_getElem] at h
  intro hm
  obtain ⟨k, hk, e⟩ := List.getElem_of_mem hm
  have hk' : k < i := by simp [namesC] at hk; omega
  refine h k i (by simp [namesC]; omega) (by simpa [namesC] using hi) hk' ?_
  rw [show (namesC l)[i]'(by simpa [namesC] using hi) = l[i].name by simp [namesC], ← e]
  simp [namesC]
theorem uC_mem {l : List CardT} (hn : (namesC l).Nodup) {c : CardT} (hc : c ∈ l) : uC l c.name = some c.unit := by
  unfold uC
  induction l with
  | nil => cases hc
  | cons d r ih =>
    have hn' : d.name ∉ namesC r ∧ (namesC r).Nodup := by simpa [namesC] using hn
    rcases List.mem_cons.1 hc with rfl | hc
    · simp
    · have hne : c.name ≠ d.name := fun e => hn'.1 (by rw [← e]; exact List.mem_map.2 ⟨c, hc, rfl⟩)
      rw [List.find?_cons_of_neg (by simpa using hne)]
      exact ih hn'.2 hc
theorem uC_none {l : List CardT} {s : List UInt8} (h : s ∉ namesC l) : uC l s = none := by
  unfold uC
  rw [List.find?_eq_none.2, Option.map_none]
  intro c hc
  simp only [decide_eq_true_eq]
  rintro rfl
  exact h (List.mem_map.2 ⟨c, hc, rfl⟩)
/-- cards in another order are known alike -/
theorem uC_perm {l k : List CardT} (hp : l.Perm k) (hn : (namesC l).Nodup) : uC l = uC k := by
  have hnk : (namesC k).Nodup := (hp.map _).nodup_iff.1 hn
  funext s
  by_cases hs : s ∈ namesC l
  · obtain ⟨c, hc, rfl⟩ := List.mem_map.1 hs
    rw [uC_mem hn hc, uC_mem hnk (hp.mem_iff.1 hc)]
  · rw [uC_none hs, uC_none (fun h => hs ((hp.map _).mem_iff.2 h))]
theorem turned_ok {l k : List CardT} (hp : l.Perm k) (h : ∀ (i : Nat) (h : i < l.length), okAt l i h) : ∀ (i : Nat) (h : i < k.length), okAt k i h := by
  have hn := nodup_of fun i hi => (h i hi).1
  have hnk : (namesC k).Nodup := (hp.map _).nodup_iff.1 hn
  intro i hi
  refine ⟨of_nodup hnk i hi, ?_⟩
  rw [← uC_perm hp hn]
  obtain ⟨j, hj, e⟩ := List.getElem_of_mem (hp.mem_iff.2 (List.getElem_mem hi))
  rw [← e]
  exact (h j hj).2
theorem twice_ok {l : List CardT} {c : CardT} (hc : c ∈ l) (h : ∀ (i : Nat) (h : i < l.length), okAt l i h) {e a : Int} (hp : CheckPost (l ++ [c]) e a) : (e = 101 ∨ (e = 3 ∧ 240 < (l ++ [c]).length)) := by
  have hn := nodup_of fun i hi => (h i hi).1
  have hu : uC (l ++ [c]) = uC l := by
    funext s
    unfold uC
    rw [List.find?_append]
    cases hf : l.find? (fun c => decide (s = c.name)) with
    | some v => rfl
    | none =>
      have := List.find?_eq_none.1 hf c hc
      simp at this
      simp [this]
  have hok : ∀ (j : Nat) (hj : j < l.length), okAt (l ++ [c]) j (by simp; omega) := fun j hj => by
    have h1 := h j hj
    unfold okAt at h1 ⊢
    rw [hu, List.getElem_append_left hj, List.take_append_of_le_length (by omega)]
    exact h1
  have hlast : (l ++ [c])[l.length]'(by simp) = c := by simp
  have hdup : c.name ∈ namesC ((l ++ [c]).take l.length) := by
    rw [List.take_left]
    exact List.mem_map.2 ⟨c, hc, rfl⟩
  rcases hp with ⟨h3, he, _⟩ | ⟨_, ⟨_, _, h4⟩ | ⟨i, hi, _, _, ⟨he, _⟩ | ⟨_, h4, h5⟩⟩⟩
  · exact .inr ⟨he, h3⟩
  · have := (h4 l.length (by simp)).1
    rw [hlast] at this
    exact absurd hdup this
  · exact .inl he
  · by_cases hil : i < l.length
    · exact absurd (hok i hil).2 h5
    · have hi2 : i = l.length := by simp at hi; omega
      subst hi2
      rw [hlast] at h4
      exact absurd hdup h4
end Go.Proofs.YtbghonkgflolaaaDoor
