/- Plain: which cards may be, and how many parts they have. No condition. -/
import Derived.Test.YtbghonkgflolaaaDoorEng2
import Derived.Test.YtbghonkgflolaaaDoorEng2
namespace Kd
open Go Go.Eng
def sV (s : List UInt8) : Value := .string (bs s)
def iV (n : Int) : Value := .int .i64 n
def U0 : Value := .tuple #[]
abbrev Gives (w : Value) : Value → List Ent → Prop := fun v L' => v = w ∧ L' = []
def countsB (op : Int) : Bool := decide (op = 0) || decide (op = 1) || decide (op = 2) || decide (op = 3) || decide (op = 5)
def sideB (w : Int) : Bool := decide (w = 0) || decide (w = 1)
/-! ### parts -/
inductive PartT where
  | eff (x : EffT)
  | num (x : NumT)
  | cond (x : CondT)
def kidsP : PartT → List PartT
  | .eff (.mk op _ n _ c t e) => (if countsB op then [.num n] else []) ++ (if op = 8 then .cond c :: (t.map .eff ++ e.map .eff) else [])
  | .num (.mk _ _ _ k) => k.map .num
  | .cond (.mk _ _ _ ns k) => ns.map .num ++ k.map .cond
/-- a part and all parts in it, in order -/
inductive Flat : PartT → List PartT → Prop
  | mk {p : PartT} {ls : List (List PartT)} (hl : ls.length = (kidsP p).length) (hk : ∀ (i : Nat) (h : i < (kidsP p).length), Flat (kidsP p)[i] (ls[i]'(by omega))) : Flat p (p :: ls.flatten)
def FlatL (ps : List PartT) (l : List PartT) : Prop := ∃ ls : List (List PartT), ∃ hl : ls.length = ps.length, (∀ (i : Nat) (h : i < ps.length), Flat ps[i] (ls[i]'(by omega))) ∧ l = ls.flatten
theorem choose_flat {ps : List PartT} (h : ∀ (i : Nat) (hi : i < ps.length), ∃ l, Flat ps[i] l) : ∃ ls : List (List PartT), ∃ hl : ls.length = ps.length, ∀ (i : Nat) (h : i < ps.length), Flat ps[i] (ls[i]'(by omega)) := by
  induction ps with
  | nil => exact ⟨[], rfl, fun i h => by cases h⟩
  | cons p r ih =>
    obtain ⟨l, hl⟩ := h 0 (by simp)
    obtain ⟨ls, e, hls⟩ := ih fun i hi => h (i + 1) (by simpa using hi)
    refine ⟨l :: ls, by simp [e], fun i hi => ?_⟩
    cases i with
    | zero => exact hl
    | succ i => exact hls i (by simpa using hi)
theorem Flat.ex {p : PartT} (h : ∀ (i : Nat) (hi : i < (kidsP p).length), ∃ l, Flat (kidsP p)[i] l) : ∃ l, Flat p l := by
  obtain ⟨ls, e, hls⟩ := choose_flat h
  exact ⟨_, .mk e hls⟩
theorem Flat.num {m : Mp} {cs : List Value} {x : NumT} (h : NumR m cs x) : ∃ l, Flat (.num x) l := by
  induction h with
  | mk ho hln hm hr hv _ ih =>
    refine Flat.ex fun i hi => ?_
    simp only [kidsP, List.length_map] at hi
    simp only [kidsP, List.getElem_map]
    exact ih i hi
theorem Flat.cond {m : Mp} {cs : List Value} {x : CondT} (h : CondR m cs x) : ∃ l, Flat (.cond x) l := by
  induction h with
  | mk ho hw hn hla hma hra hva hka hlb hmb hrb hvb _ ih =>
    refine Flat.ex fun i hi => ?_
    simp only [kidsP, List.length_append, List.length_map] at hi
    simp only [kidsP, List.getElem_append, List.length_map, List.getElem_map]
    split
    · exact Flat.num (hka _ (by omega))
    · exact ih _ (by omega)
theorem Flat.eff {m : Mp} {cs : List Value} {x : EffT} (h : EffR m cs x) : ∃ l, Flat (.eff x) l := by
  induction h with
  | @mk op who n name cond thn els ns cs A B la ca lb cb vs us ho hw hn hnm hc hla hma hra hva _ hlb hmb hrb hvb _ ih1 ih2 =>
    refine Flat.ex fun i hi => ?_
    have key : ∀ p ∈ kidsP (.eff (.mk op who n name cond thn els)), ∃ l, Flat p l := by
      intro p hp
      simp only [kidsP, List.mem_append] at hp
      rcases hp with hp | hp
      · split at hp
        · rw [List.mem_singleton.1 hp]; exact Flat.num hn
        · cases hp
      · split at hp
        · rcases List.mem_cons.1 hp with rfl | hp
          · exact Flat.cond hc
          · rcases List.mem_append.1 hp with hp | hp
            · obtain ⟨x, hx, rfl⟩ := List.mem_map.1 hp
              obtain ⟨j, hj, rfl⟩ := List.getElem_of_mem hx
              exact ih1 j hj
            · obtain ⟨x, hx, rfl⟩ := List.mem_map.1 hp
              obtain ⟨j, hj, rfl⟩ := List.getElem_of_mem hx
              exact ih2 j hj
        · cases hp
    exact key _ (List.getElem_mem hi)
/-- going over parts until one says stop -/
def goL {σ : Type} (f : PartT → σ → σ × Bool) : List PartT → σ → σ × Bool
  | [], s => (s, true)
  | p :: r, s => if (f p s).2 then goL f r (f p s).1 else ((f p s).1, false)
theorem goL_app {σ : Type} {f : PartT → σ → σ × Bool} : ∀ {a b : List PartT} {s : σ}, goL f (a ++ b) s = if (goL f a s).2 then goL f b (goL f a s).1 else ((goL f a s).1, false)
  | [], b, s => by simp [goL]
  | p :: r, b, s => by
    simp only [List.cons_append, goL]
    split
    · exact goL_app
    · simp
theorem goL_next {σ : Type} {f : PartT → σ → σ × Bool} {ls : List (List PartT)} {i : Nat} (hi : i < ls.length) (s : σ) (h : (goL f (ls.take i).flatten s).2 = true) : goL f (ls.take (i + 1)).flatten s = goL f ls[i] (goL f (ls.take i).flatten s).1 := by
  rw [List.take_add_one, List.getElem?_eq_getElem hi, Option.toList_some, List.flatten_append, goL_app, if_pos h]
  simp
theorem goL_stop {σ : Type} {f : PartT → σ → σ × Bool} {ls : List (List PartT)} {i : Nat} (s : σ) (h : (goL f (ls.take i).flatten s).2 = false) : goL f ls.flatten s = goL f (ls.take i).flatten s := by
  conv => lhs; rw [← List.take_append_drop i ls]
  rw [List.flatten_append, goL_app, h]
  generalize goL f (ls.take i).flatten s = q at h
  obtain ⟨a, b⟩ := q
  dsimp only at h
  subst h
  rfl
theorem goL_inv {σ : Type} {f : PartT → σ → σ × Bool} {I : σ → Prop} (hI : ∀ p s, I s → (f p s).2 = true → I (f p s).1) : ∀ {l : List PartT} {s : σ}, I s → (goL f l s).2 = true → I (goL f l s).1
  | [], s, h, _ => h
  | p :: r, s, h, h2 => by
    unfold goL at h2 ⊢
    split
    · rename_i h3
      rw [if_pos h3] at h2
      exact goL_inv hI (hI p s h h3) h2
    · rename_i h3
      rw [if_neg h3] at h2
      cases h2
/-- counting them -/
def cntF (_ : PartT) (s : Int) : Int × Bool := (s + 1, decide (s + 1 < 1073741824))
theorem cntF_inv (p : PartT) (s : Int) (h : 0 ≤ s ∧ s < 1073741824) (h2 : (cntF p s).2 = true) : 0 ≤ (cntF p s).1 ∧ (cntF p s).1 < 1073741824 := by
  have h3 : s + 1 < 1073741824 := of_decide_eq_true h2
  show 0 ≤ s + 1 ∧ s + 1 < 1073741824
  omega

theorem goL_cnt : ∀ {l : List PartT} {s : Int}, s + l.length < 1073741824 → goL cntF l s = (s + l.length, true)
  | [], s, _ => by simp [goL]
  | p :: r, s, h => by
    simp only [List.length_cons] at h
    have h1 : (cntF p s).2 = true := decide_eq_true (by omega)
    show (if (cntF p s).2 = true then goL cntF r (s + 1) else _) = _
    rw [if_pos h1, goL_cnt (by omega)]
    simp only [List.length_cons, Prod.mk.injEq, and_true]
    omega
end Kd
