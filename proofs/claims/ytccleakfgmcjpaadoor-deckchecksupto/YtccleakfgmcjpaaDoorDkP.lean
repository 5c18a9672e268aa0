/- Plain: books, formats, and how they lie in memory. No condition. -/
import Derived.Test.YtccleakfgmcjpaaDoorEng2
import Derived.Test.YtccleakfgmcjpaaDoorEng2
namespace Dk
open Go Go.Eng
def sV (s : List UInt8) : Value := .string (bs s)
def iV (n : Int) : Value := .int .i64 n
abbrev Gives (w : Value) : Value → List Ent → Prop := fun v L' => v = w ∧ L' = []
structure FmtT where
  name : List UInt8
  least : Int
  most : Int
  copies : Int
  banned : List (List UInt8)
  single : List (List UInt8)
  at_ : Int
/-- a slice of strings -/
def StrsR (m : Mp) (A : Option Addr) (xs : List (List UInt8)) : Prop := Rd m A (xs.map sV) ∧ xs.length ≤ 8796093022208
theorem StrsR.mono {m m' : Mp} {A : Option Addr} {xs : List (List UInt8)} (h : StrsR m A xs) (hl : Le m m') : StrsR m' A xs := ⟨h.1.mono hl, h.2⟩
def FmtR (m : Mp) (vs : List Value) (x : FmtT) : Prop :=
  ∃ A ca B cb, vs = [sV x.name, iV x.least, iV x.most, iV x.copies, .slice A x.banned.length ca, .slice B x.single.length cb, iV x.at_] ∧ StrsR m A x.banned ∧ StrsR m B x.single
theorem FmtR.mono {m m' : Mp} {vs : List Value} {x : FmtT} (h : FmtR m vs x) (hl : Le m m') : FmtR m' vs x := let ⟨A, a, B, b, e, h1, h2⟩ := h; ⟨A, a, B, b, e, h1.mono hl, h2.mono hl⟩
def FmtsR (m : Mp) (A : Option Addr) (l : List FmtT) : Prop :=
  l.length ≤ 140737488355328 ∧ ∃ vs, Rd m A vs ∧ vs.length = l.length * 7 ∧ ∀ (i : Nat) (hi : i < l.length), FmtR m ((vs.drop (i * 7)).take 7) l[i]
theorem FmtsR.mono {m m' : Mp} {A : Option Addr} {l : List FmtT} (h : FmtsR m A l) (hl : Le m m') : FmtsR m' A l := let ⟨h1, vs, h2, h3, h4⟩ := h; ⟨h1, vs, h2.mono hl, h3, fun i hi => (h4 i hi).mono hl⟩
structure BkT where
  cards : List CardT
  fmts : List FmtT
/-- a book's two slices -/
def BkR (m : Mp) (vs : List Value) (b : BkT) : Prop := ∃ A c F k, vs = [.slice A b.cards.length c, .slice F b.fmts.length k] ∧ CardsR m A b.cards.length b.cards ∧ FmtsR m F b.fmts
theorem BkR.mono {m m' : Mp} {vs : List Value} {b : BkT} (h : BkR m vs b) (hl : Le m m') : BkR m' vs b := let ⟨A, a, B, k, e, h1, h2⟩ := h; ⟨A, a, B, k, e, h1.mono hl, h2.mono hl⟩
/-- where a name stands first -/
def ix (s : List UInt8) (ns : List (List UInt8)) : Option Nat := ns.findIdx? (fun x => decide (x = s))
def ixI : Option Nat → Int
  | some i => i
  | none => -1
theorem ix_some {s : List UInt8} {ns : List (List UInt8)} {i : Nat} (h : i < ns.length) (he : ns[i] = s) (hn : ∀ j (hj : j < i), ns[j]'(by omega) ≠ s) : ix s ns = some i := by
  unfold ix
  rw [List.findIdx?_eq_some_iff_getElem]
  exact ⟨h, by simpa using he, fun j hj => by simpa using hn j hj⟩
theorem ix_none {s : List UInt8} {ns : List (List UInt8)} (hn : ∀ j (hj : j < ns.length), ns[j] ≠ s) : ix s ns = none := by
  unfold ix
  rw [List.findIdx?_eq_none_iff]
  intro x hx
  obtain ⟨j, hj, rfl⟩ := List.getElem_of_mem hx
  simpa using hn j hj
theorem ix_lt {s : List UInt8} {ns : List (List UInt8)} {i : Nat} (h : ix s ns = some i) : ∃ hi : i < ns.length, ns[i] = s ∧ ∀ j (hj : j < i), ns[j] ≠ s := by
  unfold ix at h
  rw [List.findIdx?_eq_some_iff_getElem] at h
  obtain ⟨h1, h2, h3⟩ := h
  exact ⟨h1, by simpa using h2, fun j hj => by simpa using h3 j hj⟩
def names (b : BkT) : List (List UInt8) := b.cards.map (·.name)
def fmt0 : FmtT := ⟨[], 0, 0, 0, [], [], 0⟩
end Dk
namespace Dk
open Go Go.Eng
def ix0 : Option Nat → Int
  | some i => (i : Int)
  | none => 0
def count (s : List UInt8) (l : List (List UInt8)) : Nat := l.countP fun x => decide (x = s)
theorem count_snoc {s x : List UInt8} {l : List (List UInt8)} : count s (l ++ [x]) = count s l + if x = s then 1 else 0 := by
  unfold count
  rw [List.countP_append, List.countP_singleton]
  by_cases h : x = s <;> simp [h]
theorem count_take {s : List UInt8} {l : List (List UInt8)} {i : Nat} (h : i < l.length) : count s (l.take (i + 1)) = count s (l.take i) + if l[i] = s then 1 else 0 := by
  rw [List.take_add_one, List.getElem?_eq_getElem h, Option.toList_some, count_snoc]
theorem count_le {s : List UInt8} {l : List (List UInt8)} : count s l ≤ l.length := List.countP_le_length
def fmtOf (s : List UInt8) (b : BkT) : Option FmtT := (ix s (b.fmts.map (·.name))).bind fun i => b.fmts[i]?
end Dk
namespace Dk
open Go Go.Eng
structure Rea where
  why : Int
  name : List UInt8
  n : Int
deriving DecidableEq
def U0 : Value := .tuple #[]
def addR (rs : List Rea) (r : Rea) (so : Bool) : List Rea := if so then rs ++ [r] else rs
end Dk
namespace Dk
open Go Go.Eng
/-- names, each once, in the order in which they come first -/
def firsts (l : List (List UInt8)) : List (List UInt8) := l.foldl (fun acc x => if x ∈ acc then acc else acc ++ [x]) []
theorem firsts_snoc (l : List (List UInt8)) (x : List UInt8) : firsts (l ++ [x]) = if x ∈ firsts l then firsts l else firsts l ++ [x] := by
  unfold firsts
  rw [List.foldl_append]
  rfl
theorem firsts_take {l : List (List UInt8)} {i : Nat} (h : i < l.length) : firsts (l.take (i + 1)) = if l[i] ∈ firsts (l.take i) then firsts (l.take i) else firsts (l.take i) ++ [l[i]] := by
  rw [List.take_add_one, List.getElem?_eq_getElem h, Option.toList_some, firsts_snoc]
theorem mem_foldl_firsts (l : List (List UInt8)) : ∀ (acc : List (List UInt8)) (x : List UInt8), x ∈ l.foldl (fun acc x => if x ∈ acc then acc else acc ++ [x]) acc ↔ x ∈ acc ∨ x ∈ l := by
  induction l with
  | nil => intro acc x; simp
  | cons y r ih =>
    intro acc x
    rw [List.foldl_cons, ih]
    by_cases hy : y ∈ acc
    · rw [if_pos hy]
      constructor
      · rintro (h | h)
        · exact .inl h
        · exact .inr (List.mem_cons_of_mem _ h)
      · rintro (h | h)
        · exact .inl h
        · rcases List.mem_cons.1 h with rfl | h
          · exact .inl hy
          · exact .inr h
    · rw [if_neg hy]
      rw [List.mem_append, List.mem_singleton, List.mem_cons, or_assoc]
theorem mem_firsts {l : List (List UInt8)} {x : List UInt8} : x ∈ firsts l ↔ x ∈ l := by
  unfold firsts
  rw [mem_foldl_firsts]
  simp
theorem nodup_firsts (l : List (List UInt8)) : (firsts l).Nodup := by
  unfold firsts
  have key : ∀ (l acc : List (List UInt8)), acc.Nodup → (l.foldl (fun acc x => if x ∈ acc then acc else acc ++ [x]) acc).Nodup := by
    intro l
    induction l with
    | nil => intro acc h; exact h
    | cons y r ih =>
      intro acc h
      rw [List.foldl_cons]
      apply ih
      by_cases hy : y ∈ acc
      · rw [if_pos hy]; exact h
      · rw [if_neg hy, List.nodup_append]
        refine ⟨h, by simp, ?_⟩
        intro a ha b hb hab
        rw [List.mem_singleton.1 hb] at hab
        exact hy (hab ▸ ha)
  exact key l [] List.nodup_nil
theorem firsts_len (l : List (List UInt8)) : (firsts l).length ≤ l.length := by
  have key : ∀ (l acc : List (List UInt8)), (l.foldl (fun acc x => if x ∈ acc then acc else acc ++ [x]) acc).length ≤ acc.length + l.length := by
    intro l
    induction l with
    | nil => intro acc; simp
    | cons y r ih =>
      intro acc
      rw [List.foldl_cons]
      have := ih (if y ∈ acc then acc else acc ++ [y])
      by_cases hy : y ∈ acc
      · rw [if_pos hy] at this ⊢; simp; omega
      · rw [if_neg hy] at this ⊢; simp at this ⊢; omega
  have := key l []
  simp at this
  exact this
structure Pile where
  name : List UInt8
  blk : Nat
  n : Nat
def pptr (p : Pile) : Value := .pointer (some ⟨p.blk, 0, none⟩)
def mapE (ps : List Pile) : List (List UInt8 × Value) := ps.map fun p => (p.name, pptr p)
def pcel (p : Pile) : Ent := cel p.blk [sV p.name, iV p.n] 61
theorem findM_no {s : List UInt8} : ∀ {es : List (List UInt8 × Value)} {i : Nat}, (∀ e ∈ es, e.1 ≠ s) → findM s i es = none
  | [], _, _ => rfl
  | e :: r, i, h => by
    unfold findM
    rw [if_neg (fun h2 => h e (by simp) h2.symm)]
    exact findM_no fun e he => h e (by simp [he])
theorem getM_no {s : List UInt8} {ps : List Pile} (h : ∀ p ∈ ps, p.name ≠ s) : getM (mapE ps) s = none := by
  unfold getM mapE
  rw [findM_no (by intro e he; obtain ⟨p, hp, rfl⟩ := List.mem_map.1 he; exact h p hp)]
  rfl
theorem putM_no {s : List UInt8} {ps : List Pile} {v : Value} (h : ∀ p ∈ ps, p.name ≠ s) : putM (mapE ps) s v = mapE ps ++ [(s, v)] := by
  unfold putM mapE
  rw [findM_no (by intro e he; obtain ⟨p, hp, rfl⟩ := List.mem_map.1 he; exact h p hp)]
theorem findM_yes {s : List UInt8} {p : Pile} (hp : p.name = s) : ∀ {a b : List Pile} {i : Nat}, (∀ q ∈ a, q.name ≠ s) → findM s i (mapE (a ++ p :: b)) = some (i + a.length, pptr p)
  | [], b, i, _ => by
    show (if s = p.name then _ else _) = _
    rw [if_pos hp.symm]
    rfl
  | q :: a, b, i, h => by
    show (if s = q.name then _ else _) = _
    rw [if_neg (fun h2 => h q (by simp) h2.symm)]
    show findM s (i + 1) (mapE (a ++ p :: b)) = _
    rw [findM_yes hp fun q hq => h q (by simp [hq])]
    simp; omega
theorem getM_yes {s : List UInt8} {p : Pile} (hp : p.name = s) {a b : List Pile} (h : ∀ q ∈ a, q.name ≠ s) : getM (mapE (a ++ p :: b)) s = some (pptr p) := by
  unfold getM
  rw [findM_yes hp h]
  rfl
/-- what the piles are of -/
def PilesOf (ps : List Pile) (l : List (List UInt8)) : Prop := ps.map (·.name) = firsts l ∧ ∀ p ∈ ps, p.n = count p.name l
theorem PilesOf.new {ps : List Pile} {l : List (List UInt8)} {i : Nat} (hi : i < l.length) (h : PilesOf ps (l.take i)) (hn : ∀ p ∈ ps, p.name ≠ l[i]) (b : Nat) : PilesOf (ps ++ [⟨l[i], b, 1⟩]) (l.take (i + 1)) := by
  obtain ⟨h1, h2⟩ := h
  have hnm : l[i] ∉ firsts (l.take i) := by
    rw [← h1]
    intro hm
    obtain ⟨p, hp, e⟩ := List.mem_map.1 hm
    exact hn p hp e
  refine ⟨by rw [firsts_take hi, if_neg hnm, List.map_append, h1]; rfl, fun p hp => ?_⟩
  rw [count_take hi]
  rcases List.mem_append.1 hp with hp | hp
  · rw [if_neg (fun e => hn p hp e.symm), h2 p hp]; rfl
  · rw [List.mem_singleton.1 hp]
    dsimp only
    rw [if_pos rfl]
    have : count l[i] (l.take i) = 0 := by
      unfold count
      rw [List.countP_eq_zero]
      intro x hx
      simp only [decide_eq_true_eq]
      intro e
      exact hnm (mem_firsts.2 (e ▸ hx))
    omega
theorem PilesOf.more {a b : List Pile} {p : Pile} {l : List (List UInt8)} {i : Nat} (hi : i < l.length) (h : PilesOf (a ++ p :: b) (l.take i)) (hp : p.name = l[i]) : PilesOf (a ++ ⟨p.name, p.blk, p.n + 1⟩ :: b) (l.take (i + 1)) := by
  obtain ⟨h1, h2⟩ := h
  have hm : l[i] ∈ firsts (l.take i) := by rw [← h1, ← hp]; simp
  have hnd := nodup_firsts (l.take i)
  rw [← h1] at hnd
  refine ⟨by rw [firsts_take hi, if_pos hm, ← h1]; simp, fun q hq => ?_⟩
  have hne : ∀ q ∈ a ++ b, q.name ≠ p.name := by
    intro q hq e
    rw [List.map_append, List.map_cons, List.nodup_append] at hnd
    obtain ⟨n1, n2, n3⟩ := hnd
    rw [List.nodup_cons] at n2
    rcases List.mem_append.1 hq with hq | hq
    · exact n3 _ (List.mem_map.2 ⟨q, hq, rfl⟩) _ (List.mem_cons_self) e
    · exact n2.1 (e ▸ List.mem_map.2 ⟨q, hq, rfl⟩)
  rw [count_take hi, ← hp]
  have hq' : q = ⟨p.name, p.blk, p.n + 1⟩ ∨ q ∈ a ++ b := by
    rcases List.mem_append.1 hq with h | h
    · exact .inr (List.mem_append_left _ h)
    · rcases List.mem_cons.1 h with h | h
      · exact .inl h
      · exact .inr (List.mem_append_right _ h)
  rcases hq' with rfl | hq'
  · dsimp only
    rw [if_pos rfl, ← h2 p (by simp)]
  · rw [if_neg (fun e => hne q hq' e.symm), h2 q (by
      rcases List.mem_append.1 hq' with h | h
      · exact List.mem_append_left _ h
      · exact List.mem_append_right _ (List.mem_cons_of_mem _ h))]
    rfl
theorem split_first {s : List UInt8} : ∀ {ps : List Pile}, (∃ p ∈ ps, p.name = s) → ∃ a p b, ps = a ++ p :: b ∧ p.name = s ∧ ∀ q ∈ a, q.name ≠ s
  | [], ⟨_, h, _⟩ => by cases h
  | q :: r, h => by
    by_cases hq : q.name = s
    · exact ⟨[], q, r, rfl, hq, fun _ h => by cases h⟩
    · obtain ⟨a, p, b, e, hp, ha⟩ := split_first (ps := r) (by
        obtain ⟨p, hp, e⟩ := h
        rcases List.mem_cons.1 hp with rfl | hp
        · exact absurd e hq
        · exact ⟨p, hp, e⟩)
      exact ⟨q :: a, p, b, by rw [e]; rfl, hp, fun x hx => by
        rcases List.mem_cons.1 hx with rfl | hx
        · exact hq
        · exact ha x hx⟩
end Dk
namespace Dk
/-- what is wrong with the number of cards -/
def base0 (f : FmtT) (n : Nat) : List Rea := addR (addR [] ⟨1, [], n⟩ (decide ((n : Int) < f.least))) ⟨2, [], n⟩ (decide ((n : Int) > f.most) || decide ((n : Int) > 60))
/-- what is wrong with a name -/
def stepR (b : BkT) (f : FmtT) (deck : List (List UInt8)) (rs : List Rea) (s : List UInt8) : List Rea :=
  if (ix s (names b)).isSome = true then
    addR (addR (addR rs ⟨4, s, count s deck⟩ (ix s f.banned).isSome) ⟨5, s, count s deck⟩ (decide ((count s deck : Int) > 1) && (ix s f.single).isSome)) ⟨6, s, count s deck⟩ (decide ((count s deck : Int) > f.copies))
  else rs ++ [⟨3, s, count s deck⟩]
def reasons (b : BkT) (f : FmtT) (deck : List (List UInt8)) : List Rea := (firsts deck).foldl (stepR b f deck) (base0 f deck.length)
def checkP (b : BkT) (fm : List UInt8) (deck : List (List UInt8)) : List Rea × Int := match fmtOf fm b with
  | none => ([], 4)
  | some f => if (reasons b f deck).length = 0 then ([], 0) else (reasons b f deck, 292)
theorem addR_len {rs : List Rea} {r : Rea} {so : Bool} : (addR rs r so).length ≤ rs.length + 1 := by
  unfold addR
  cases so <;> simp
theorem stepR_len {b : BkT} {f : FmtT} {deck : List (List UInt8)} {rs : List Rea} {s : List UInt8} : (stepR b f deck rs s).length ≤ rs.length + 3 := by
  unfold stepR
  split
  · refine Nat.le_trans addR_len ?_
    have h1 := addR_len (rs := addR rs ⟨4, s, count s deck⟩ (ix s f.banned).isSome) (r := ⟨5, s, count s deck⟩) (so := decide ((count s deck : Int) > 1) && (ix s f.single).isSome)
    have h2 := addR_len (rs := rs) (r := ⟨4, s, count s deck⟩) (so := (ix s f.banned).isSome)
    omega
  · simp
theorem foldl_len {b : BkT} {f : FmtT} {deck : List (List UInt8)} : ∀ {l : List (List UInt8)} {rs : List Rea}, (l.foldl (stepR b f deck) rs).length ≤ rs.length + 3 * l.length
  | [], rs => by simp
  | x :: l, rs => by
    rw [List.foldl_cons]
    have h1 := foldl_len (b := b) (f := f) (deck := deck) (l := l) (rs := stepR b f deck rs x)
    have h2 := stepR_len (b := b) (f := f) (deck := deck) (rs := rs) (s := x)
    simp only [List.length_cons]
    omega
theorem base0_len {f : FmtT} {n : Nat} : (base0 f n).length ≤ 2 := by
  unfold base0
  refine Nat.le_trans addR_len ?_
  have := addR_len (rs := []) (r := ⟨1, [], n⟩) (so := decide ((n : Int) < f.least))
  simp at this
  omega
end Dk
namespace Dk
def str (s : String) : List UInt8 := s.toUTF8.toList
def colon : List UInt8 := [58, 32]
def sep2 : List UInt8 := [59, 32]
def spx : List UInt8 := [32, 120]
def w1 : List UInt8 := [116, 111, 111, 32, 102, 101, 119]
def w2 : List UInt8 := [116, 111, 111, 32, 109, 97, 110, 121]
def w3 : List UInt8 := [117, 110, 107, 110, 111, 119, 110]
def w4 : List UInt8 := [98, 97, 110, 110, 101, 100]
def w5 : List UInt8 := [115, 105, 110, 103, 108, 101]
def w6 : List UInt8 := [99, 111, 112, 105, 101, 115]
def whyS (w : Int) : List UInt8 := if w = 1 then w1 else if w = 2 then w2 else if w = 3 then w3 else if w = 4 then w4 else if w = 5 then w5 else w6
/-- a reason as a text -/
def partR (itoa : Int → List UInt8) (r : Rea) : List UInt8 := if r.why < 1 ∨ 6 < r.why then [63] else if 2 < r.why then whyS r.why ++ colon ++ (r.name ++ spx) ++ itoa r.n else whyS r.why ++ colon ++ itoa r.n
end Dk
namespace Dk
open Go Go.Eng
theorem take_step {α : Type} {xs ys : List α} {i : Nat} (h : xs.take i = ys.take i) (hi : i < xs.length) (hj : i < ys.length) (e : xs[i] = ys[i]) : xs.take (i + 1) = ys.take (i + 1) := by
  rw [List.take_succ_eq_append_getElem hi, List.take_succ_eq_append_getElem hj, h, e]
theorem take_all {α : Type} {xs ys : List α} {i : Nat} (h : xs.take i = ys.take i) (hi : xs.length ≤ i) (hl : xs.length = ys.length) : xs = ys := by
  rwa [List.take_of_length_le hi, List.take_of_length_le (by omega)] at h
def found (b : BkT) (s : List UInt8) : Bool := (ix s (names b)).isSome
def plc (b : BkT) (s : List UInt8) : Int := ix0 (ix s (names b))
/-- names as places -/
def placesP (b : BkT) (l : List (List UInt8)) : List Int × Int := if l.all (found b) = true then (l.map (plc b), 0) else ([], 150)
def inBk (b : BkT) (n : Int) : Bool := decide (0 ≤ n) && decide (n < b.cards.length)
def nam (b : BkT) (n : Int) : List UInt8 := (names b).getD n.toNat []
/-- places as names -/
def namesP (b : BkT) (l : List Int) : List (List UInt8) × Int := if l.all (inBk b) = true then (l.map (nam b), 0) else ([], 150)
theorem map_take1 {α β : Type} {f : α → β} {l : List α} {i : Nat} (h : i < l.length) : (l.take (i + 1)).map f = (l.take i).map f ++ [f l[i]] := by
  rw [List.take_add_one, List.getElem?_eq_getElem h, Option.toList_some, List.map_append]
  rfl
end Dk
