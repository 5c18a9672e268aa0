/- Plain: the words of a text, as the program goes and as the document says: the same. No condition. -/
import Derived.Test.YtbghonkgflolaaaDoorWdP
namespace Wd
open Go Go.Eng

theorem rn_of_kind {s : List UInt8} {p x k : Nat} (h : RnK s p x k) : rn s p = some (x, k) := by
  have hl := by_lt s p
  unfold rn
  cases h with
  | one h => rw [if_pos h]
  | two x h l1 k1 hx h1 =>
    rw [if_neg (by omega), if_pos (by rw [Bool.and_eq_true_iff]; exact ⟨beq_iff_eq.2 h, cont_iff.2 ⟨l1, k1⟩⟩), if_pos (by omega), hx]
  | three x h l1 k1 k2 hx h1 hv =>
    rw [if_neg (by omega), if_neg (by rw [Bool.and_eq_true_iff]; rintro ⟨a, _⟩; have := beq_iff_eq.1 a; omega), if_pos (by rw [Bool.and_eq_true_iff, Bool.and_eq_true_iff]; exact ⟨⟨beq_iff_eq.2 h, cont_iff.2 ⟨by omega, k1⟩⟩, cont_iff.2 ⟨l1, k2⟩⟩), if_pos (by rw [Bool.and_eq_true_iff]; exact ⟨decide_eq_true (by omega), (valid_nat _).2 (by omega)⟩), hx]
  | four x h l1 k1 k2 k3 hx h1 hv =>
    rw [if_neg (by omega), if_neg (by rw [Bool.and_eq_true_iff]; rintro ⟨a, _⟩; have := beq_iff_eq.1 a; omega), if_neg (by rw [Bool.and_eq_true_iff, Bool.and_eq_true_iff]; rintro ⟨⟨a, _⟩, _⟩; have := beq_iff_eq.1 a; omega),
      if_pos (by rw [Bool.and_eq_true_iff, Bool.and_eq_true_iff, Bool.and_eq_true_iff]; exact ⟨⟨⟨beq_iff_eq.2 h, cont_iff.2 ⟨by omega, k1⟩⟩, cont_iff.2 ⟨by omega, k2⟩⟩, cont_iff.2 ⟨l1, k3⟩⟩), if_pos (by rw [Bool.and_eq_true_iff]; exact ⟨decide_eq_true (by omega), (valid_nat _).2 (by omega)⟩), hx]
theorem rn_none {s : List UInt8} {p : Nat} (h : ∀ x k, ¬ RnK s p x k) : rn s p = none := by
  cases hr : rn s p with
  | none => rfl
  | some r => exact absurd (rn_kind (x := r.1) (k := r.2) hr) (h _ _)
theorem by_drop (s : List UInt8) (a i : Nat) : by_ (s.drop a) i = by_ s (a + i) := by
  unfold by_
  simp [List.getD_eq_getElem?_getD, List.getElem?_drop]
theorem kind_drop {s : List UInt8} {a p x k : Nat} : RnK (s.drop a) p x k ↔ RnK s (a + p) x k := by
  constructor
  · intro h
    cases h with
    | one h => rw [by_drop] at h ⊢; exact .one h
    | two x h l1 k1 hx h1 => simp only [by_drop, List.length_drop] at *; exact .two x h (by omega) k1 hx h1
    | three x h l1 k1 k2 hx h1 hv => simp only [by_drop, List.length_drop] at *; exact .three x h (by omega) k1 k2 hx h1 hv
    | four x h l1 k1 k2 k3 hx h1 hv => simp only [by_drop, List.length_drop] at *; exact .four x h (by omega) k1 k2 k3 hx h1 hv
  · intro h
    cases h with
    | one h => rw [← by_drop] at h ⊢; exact .one h
    | two x h l1 k1 hx h1 => exact .two x (by rw [by_drop]; exact h) (by rw [List.length_drop]; omega) (by rw [by_drop]; exact k1) (by rw [by_drop, by_drop]; exact hx) h1
    | three x h l1 k1 k2 hx h1 hv => exact .three x (by rw [by_drop]; exact h) (by rw [List.length_drop]; omega) (by rw [by_drop]; exact k1) (by rw [by_drop]; exact k2) (by rw [by_drop, by_drop, by_drop]; exact hx) h1 hv
    | four x h l1 k1 k2 k3 hx h1 hv => exact .four x (by rw [by_drop]; exact h) (by rw [List.length_drop]; omega) (by rw [by_drop]; exact k1) (by rw [by_drop]; exact k2) (by rw [by_drop]; exact k3) (by rw [by_drop, by_drop, by_drop, by_drop]; exact hx) h1 hv
theorem rn_drop (s : List UInt8) (a p : Nat) : rn (s.drop a) p = rn s (a + p) := by
  cases h : rn s (a + p) with
  | some r => exact rn_of_kind (kind_drop.2 (rn_kind (x := r.1) (k := r.2) h))
  | none => exact rn_none fun x k hk => by rw [rn_of_kind (kind_drop.1 hk)] at h; cases h
theorem by_take {s : List UInt8} {e i : Nat} (h : i < e) : by_ (s.take e) i = by_ s i := by
  unfold by_
  simp [List.getD_eq_getElem?_getD, h]
theorem rn_take {s : List UInt8} {e p x k : Nat} (h : rn s p = some (x, k)) (he : p + k ≤ e) : rn (s.take e) p = some (x, k) := by
  refine rn_of_kind ?_
  cases rn_kind h with
  | one hb => rw [← by_take (e := e) (by omega)] at hb ⊢; exact .one hb
  | two x hb l1 k1 hx h1 => exact .two x (by rw [by_take (by omega)]; exact hb) (by rw [List.length_take]; omega) (by rw [by_take (by omega)]; exact k1) (by rw [by_take (by omega), by_take (by omega)]; exact hx) h1
  | three x hb l1 k1 k2 hx h1 hv => exact .three x (by rw [by_take (by omega)]; exact hb) (by rw [List.length_take]; omega) (by rw [by_take (by omega)]; exact k1) (by rw [by_take (by omega)]; exact k2) (by rw [by_take (by omega), by_take (by omega), by_take (by omega)]; exact hx) h1 hv
  | four x hb l1 k1 k2 k3 hx h1 hv => exact .four x (by rw [by_take (by omega)]; exact hb) (by rw [List.length_take]; omega) (by rw [by_take (by omega)]; exact k1) (by rw [by_take (by omega)]; exact k2) (by rw [by_take (by omega)]; exact k3) (by rw [by_take (by omega), by_take (by omega), by_take (by omega), by_take (by omega)]; exact hx) h1 hv

def letterP (x : Nat) : Bool := decide (97 ≤ x ∧ x ≤ 122 ∨ 65 ≤ x ∧ x ≤ 90 ∨ 192 ≤ x ∧ x ≤ 591 ∧ x ≠ 215 ∧ x ≠ 247)
def digitP (x : Nat) : Bool := decide (48 ≤ x ∧ x ≤ 57)
/-- does a rune not belong to a name; 'first': it would be its first -/
def stopP (x : Nat) (first : Bool) : Bool := !letterP x && (first || (!digitP x && decide (x ≠ 39)))

/-- where a name ends, and its runes -/
def nameGo (s : List UInt8) (p n : Nat) : Nat × Nat :=
  if p < s.length then
    match h : rn s p with
    | none => (p, n)
    | some (x, k) => if stopP x (n == 0) then (p, n) else nameGo s (p + k) (n + 1)
  else (p, n)
termination_by s.length - p
decreasing_by have := rn_pos h; omega
def lengthGo (t : List UInt8) (i n : Nat) : Nat × Nat :=
  if i < t.length then
    if stopP (dec t i).1 (i == 0) then (i, n) else lengthGo t (i + (dec t i).2) (n + 1)
  else (t.length, n)
termination_by t.length - i
decreasing_by have := dec_pos t i; omega
def digGo (s : List UInt8) (q n : Nat) : Nat × Nat :=
  if q < s.length ∧ digitP (by_ s q) then digGo s (q + 1) (min (n * 10 + (by_ s q - 48)) 1000) else (q, n)
termination_by s.length - q
def marks : List (List UInt8) := [[60, 61], [61, 61], [123], [125], [40], [41], [47], [44], [59], [43], [45], [42], [60]]
def markP (t : List UInt8) : Option (List UInt8) := marks.find? (·.isPrefixOf t)
def remGo (s : List UInt8) (p : Nat) : Nat ⊕ Nat :=
  if p < s.length ∧ by_ s p ≠ 10 then
    match h : rn s p with
    | none => .inl p
    | some (_, k) => remGo s (p + k)
  else .inr p
termination_by s.length - p
decreasing_by have := rn_pos h; omega

structure Wrd where
  kind : Int
  text : List UInt8
  n : Int
  at_ : Int
deriving DecidableEq
def seg (s : List UInt8) (a b : Nat) : List UInt8 := (s.drop a).take (b - a)
inductive St where
  | err (e : Int) (a : Nat)
  | next (q : Nat) (ws : List Wrd)
def isSp (x : Nat) : Bool := decide (x = 32 ∨ x = 10 ∨ x = 13 ∨ x = 9)
def stepN (s : List UInt8) (p : Nat) (r : Nat × Nat) : St := if 24 < r.2 ∨ 40 < r.1 - p then .err 3 p else .next r.1 [⟨1, seg s p r.1, 0, p⟩]
def stepD (s : List UInt8) (p : Nat) (r : Nat × Nat) : St := if by_ s p = 48 ∧ p + 1 < r.1 then .err 110 p else if 999 < r.2 then .err 3 p else .next r.1 [⟨2, [], r.2, p⟩]
def stepM (s : List UInt8) (p : Nat) : St := match markP (s.drop p) with
  | none => .err 110 p
  | some m => .next (p + m.length) [⟨3, m, 0, p⟩]
/-- a step of the document's -/
def stepR (s : List UInt8) (p : Nat) : St :=
  match rn s p with
  | none => .err 110 p
  | some (x, _) =>
    if isSp x then .next (p + 1) []
    else if x = 35 then (match remGo s p with | .inl a => .err 110 a | .inr q => .next q [])
    else if letterP x then stepN s p (nameGo s p 0)
    else if digitP x then stepD s p (digGo s p 0)
    else stepM s p
abbrev Res := Except (Int × Nat) (List Wrd)
def goR (s : List UInt8) (p : Nat) (acc : List Wrd) : Res :=
  if p < s.length then
    match stepR s p with
    | .err e a => .error (e, a)
    | .next q ws => if p < q then goR s q (acc ++ ws) else .ok []
  else .ok (acc ++ [⟨0, [], 0, s.length⟩])
termination_by s.length - p
/-- a step of the program's, where nothing is skipped and no remark is -/
def stepI (s : List UInt8) (p : Nat) (x : Nat) : St ⊕ Bool :=
  if isSp x then .inr false
  else if x = 35 then .inr true
  else if letterP x then .inl (let r := lengthGo (s.drop p) 0 0; stepN s p (p + r.1, r.2))
  else if digitP x then .inl (stepD s p (digGo s p 0))
  else .inl (stepM s p)
def goI (s : List UInt8) (p skip : Nat) (rem : Bool) (acc : List Wrd) : Res :=
  if p < s.length then
    if p < skip then goI s (p + (dec s p).2) skip rem acc
    else match rn s p with
      | none => .error (110, p)
      | some (x, _) =>
        if rem then goI s (p + (dec s p).2) skip (decide (x ≠ 10)) acc
        else match stepI s p x with
          | .inr b => goI s (p + (dec s p).2) skip b acc
          | .inl (.err e a) => .error (e, a)
          | .inl (.next q ws) => goI s (p + (dec s p).2) q false (acc ++ ws)
  else .ok (acc ++ [⟨0, [], 0, s.length⟩])
termination_by s.length - p
decreasing_by all_goals (have := dec_pos s p; omega)

theorem dec_some {s : List UInt8} {p x k : Nat} (h : rn s p = some (x, k)) : dec s p = (x, k) := by simp [dec, h]
/-- from p valid runes lead to q -/
inductive Tiles (s : List UInt8) : Nat → Nat → Prop
  | refl (p : Nat) : Tiles s p p
  | step {p q x k : Nat} (h : rn s p = some (x, k)) (hp : p < s.length) (t : Tiles s (p + k) q) : Tiles s p q
theorem Tiles.le {s : List UInt8} {p q : Nat} (h : Tiles s p q) : p ≤ q := by
  induction h with
  | refl => exact Nat.le_refl _
  | step h _ _ ih => have := rn_pos h; omega
theorem Tiles.trans {s : List UInt8} {p q r : Nat} (h : Tiles s p q) (k : Tiles s q r) : Tiles s p r := by
  induction h with
  | refl => exact k
  | step h hp _ ih => exact .step h hp (ih k)
theorem Tiles.len {s : List UInt8} {p q : Nat} (h : Tiles s p q) (hp : p ≤ s.length) : q ≤ s.length := by
  induction h with
  | refl => exact hp
  | step h hlt _ ih =>
    exact ih (by have := rn_pos h; omega)
theorem ascii_rn {s : List UInt8} {p : Nat} (h : by_ s p < 128) : rn s p = some (by_ s p, 1) := rn_of_kind (.one h)

theorem nameGo_tiles (s : List UInt8) (p n : Nat) : Tiles s p (nameGo s p n).1 := by
  fun_induction nameGo s p n with
  | case1 => exact .refl _
  | case2 => exact .refl _
  | case3 p n hp x k h hs ih => exact .step h hp ih
  | case4 => exact .refl _
theorem digit_lt {x : Nat} (h : digitP x = true) : x < 128 := by simp [digitP] at h; omega
theorem digGo_tiles (s : List UInt8) (q n : Nat) : Tiles s q (digGo s q n).1 := by
  fun_induction digGo s q n with
  | case1 q n h ih => exact .step (ascii_rn (digit_lt h.2)) h.1 ih
  | case2 => exact .refl _
theorem remGo_tiles {s : List UInt8} {p q : Nat} (h : remGo s p = .inr q) : Tiles s p q := by
  revert h
  fun_induction remGo s p with
  | case1 => intro h; cases h
  | case2 p hp x k h ih => intro h'; exact .step h hp.1 (ih h')
  | case3 => intro h; cases h; exact .refl _
end Wd
namespace Wd
open Go Go.Eng
theorem goI_skip {s : List UInt8} {p q : Nat} (h : Tiles s p q) (acc : List Wrd) : goI s p q false acc = goI s q q false acc := by
  induction h with
  | refl => rfl
  | @step p q x k h hp t ih =>
    have h1 := t.le
    have h2 := rn_pos h
    rw [goI, if_pos hp, if_pos (by omega), dec_some h]
    exact ih
/-- what a step that goes on shows -/
theorem stepR_next {s : List UInt8} {p q : Nat} {ws : List Wrd} (hp : p < s.length) (h : stepR s p = .next q ws) : p < q ∧ Tiles s p q := by
  unfold stepR at h
  split at h
  · cases h
  · rename_i x k hr
    have hpos := rn_pos hr
    split at h
    · rename_i hsp
      injection h with h1 h2
      subst h1
      have hx : x < 128 := by simp [isSp] at hsp; omega
      have hk : k = 1 := by omega
      subst hk
      exact ⟨by omega, .step hr hp (.refl _)⟩
    · split at h
      · rename_i hx
        split at h
        · cases h
        · rename_i q' hq
          injection h with h1 h2
          subst h1
          have hk : k = 1 := by omega
          subst hk
          refine ⟨?_, remGo_tiles hq⟩
          rw [remGo, if_pos ⟨hp, by omega⟩] at hq
          split at hq
          · cases hq
          · rename_i x' k' hr'
            have := (remGo_tiles hq).le
            have := rn_pos hr'
            omega
      · split at h
        · rename_i hl
          unfold stepN at h
          split at h
          · cases h
          · injection h with h1 h2
            subst h1
            refine ⟨?_, nameGo_tiles _ _ _⟩
            rw [nameGo, if_pos hp]
            split
            · rename_i hn; rw [hn] at hr; cases hr
            · rename_i x' k' hr'
              rw [hr] at hr'
              injection hr' with e
              injection e with e1 e2
              subst e1 e2
              rw [if_neg (by simp [stopP, hl])]
              have := (nameGo_tiles s (p + k) (0 + 1)).le
              omega
        · split at h
          · rename_i hl hd
            unfold stepD at h
            split at h
            · cases h
            · split at h
              · cases h
              · injection h with h1 h2
                subst h1
                refine ⟨?_, digGo_tiles _ _ _⟩
                have hlt := digit_lt hd
                have hx : x = by_ s p := by omega
                rw [digGo, if_pos ⟨hp, by rw [← hx]; exact hd⟩]
                have := (digGo_tiles s (p + 1) (min (0 * 10 + (by_ s p - 48)) 1000)).le
                omega
          · unfold stepM at h
            split at h
            · cases h
            · rename_i m hm
              injection h with h1 h2
              subst h1
              unfold markP at hm
              have hmem := List.mem_of_find?_eq_some hm
              have hpre : m.isPrefixOf (s.drop p) = true := List.find?_some (p := fun (m : List UInt8) => m.isPrefixOf (s.drop p)) hm
              have hpre := List.isPrefixOf_iff_prefix.1 hpre
              obtain ⟨t, ht⟩ := hpre
              have hb : ∀ i, i < m.length → by_ s (p + i) = (m.getD i 0).toNat := fun i hi => by
                rw [← by_drop, ← ht]
                unfold by_
                simp [List.getD_eq_getElem?_getD, List.getElem?_append_left hi]
              have hlen : p + m.length ≤ s.length := by
                have := congrArg List.length ht
                simp at this
                omega
              simp only [marks, List.mem_cons, List.not_mem_nil, or_false] at hmem
              have one : ∀ j, p ≤ j → j < p + m.length → by_ s j < 128 := fun j h1 h2 => by
                have := hb (j - p) (by omega)
                rw [show p + (j - p) = j by omega] at this
                rw [this]
                have hj : j - p < m.length := by omega
                rcases hmem with rfl | rfl | rfl | rfl | rfl | rfl | rfl | rfl | rfl | rfl | rfl | rfl | rfl
                all_goals
                  simp only [List.length_cons, List.length_nil] at hj
                  first
                    | (have e : j - p = 0 := by omega
                       rw [e]; decide)
                    | (rcases (show j - p = 0 ∨ j - p = 1 by omega) with e | e <;> rw [e] <;> decide)
              have hm1 : 1 ≤ m.length := by
                rcases hmem with rfl | rfl | rfl | rfl | rfl | rfl | rfl | rfl | rfl | rfl | rfl | rfl | rfl <;> decide
              have key : ∀ d j, j + d = p + m.length → p ≤ j → Tiles s j (p + m.length) := by
                intro d
                induction d with
                | zero => intro j hj _; rw [show j = p + m.length by omega]; exact .refl _
                | succ d ih => intro j hj hpj; exact .step (ascii_rn (one j hpj (by omega))) (by omega) (ih (j + 1) (by omega) (by omega))
              exact ⟨by omega, key m.length p (by omega) (Nat.le_refl _)⟩
end Wd
namespace Wd
open Go Go.Eng
theorem nameGo_some {s : List UInt8} {p n x k : Nat} (hp : p < s.length) (h : rn s p = some (x, k)) : nameGo s p n = if stopP x (n == 0) then (p, n) else nameGo s (p + k) (n + 1) := by
  rw [nameGo, if_pos hp]
  split
  · rename_i hn; rw [hn] at h; cases h
  · rename_i x' k' hr'
    rw [h] at hr'; injection hr' with e; injection e with e1 e2; subst e1 e2; rfl
theorem nameGo_none {s : List UInt8} {p n : Nat} (hp : p < s.length) (h : rn s p = none) : nameGo s p n = (p, n) := by
  rw [nameGo, if_pos hp]
  split
  · rfl
  · rename_i x' k' hr'
    rw [h] at hr'; cases hr'
theorem length_name (s : List UInt8) (a : Nat) : ∀ (d i n : Nat), (s.drop a).length - i = d → i ≤ (s.drop a).length → (i = 0 ↔ n = 0) →
    (a + (lengthGo (s.drop a) i n).1, (lengthGo (s.drop a) i n).2) = (if a ≤ s.length then nameGo s (a + i) n else (a, n)) := by
  intro d
  induction d using Nat.strongRecOn with
  | _ d ih =>
    intro i n hd hi hin
    rw [List.length_drop] at hd hi
    by_cases ha : a ≤ s.length
    · rw [if_pos ha]
      rw [lengthGo]
      rw [List.length_drop]
      by_cases hlt : i < s.length - a
      · rw [if_pos hlt]
        have hdr := rn_drop s a i
        have hdec : dec (s.drop a) i = dec s (a + i) := by unfold dec; rw [hdr]
        rw [hdec]
        cases h : rn s (a + i) with
        | none =>
          rw [nameGo_none (by omega) h]
          have : stopP (dec s (a + i)).1 (i == 0) = true := by
            simp only [dec, h, Option.getD_none]
            cases hi0 : (i == 0) <;> rfl
          rw [if_pos this]
        | some r =>
          obtain ⟨x, k⟩ := r
          rw [nameGo_some (by omega) h]
          have hb : (i == 0) = (n == 0) := by
            rw [Bool.eq_iff_iff]; simp [hin]
          have h2 := rn_pos h
          rw [dec_some h, hb]
          split
          · rfl
          · have h3 : i + k ≤ s.length - a := by omega
            have := ih (s.length - a - (i + k)) (by omega) (i + k) (n + 1) (by rw [List.length_drop]) (by rw [List.length_drop]; omega) (by omega)
            rw [if_pos ha, ← Nat.add_assoc] at this
            exact this
      · rw [if_neg hlt, nameGo, if_neg (show ¬ a + i < s.length by omega)]
        have : i = s.length - a := by omega
        subst this
        rfl
    · rw [if_neg ha]
      have h0 : s.drop a = [] := List.drop_eq_nil_of_le (by omega)
      rw [h0, lengthGo]
      simp
theorem name_eq {s : List UInt8} {p : Nat} (hp : p ≤ s.length) : (p + (lengthGo (s.drop p) 0 0).1, (lengthGo (s.drop p) 0 0).2) = nameGo s p 0 := by
  have := length_name s p _ 0 0 rfl (Nat.zero_le _) Iff.rfl
  rwa [if_pos hp, Nat.add_zero] at this

theorem goR_step {s : List UInt8} {p q : Nat} {ws acc : List Wrd} (hp : p < s.length) (h : stepR s p = .next q ws) : goR s p acc = goR s q (acc ++ ws) := by
  rw [goR, if_pos hp, h]
  simp only
  rw [if_pos (stepR_next hp h).1]
theorem goR_err {s : List UInt8} {p a : Nat} {e : Int} {acc : List Wrd} (hp : p < s.length) (h : stepR s p = .err e a) : goR s p acc = .error (e, a) := by
  rw [goR, if_pos hp, h]
theorem goR_end {s : List UInt8} {p : Nat} {acc : List Wrd} (hp : ¬ p < s.length) : goR s p acc = .ok (acc ++ [⟨0, [], 0, s.length⟩]) := by
  rw [goR, if_neg hp]
theorem goI_end {s : List UInt8} {p k : Nat} {b : Bool} {acc : List Wrd} (hp : ¬ p < s.length) : goI s p k b acc = .ok (acc ++ [⟨0, [], 0, s.length⟩]) := by
  rw [goI, if_neg hp]

/-- the program's way is the document's -/
theorem goI_goR (s : List UInt8) : ∀ (d p skip : Nat) (acc : List Wrd), s.length - p = d → skip ≤ p →
    (goI s p skip false acc = goR s p acc) ∧ (goI s p skip true acc = match remGo s p with | .inl a => .error (110, a) | .inr q => goR s q acc) := by
  intro d
  induction d using Nat.strongRecOn with
  | _ d ih =>
    intro p skip acc hd hsk
    by_cases hp : p < s.length
    · have hpos := dec_pos s p
      have hns : ¬ p < skip := by omega
      constructor
      · rw [goI, if_pos hp, if_neg hns]
        split
        · rename_i hr
          have : stepR s p = .err 110 p := by unfold stepR; rw [hr]
          rw [goR_err hp this]
        · rename_i x k hr
          rw [dec_some hr] at hpos ⊢
          simp only at hpos ⊢
          have hpos2 := rn_pos hr
          rw [if_neg (by simp)]
          have hstep : stepR s p = if isSp x then .next (p + 1) [] else if x = 35 then (match remGo s p with | .inl a => .err 110 a | .inr q => .next q []) else if letterP x then stepN s p (nameGo s p 0) else if digitP x then stepD s p (digGo s p 0) else stepM s p := by
            unfold stepR; rw [hr]
          unfold stepI
          by_cases h1 : isSp x = true
          · rw [if_pos h1] at hstep
            rw [if_pos h1]
            have hk : k = 1 := by simp [isSp] at h1; omega
            subst hk
            simp only
            rw [goR_step hp hstep, List.append_nil]
            exact (ih _ (by omega) (p + 1) skip acc rfl (by omega)).1
          · rw [if_neg h1] at hstep
            rw [if_neg h1]
            by_cases h2 : x = 35
            · rw [if_pos h2] at hstep
              rw [if_pos h2]
              have hk : k = 1 := by omega
              subst hk
              simp only
              rw [(ih _ (by omega) (p + 1) skip acc rfl (by omega)).2]
              have hrem : remGo s p = remGo s (p + 1) := by
                rw [remGo, if_pos ⟨hp, by omega⟩]
                split
                · rename_i hn; rw [hn] at hr; cases hr
                · rename_i x' k' hr'
                  rw [hr] at hr'; injection hr' with e; injection e with e1 e2; subst e2; rfl
              rw [← hrem]
              split
              · rename_i a ha
                rw [ha] at hstep
                rw [goR_err hp hstep]
              · rename_i q hq
                rw [hq] at hstep
                rw [goR_step hp hstep, List.append_nil]
            · rw [if_neg h2] at hstep
              rw [if_neg h2]
              have fin : ∀ st : St, stepR s p = st → (match (Sum.inl st : St ⊕ Bool) with
                  | .inr b => goI s (p + k) skip b acc
                  | .inl (.err e a) => Except.error (e, a)
                  | .inl (.next q ws) => goI s (p + k) q false (acc ++ ws)) = goR s p acc := by
                intro st hst
                cases st with
                | err e a => simp only; rw [goR_err hp hst]
                | next q ws =>
                  simp only
                  rw [goR_step hp hst]
                  obtain ⟨g1, g2⟩ := stepR_next hp hst
                  cases g2 with
                  | refl => omega
                  | step h' hp' t =>
                    rw [hr] at h'; injection h' with e; injection e with e1 e2; subst e2
                    rw [goI_skip t]
                    exact (ih _ (by omega) q q _ rfl (Nat.le_refl _)).1
              by_cases h3 : letterP x = true
              · rw [if_pos h3] at hstep
                rw [if_pos h3]
                refine fin _ ?_
                simp only
                rw [hstep, ← name_eq (by omega)]
              · rw [if_neg h3] at hstep
                rw [if_neg h3]
                by_cases h4 : digitP x = true
                · rw [if_pos h4] at hstep
                  rw [if_pos h4]
                  exact fin _ hstep
                · rw [if_neg h4] at hstep
                  rw [if_neg h4]
                  exact fin _ hstep
      · rw [goI, if_pos hp, if_neg hns]
        split
        · rename_i hr
          have h10 : by_ s p ≠ 10 := by
            intro e
            have := ascii_rn (s := s) (p := p) (by omega)
            rw [hr] at this
            cases this
          have hrem : remGo s p = .inl p := by
            rw [remGo, if_pos ⟨hp, h10⟩]
            split
            · rfl
            · rename_i hr'; rw [hr] at hr'; cases hr'
          rw [hrem]
        · rename_i x k hr
          rw [dec_some hr] at hpos ⊢
          simp only at hpos ⊢
          have hpos2 := rn_pos hr
          rw [if_pos trivial]
          by_cases h10 : x = 10
          · have hk : k = 1 := by omega
            subst hk
            rw [decide_eq_false (by omega), (ih _ (by omega) (p + 1) skip acc rfl (by omega)).1, remGo, if_neg (by omega)]
            simp only
            have hst : stepR s p = .next (p + 1) [] := by
              unfold stepR
              rw [hr]
              simp only
              rw [if_pos (by simp [isSp, h10])]
            rw [goR_step hp hst, List.append_nil]
          · rw [decide_eq_true h10, (ih _ (by omega) (p + k) skip acc rfl (by omega)).2]
            have hb : by_ s p ≠ 10 := by
              intro e
              have := ascii_rn (s := s) (p := p) (by omega)
              rw [hr] at this
              injection this with e'
              injection e' with e1 e2
              omega
            have : remGo s p = remGo s (p + k) := by
              rw [remGo, if_pos ⟨hp, hb⟩]
              split
              · rename_i hn; rw [hn] at hr; cases hr
              · rename_i x' k' hr'
                rw [hr] at hr'; injection hr' with e; injection e with e1 e2; subst e2; rfl
            rw [this]
    · constructor
      · rw [goI_end hp, goR_end hp]
      · rw [goI_end hp, remGo, if_neg (by omega)]
        simp only
        rw [goR_end hp]
/-- the words of a text, or its first fault -/
def cutP (s : List UInt8) : Res := if 65536 < s.length then .error (3, 0) else goR s 0 []
theorem cut_eq (s : List UInt8) : goI s 0 0 false [] = goR s 0 [] := (goI_goR s _ 0 0 [] rfl (Nat.le_refl _)).1
end Wd
