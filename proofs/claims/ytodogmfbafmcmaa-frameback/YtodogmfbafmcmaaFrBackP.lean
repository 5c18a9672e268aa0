/- Plain: loads written one behind the other, fed and cut. No condition. -/
import Derived.Test.YtodogmfbafmcmaaFrCutP
namespace Fr
def frm (l : List UInt8) : List UInt8 := hdr l.length ++ l
def strm (ls : List (List UInt8)) : List UInt8 := (ls.map frm).flatten
theorem strm_nil : strm [] = [] := rfl
theorem strm_cons (l : List UInt8) (ls : List (List UInt8)) : strm (l :: ls) = frm l ++ strm ls := rfl
theorem strm_snoc (l : List UInt8) (ls : List (List UInt8)) : strm (ls ++ [l]) = strm ls ++ frm l := by simp [strm]
theorem hdr_len (n : Nat) (h : n < 65536) : lenOf (UInt8.ofNat (n / 256)) (UInt8.ofNat n) = n := by
  unfold lenOf
  rw [UInt8.toNat_ofNat', UInt8.toNat_ofNat']
  omega
theorem frm_length (l : List UInt8) : (frm l).length = l.length + 2 := by simp [frm, hdr]
def Small (ls : List (List UInt8)) : Prop := ∀ l ∈ ls, 1 ≤ l.length ∧ l.length ≤ 500
theorem Small.tail {l : List UInt8} {ls : List (List UInt8)} (h : Small (l :: ls)) : Small ls := fun x hx => h x (List.mem_cons_of_mem _ hx)
theorem strm_length : ∀ ls : List (List UInt8), Small ls → (strm ls).length ≤ 502 * ls.length
  | [], _ => Nat.zero_le _
  | l :: ls, h => by
    have h1 := strm_length ls h.tail
    have h2 := (h l (by simp)).2
    rw [strm_cons, List.length_append, frm_length, List.length_cons]
    omega
theorem strm_take_succ {ls : List (List UInt8)} {k : Nat} (h : k < ls.length) : strm (ls.take (k + 1)) = strm (ls.take k) ++ frm ls[k] := by
  rw [List.take_succ_eq_append_getElem h, strm_snoc]
theorem cut_strm : ∀ (ls : List (List UInt8)) (tail : List UInt8), Small ls → cutF (strm ls ++ tail) = (ls ++ (cutF tail).1, (cutF tail).2)
  | [], tail, _ => by simp [strm_nil]
  | l :: ls, tail, h => by
    have h1 := h l (by simp)
    have hl := hdr_len l.length (by omega)
    have e : strm (l :: ls) ++ tail = UInt8.ofNat (l.length / 256) :: UInt8.ofNat l.length :: (l ++ (strm ls ++ tail)) := by simp [strm_cons, frm, hdr]
    rw [e, cutF_more _ _ _ (by rw [hl]; omega) (by rw [hl]; simp), hl, List.take_left, List.drop_left, cut_strm ls tail h.tail]
    rfl
theorem cut_nil : cutF [] = ([], 0, false) := rfl
theorem cut_zero (more : List UInt8) : cutF (0 :: 0 :: more) = ([], (0 :: 0 :: more).length, true) := cutF_bad 0 0 more (.inl (by decide))

/-- what may stand behind the loads -/
def Tail (t : List UInt8) : Prop := t = [] ∨ ∃ more, t = 0 :: 0 :: more

theorem feed_strm {tail : List UInt8} (ht : Tail tail) : ∀ (xs : List UInt8) (ls R : List (List UInt8)) (p rest : List UInt8), Small ls → okP p → p ++ xs ++ rest = strm ls ++ tail →
    ∃ (j : Nat) (p' : List UInt8) (br : Bool), j ≤ ls.length ∧ feedP R p xs = (R ++ (ls.take j).map frm, p', br) ∧
      (br = false → okP p' ∧ p' ++ rest = strm (ls.drop j) ++ tail) ∧ (br = true → j = ls.length ∧ tail ≠ [] ∧ p' = [])
  | [], ls, R, p, rest, hs, hp, he => by
    refine ⟨0, p, false, Nat.zero_le _, by simp [feedP], fun _ => ⟨hp, by simpa using he⟩, fun h => by cases h⟩
  | x :: xs, ls, R, p, rest, hs, hp, he => by
    match p, hp with
    | [], hp =>
      simp only [feedP]
      exact feed_strm ht xs ls R [x] rest hs trivial (by simpa using he)
    | [a], hp =>
      simp only [feedP]
      by_cases hok : 0 < lenOf a x ∧ lenOf a x ≤ 4096
      · rw [if_pos hok]
        exact feed_strm ht xs ls R [a, x] rest hs ⟨hok.1, hok.2, hok.1⟩ (by simpa using he)
      · rw [if_neg hok]
        cases ls with
        | nil =>
          refine ⟨0, [], true, Nat.le_refl _, by simp, fun h => by (cases h), fun _ => ⟨rfl, ?_, rfl⟩⟩
          rintro rfl
          simp [strm_nil] at he
        | cons l ls =>
          exfalso
          have h1 := hs l (by simp)
          have hl := hdr_len l.length (by omega)
          simp only [strm_cons, frm, hdr, List.cons_append, List.nil_append, List.append_assoc, List.cons.injEq] at he
          rw [he.1, he.2.1, hl] at hok
          omega
    | a :: b :: q, hp =>
      obtain ⟨hp1, hp2, hp3⟩ := hp
      simp only [feedP]
      cases ls with
      | nil =>
        exfalso
        rcases ht with rfl | ⟨more, rfl⟩
        · simp [strm_nil] at he
        · simp only [strm_nil, List.nil_append, List.cons_append, List.cons.injEq] at he
          rw [he.1, he.2.1] at hp1
          exact absurd hp1 (by decide)
      | cons l ls =>
        have h1 := hs l (by simp)
        have hl := hdr_len l.length (by omega)
        have he' := he
        simp only [strm_cons, frm, hdr, List.cons_append, List.nil_append, List.append_assoc, List.cons.injEq] at he
        obtain ⟨ha, hb, he⟩ := he
        have hlen : lenOf a b = l.length := by rw [ha, hb, hl]
        have hq : q ++ [x] = l.take (q.length + 1) := by
          have h3 := congrArg (List.take (q.length + 1)) he
          have h4 : List.take (q.length + 1) (l ++ (strm ls ++ tail)) = List.take (q.length + 1) l := List.take_append_of_le_length (by rw [← hlen]; omega)
          rw [← h4, ← h3, show q ++ x :: (xs ++ rest) = (q ++ [x]) ++ (xs ++ rest) by simp, List.take_append_of_le_length (by simp)]
          exact (List.take_of_length_le (by simp)).symm
        by_cases hlast : q.length + 1 = lenOf a b
        · rw [if_pos hlast]
          have hql : q ++ [x] = l := by rw [hq, List.take_of_length_le (by omega)]
          have hf : a :: b :: q ++ [x] = frm l := by
            simp only [frm, hdr, List.cons_append, List.nil_append]
            rw [ha, hb, hql]
          rw [hf]
          have he2 : [] ++ xs ++ rest = strm ls ++ tail := by
            rw [← hql] at he
            simpa using he
          obtain ⟨j, p', br, g1, g2, g3, g4⟩ := feed_strm ht xs ls (R ++ [frm l]) [] rest hs.tail trivial he2
          exact ⟨j + 1, p', br, by simp; omega, by rw [g2]; simp, by simpa using g3, by simpa using g4⟩
        · rw [if_neg hlast]
          have hqx : (a :: b :: q ++ [x]) ++ xs ++ rest = strm (l :: ls) ++ tail := by rw [← he']; simp
          exact feed_strm ht xs (l :: ls) R (a :: b :: q ++ [x]) rest hs ⟨hp1, hp2, by simp; omega⟩ hqx
theorem feedP_broken : ∀ (xs : List UInt8) (R : List (List UInt8)) (p : List UInt8) (R' : List (List UInt8)) (p' : List UInt8), feedP R p xs = (R', p', true) → p' = []
  | [], R, p, R', p', h => by simp [feedP] at h
  | x :: xs, R, [], R', p', h => feedP_broken xs R [x] R' p' (by simpa only [feedP] using h)
  | x :: xs, R, [a], R', p', h => by
    simp only [feedP] at h
    split at h
    · exact feedP_broken xs R [a, x] R' p' h
    · simp at h; exact h.2.symm ▸ rfl
  | x :: xs, R, a :: b :: q, R', p', h => by
    simp only [feedP] at h
    split at h
    · exact feedP_broken xs _ [] R' p' h
    · exact feedP_broken xs R _ R' p' h
/-- nothing more to come -/
theorem feed_end {tail : List UInt8} (ht : Tail tail) {ls : List (List UInt8)} {p : List UInt8} (hs : Small ls) (hp : okP p) (he : p = strm ls ++ tail) : ls = [] ∧ tail = [] ∧ p = [] := by
  cases ls with
  | nil =>
    rcases ht with rfl | ⟨more, rfl⟩
    · exact ⟨rfl, rfl, by rw [he]; rfl⟩
    · subst he
      exact absurd hp.1 (by decide)
  | cons l ls =>
    exfalso
    have h1 := hs l (by simp)
    have hl := hdr_len l.length (by omega)
    simp only [strm_cons, frm, hdr, List.cons_append, List.nil_append, List.append_assoc] at he
    subst he
    have := hp.2.2
    rw [hl] at this
    simp at this
    omega
theorem Small.drop {ls : List (List UInt8)} (h : Small ls) (k : Nat) : Small (ls.drop k) := fun l hl => h l (List.mem_of_mem_drop hl)
theorem Small.take {ls : List (List UInt8)} (h : Small ls) (k : Nat) : Small (ls.take k) := fun l hl => h l (List.mem_of_mem_take hl)
theorem step_strm {tl : List UInt8} (ht : Tail tl) {ls : List (List UInt8)} (hs : Small ls) {k : Nat} (hk : k ≤ ls.length) {p rest : List UInt8} (n : Nat) {br : Bool} (hp : okP p)
    (hsame : br = false → p ++ rest = strm (ls.drop k) ++ tl) (hdone : br = true → k = ls.length ∧ tl ≠ [] ∧ p = []) {R' : List (List UInt8)} {p' : List UInt8} {br' : Bool}
    (he : (R', p', br') = if br then ([], [], true) else feedP [] p (rest.take n)) :
    ∃ j, k + j ≤ ls.length ∧ R' = ((ls.drop k).take j).map frm ∧ okP p' ∧ (br' = false → p' ++ rest.drop n = strm (ls.drop (k + j)) ++ tl) ∧ (br' = true → k + j = ls.length ∧ tl ≠ [] ∧ p' = []) := by
  cases br with
  | true =>
    simp only [if_true, Prod.mk.injEq] at he
    obtain ⟨rfl, rfl, rfl⟩ := he
    obtain ⟨h1, h2, h3⟩ := hdone rfl
    exact ⟨0, by omega, by simp, trivial, fun h => by (cases h), fun _ => ⟨by omega, h2, rfl⟩⟩
  | false =>
    have h1 := hsame rfl
    rw [← List.take_append_drop n rest, ← List.append_assoc] at h1
    obtain ⟨j, p2, br2, hj, hf, g1, g2⟩ := feed_strm ht (rest.take n) (ls.drop k) [] p (rest.drop n) (hs.drop k) hp h1
    simp only [Bool.false_eq_true, if_false] at he
    rw [hf] at he
    simp only [Prod.mk.injEq, List.nil_append] at he
    obtain ⟨rfl, rfl, rfl⟩ := he
    rw [List.length_drop] at hj g2
    refine ⟨j, by omega, rfl, ?_, fun h => ?_, fun h => ?_⟩
    · cases br' with
      | true => rw [(g2 rfl).2.2]; trivial
      | false => exact (g1 rfl).1
    · have := (g1 h).2
      rwa [List.drop_drop] at this
    · have := g2 h
      exact ⟨by omega, this.2⟩
theorem map_frm_flatten (ls : List (List UInt8)) : (ls.map frm).flatten = strm ls := rfl
theorem frm_drop (l : List UInt8) : (frm l).drop 2 = l := rfl
theorem take_succ_of {α : Type} {ls : List α} {t m : Nat} {x : α} {r : List α} (ht : t ≤ ls.length) (h : ls.take t ++ x :: r = ls.take m) : t < ls.length ∧ ls.take (t + 1) = ls.take t ++ [x] := by
  have hl := congrArg List.length h
  simp only [List.length_append, List.length_take, List.length_cons] at hl
  have h1 : t < ls.length := by omega
  refine ⟨h1, ?_⟩
  have h2 := congrArg (List.take (t + 1)) h
  rw [List.take_take, Nat.min_eq_left (by omega)] at h2
  have h3 : (ls.take t ++ [x]).length = t + 1 := by simp; omega
  rw [← h2, show List.take t ls ++ x :: r = (List.take t ls ++ [x]) ++ r by simp, List.take_append_of_le_length (Nat.le_of_eq h3.symm)]
  exact List.take_of_length_le (Nat.le_of_eq h3)
end Fr
