/- Plain: the words of a text tile it, but for gaps without words. No condition. -/
import Derived.Test.YtigfdclopkagmaaDoorWdI
namespace Wd
open Go Go.Eng
theorem remGo_le {s : List UInt8} {p a : Nat} (h : remGo s p = .inl a) (hp : p ≤ s.length) : a ≤ s.length := by
  revert h
  fun_induction remGo s p with
  | case1 => intro h; cases h; exact hp
  | case2 p hl x k hr ih =>
    have := rn_pos hr
    exact fun h => ih (by omega) h
  | case3 => intro h; cases h
theorem stepR_err {s : List UInt8} {p a : Nat} {e : Int} (hp : p < s.length) (h : stepR s p = .err e a) : e ≠ 0 ∧ a ≤ s.length := by
  unfold stepR at h
  split at h
  · cases h; exact ⟨by decide, by omega⟩
  · split at h
    · cases h
    · split at h
      · split at h
        · rename_i hr; cases h; exact ⟨by decide, remGo_le hr (by omega)⟩
        · cases h
      · split at h
        · unfold stepN at h; split at h <;> cases h; exact ⟨by decide, by omega⟩
        · split at h
          · unfold stepD at h
            split at h
            · cases h; exact ⟨by decide, by omega⟩
            · split at h <;> cases h; exact ⟨by decide, by omega⟩
          · unfold stepM at h; split at h <;> cases h; exact ⟨by decide, by omega⟩
theorem goR_fault {s : List UInt8} : ∀ {p : Nat} {acc : List Wrd} {e : Int} {a : Nat}, goR s p acc = .error (e, a) → e ≠ 0 ∧ a ≤ s.length := by
  intro p acc
  fun_induction goR s p acc with
  | case1 p acc hp e' a' h => intro e a h2; cases h2; exact stepR_err hp h
  | case2 p acc hp q us h hq ih => intro e a h2; exact ih h2
  | case3 p acc hp q us h hq => intro e a h2; cases h2
  | case4 => intro e a h; cases h
theorem cutP_fault {s : List UInt8} {e : Int} {a : Nat} (h : cutP s = .error (e, a)) : e ≠ 0 ∧ a ≤ s.length := by
  unfold cutP at h
  split at h
  · cases h; exact ⟨by decide, Nat.zero_le _⟩
  · exact goR_fault h
/-- from a place to a place no word stands -/
inductive Gap (s : List UInt8) : Nat → Nat → Prop
  | refl (p : Nat) : Gap s p p
  | step {p q r : Nat} (hp : p < s.length) (h : stepR s p = .next q []) (t : Gap s q r) : Gap s p r
theorem Gap.le {s : List UInt8} {p q : Nat} (h : Gap s p q) : p ≤ q := by
  induction h with
  | refl => exact Nat.le_refl _
  | step hp h _ ih => have := (stepR_next hp h).1; omega
theorem seg_len {s : List UInt8} {a b : Nat} (h : a ≤ b) (hb : b ≤ s.length) : (seg s a b).length = b - a := by
  unfold seg; rw [List.length_take, List.length_drop]; omega
theorem by_seg {s : List UInt8} {a b i : Nat} (h : i < b - a) : by_ (seg s a b) i = by_ s (a + i) := by
  unfold seg; rw [by_take h, by_drop]
theorem rn_seg {s : List UInt8} {a b p x k : Nat} (h : rn s p = some (x, k)) (ha : a ≤ p) (hb : p + k ≤ b) : rn (seg s a b) (p - a) = some (x, k) := by
  unfold seg
  refine rn_take ?_ (by omega)
  rw [rn_drop, Nat.add_sub_cancel' ha]; exact h
theorem rem_seg {s : List UInt8} {a b : Nat} (hb : b ≤ s.length) : ∀ {p q : Nat}, remGo s p = .inr q → a ≤ p → q ≤ b → remGo (seg s a b) (p - a) = .inr (q - a) := by
  intro p
  fun_induction remGo s p with
  | case1 => intro q h; cases h
  | case2 p hl x k hr ih =>
    intro q h ha hq
    have ht := (remGo_tiles h).le
    have hpos := rn_pos hr
    have hlen := seg_len (s := s) (a := a) (b := b) (by omega) hb
    have hr' := rn_seg (a := a) (b := b) hr ha (by omega)
    rw [remGo, if_pos ⟨by omega, by rw [by_seg (by omega), Nat.add_sub_cancel' ha]; exact hl.2⟩]
    split
    · rename_i hn; rw [hr'] at hn; cases hn
    · rename_i x' k' hk
      rw [hr'] at hk; cases hk
      have := ih h (by omega) hq
      rwa [show p - a + k = p + k - a by omega]
  | case3 p hl =>
    intro q h ha hq
    cases h
    have hlen := seg_len (s := s) (a := a) (b := b) (by omega) hb
    rw [remGo, if_neg]
    rintro ⟨h1, h2⟩
    rw [by_seg (by omega), Nat.add_sub_cancel' ha] at h2
    exact hl ⟨by omega, h2⟩
theorem gap_step {s : List UInt8} {a b p q : Nat} (hb : b ≤ s.length) (hp : p < s.length) (ha : a ≤ p) (hq : q ≤ b) (h : stepR s p = .next q []) : stepR (seg s a b) (p - a) = .next (q - a) [] := by
  have hlt := (stepR_next hp h).1
  unfold stepR at h
  split at h
  · cases h
  · rename_i x k hr
    have hpos := rn_pos hr
    split at h
    · rename_i hsp
      cases h
      have hx : x < 128 := by simp [isSp] at hsp; omega
      have hk : k = 1 := by omega
      subst hk
      unfold stepR
      rw [rn_seg hr ha hq]
      simp only
      rw [if_pos hsp, show p - a + 1 = p + 1 - a by omega]
    · split at h
      · rename_i hns hx
        split at h
        · cases h
        · rename_i q' hrem
          cases h
          have hk : k = 1 := by omega
          subst hk
          unfold stepR
          rw [rn_seg hr ha (by omega)]
          simp only
          rw [if_neg hns, if_pos hx, rem_seg hb hrem ha hq]
      · split at h
        · unfold stepN at h; split at h <;> cases h
        · split at h
          · unfold stepD at h
            split at h
            · cases h
            · split at h <;> cases h
          · unfold stepM at h; split at h <;> cases h
theorem gap_go {s : List UInt8} {a p b : Nat} (h : Gap s p b) (ha : a ≤ p) (hb : b ≤ s.length) : goR (seg s a b) (p - a) [] = .ok [⟨0, [], 0, (b - a : Nat)⟩] := by
  induction h with
  | refl p => rw [goR_end (by rw [seg_len ha hb]; omega), seg_len ha hb]; rfl
  | @step p q r hp h t ih =>
    have h1 := (stepR_next hp h).1
    have h2 := t.le
    rw [goR_step (by rw [seg_len (by omega) hb]; omega) (gap_step hb hp ha h2 h)]
    exact ih (by omega) hb
theorem gap_cut {s : List UInt8} {a b : Nat} (h : Gap s a b) (hb : b ≤ s.length) (hs : s.length ≤ 65536) : cutP (seg s a b) = .ok [⟨0, [], 0, (b - a : Nat)⟩] := by
  unfold cutP
  rw [if_neg (by rw [seg_len h.le hb]; omega)]
  have := gap_go h (Nat.le_refl _) hb
  rwa [Nat.sub_self] at this
theorem dig_cap (s : List UInt8) (q : Nat) : (digGo s q 1000).2 = 1000 := by
  have : ∀ n, n = 1000 → (digGo s q n).2 = 1000 := by
    intro n
    fun_induction digGo s q n with
    | case1 q n h ih => intro e; exact ih (by omega)
    | case2 q n h => intro e; exact e
  exact this _ rfl
def digs (n : Nat) : Nat := if 99 < n then 3 else if 9 < n then 2 else 1
theorem dig_step {s : List UInt8} {q n : Nat} : (digGo s q n = (q, n)) ∨ (q < s.length ∧ ∃ d, d ≤ 9 ∧ (digGo s q n) = digGo s (q + 1) (min (n * 10 + d) 1000)) := by
  by_cases h : q < s.length ∧ digitP (by_ s q)
  · right
    have : 48 ≤ by_ s q ∧ by_ s q ≤ 57 := of_decide_eq_true h.2
    exact ⟨h.1, by_ s q - 48, by omega, by rw [digGo, if_pos h]⟩
  · left; rw [digGo, if_neg h]
theorem dig_len {s : List UInt8} {p q n : Nat} (hp : p < s.length) (h : digitP (by_ s p) = true) (hd : digGo s p 0 = (q, n)) (hz : ¬ (by_ s p = 48 ∧ p + 1 < q)) (hn : n ≤ 999) : q = p + digs n ∧ q ≤ s.length := by
  have hb : 48 ≤ by_ s p ∧ by_ s p ≤ 57 := of_decide_eq_true h
  have hql : q ≤ s.length := by
    have := (digGo_tiles s p 0).len (by omega)
    rw [hd] at this; exact this
  refine ⟨?_, hql⟩
  rw [digGo, if_pos ⟨hp, h⟩] at hd
  have e0 : min (0 * 10 + (by_ s p - 48)) 1000 = by_ s p - 48 := by omega
  rw [e0] at hd
  generalize hD : by_ s p - 48 = d at hd
  have hd9 : d ≤ 9 := by omega
  rcases dig_step (s := s) (q := p + 1) (n := d) with h1 | ⟨l1, d1, k1, h1⟩
  · rw [hd] at h1; cases h1
    unfold digs
    rw [if_neg (by omega), if_neg (by omega)]
  · rw [hd] at h1
    have hge := (digGo_tiles s (p + 1 + 1) (min (d * 10 + d1) 1000)).le
    rw [← h1] at hge
    simp only at hge
    have d0 : d ≠ 0 := by intro e; apply hz; omega
    rw [Nat.min_eq_left (by omega)] at h1
    rcases dig_step (s := s) (q := p + 1 + 1) (n := d * 10 + d1) with h2 | ⟨l2, d2, k2, h2⟩
    · rw [h2] at h1; cases h1
      unfold digs
      rw [if_neg (by omega), if_pos (by omega)]
    · rw [h2, Nat.min_eq_left (by omega)] at h1
      rcases dig_step (s := s) (q := p + 1 + 1 + 1) (n := (d * 10 + d1) * 10 + d2) with h3 | ⟨l3, d3, k3, h3⟩
      · rw [h3] at h1; cases h1
        unfold digs
        rw [if_pos (by omega)]
      · rw [h3, Nat.min_eq_right (by omega)] at h1
        have := dig_cap s (p + 1 + 1 + 1 + 1)
        rw [← h1] at this
        simp only at this
        omega
/-- what is left of the words, from the end of the last -/
def Parts (s : List UInt8) (nxt : Nat) (ws : List Wrd) : Prop := ∃ p, Gap s nxt p ∧ Walk s p ws ∧ p ≤ s.length
theorem Walk.first {s : List UInt8} {p : Nat} {ws : List Wrd} (h : Walk s p ws) (hp : p ≤ s.length) : ∃ p', Gap s p p' ∧ p' ≤ s.length ∧
    ((p' = s.length ∧ ws = [⟨0, [], 0, s.length⟩]) ∨ (∃ q w r, p' < s.length ∧ stepR s p' = .next q [w] ∧ Walk s q r ∧ q ≤ s.length ∧ ws = w :: r)) := by
  induction h with
  | @stop p h => exact ⟨p, .refl _, hp, .inl ⟨by omega, rfl⟩⟩
  | @step p q us ws hlt h t ih =>
    have hq := (stepR_next hlt h).2.len hp
    have one := stepR_one h
    by_cases he : us = []
    · subst he
      obtain ⟨p', g, h1, h2⟩ := ih hq
      exact ⟨p', .step hlt h g, h1, by simpa using h2⟩
    · have : ∃ w, us = [w] := by cases one with
        | none => exact absurd rfl he
        | name => exact ⟨_, rfl⟩
        | num => exact ⟨_, rfl⟩
        | mark => exact ⟨_, rfl⟩
      obtain ⟨w, rfl⟩ := this
      exact ⟨p, .refl _, hp, .inr ⟨q, w, ws, hlt, h, t, hq, rfl⟩⟩
theorem Gap.trans {s : List UInt8} {a b c : Nat} (h : Gap s a b) (k : Gap s b c) : Gap s a c := by
  induction h with
  | refl => exact k
  | step hp h _ ih => exact .step hp h (ih k)
theorem Walk.ne {s : List UInt8} {p : Nat} {ws : List Wrd} (h : Walk s p ws) : ws ≠ [] := by
  induction h with
  | stop => simp
  | step _ _ _ ih => simp [ih]
/-- one word taken off -/
theorem Parts.round {s : List UInt8} {nxt : Nat} {ws : List Wrd} (h : Parts s nxt ws) (hs : s.length ≤ 65536) : ∃ k t n a r, ws = ⟨k, t, n, (a : Nat)⟩ :: r ∧ nxt ≤ a ∧ a ≤ s.length ∧ cutP (seg s nxt a) = .ok [⟨0, [], 0, (a - nxt : Nat)⟩] ∧
    ((r = [] ∧ k = 0 ∧ t = [] ∧ a = s.length) ∨
     (r ≠ [] ∧ (k = 1 ∨ k = 3) ∧ a + t.length ≤ s.length ∧ seg s a (a + t.length) = t ∧ Parts s (a + t.length) r) ∨
     (r ≠ [] ∧ k = 2 ∧ t = [] ∧ ∃ j : Nat, n = j ∧ j ≤ 999 ∧ a + digs j ≤ s.length ∧ Parts s (a + digs j) r)) := by
  obtain ⟨p, g, hw, hp⟩ := h
  obtain ⟨p', g', hp', hc⟩ := hw.first hp
  have gg := g.trans g'
  have hcut := gap_cut gg hp' hs
  rcases hc with ⟨rfl, rfl⟩ | ⟨q, w, r, hlt, hst, hr, hq, rfl⟩
  · exact ⟨0, [], 0, s.length, [], rfl, gg.le, Nat.le_refl _, hcut, .inl ⟨rfl, rfl, rfl, rfl⟩⟩
  · have hpq := (stepR_next hlt hst).1
    have P : Parts s q r := ⟨q, .refl _, hr, hq⟩
    cases stepR_one hst with
    | name h h2 =>
      have hl : (seg s p' q).length = q - p' := seg_len (by omega) hq
      have e : p' + (seg s p' q).length = q := by omega
      exact ⟨1, _, 0, p', r, rfl, gg.le, hp', hcut, .inr (.inl ⟨hr.ne, .inl rfl, by omega, by rw [e], by rw [e]; exact P⟩)⟩
    | num n h hd hz hn =>
      obtain ⟨e, _⟩ := dig_len hlt h hd hz hn
      exact ⟨2, _, n, p', r, rfl, gg.le, hp', hcut, .inr (.inr ⟨hr.ne, rfl, rfl, n, rfl, hn, by omega, by rw [← e]; exact P⟩)⟩
    | mark m h h2 =>
      subst h2
      refine ⟨3, m, 0, p', r, rfl, gg.le, hp', hcut, .inr (.inl ⟨hr.ne, .inr rfl, hq, ?_, P⟩)⟩
      have hpre : m.isPrefixOf (s.drop p') = true := List.find?_some (p := fun (m : List UInt8) => m.isPrefixOf (s.drop p')) h
      obtain ⟨t, ht⟩ := List.isPrefixOf_iff_prefix.1 hpre
      unfold seg
      rw [← ht, Nat.add_sub_cancel_left, List.take_left]
theorem cutP_parts {s : List UInt8} {ws : List Wrd} (h : cutP s = .ok ws) : s.length ≤ 65536 ∧ Parts s 0 ws := by
  obtain ⟨h1, h2⟩ := cutP_walk h
  exact ⟨h1, 0, .refl _, h2, Nat.zero_le _⟩
end Wd
