/- Plain: the walk that gives the words of a text. No condition. -/
import Derived.Test.YtigfdclopkagmaaDoorWdW
namespace Wd
open Go Go.Eng
/-- from a place the walk gives these words -/
inductive Walk (s : List UInt8) : Nat → List Wrd → Prop
  | stop {p : Nat} (h : ¬ p < s.length) : Walk s p [⟨0, [], 0, s.length⟩]
  | step {p q : Nat} {us ws : List Wrd} (hp : p < s.length) (h : stepR s p = .next q us) (t : Walk s q ws) : Walk s p (us ++ ws)
theorem goR_walk {s : List UInt8} : ∀ {p : Nat} {acc ws : List Wrd}, goR s p acc = .ok ws → ∃ r, ws = acc ++ r ∧ Walk s p r := by
  intro p acc
  fun_induction goR s p acc with
  | case1 => intro ws h; cases h
  | case2 p acc hp q us h hq ih =>
    intro ws hw
    obtain ⟨r, h1, h2⟩ := ih hw
    exact ⟨us ++ r, by rw [h1, List.append_assoc], .step hp h h2⟩
  | case3 p acc hp q us h hq => exact absurd (stepR_next hp h).1 hq
  | case4 => intro ws h; cases h; exact ⟨_, rfl, .stop ‹_›⟩
/-- the word that a step gives -/
inductive OneW (s : List UInt8) (p q : Nat) : List Wrd → Prop
  | none : OneW s p q []
  | name (h : letterP ((rn s p).getD (0, 0)).1 = true) (hq : (nameGo s p 0).1 = q) : OneW s p q [⟨1, seg s p q, 0, p⟩]
  | num (n : Nat) (h : digitP (by_ s p) = true) (hd : digGo s p 0 = (q, n)) (hz : ¬ (by_ s p = 48 ∧ p + 1 < q)) (hn : n ≤ 999) : OneW s p q [⟨2, [], n, p⟩]
  | mark (m : List UInt8) (h : markP (s.drop p) = some m) (hq : q = p + m.length) : OneW s p q [⟨3, m, 0, p⟩]
theorem stepR_one {s : List UInt8} {p q : Nat} {us : List Wrd} (h : stepR s p = .next q us) : OneW s p q us := by
  unfold stepR at h
  split at h
  · cases h
  · rename_i x k hr
    split at h
    · cases h; exact .none
    · split at h
      · split at h
        · cases h
        · cases h; exact .none
      · split at h
        · rename_i hl
          unfold stepN at h
          split at h
          · cases h
          · cases h; exact .name (by rw [hr]; exact hl) rfl
        · split at h
          · rename_i hd
            have hx := digit_lt hd
            have hpos := rn_pos hr
            have hxe : x = by_ s p := by omega
            unfold stepD at h
            split at h
            · cases h
            · rename_i hz
              split at h
              · cases h
              · cases h; exact .num _ (hxe ▸ hd) rfl hz (by omega)
          · unfold stepM at h
            split at h
            · cases h
            · rename_i m hm
              cases h; exact .mark m hm rfl
theorem Walk.len {s : List UInt8} {p : Nat} {ws : List Wrd} (h : Walk s p ws) : ws.length ≤ s.length - p + 1 := by
  induction h with
  | stop => simp
  | step hp h t ih =>
    have h1 := (stepR_next hp h).1
    cases stepR_one h <;> simp <;> omega
theorem cutP_walk {s : List UInt8} {ws : List Wrd} (h : cutP s = .ok ws) : s.length ≤ 65536 ∧ Walk s 0 ws := by
  unfold cutP at h
  split at h
  · cases h
  · obtain ⟨r, h1, h2⟩ := goR_walk h
    exact ⟨by omega, by rw [h1]; exact h2⟩
theorem cutP_len {s : List UInt8} {ws : List Wrd} (h : cutP s = .ok ws) : ws.length ≤ 65537 := by
  obtain ⟨h1, h2⟩ := cutP_walk h
  have := h2.len
  omega
end Wd
