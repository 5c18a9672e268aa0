/- A part of the proof: contracts of functions of the program. No condition. -/
import Derived.Test.YtodogmfbafmcmaaFrI
import Derived.Test.YtodogmfbafmcmaaFrBackP
import Derived.Test.YtodogmfbafmcmaaEng
namespace Go.Proofs.Ytodogmfbafmcmaa
open Go.Eng Fr

/-- a reader, broken or not, that has looked at all it holds -/
structure RdrI (m : Mp) (g : Nat) (R : List (List UInt8)) (p : List UInt8) (d : Nat) (need : Int) (st : Value) (br : Bool) (A : Option Addr) (c : Nat) (E : Option Addr) (ce : Nat) : Prop where
  cells : m g = some (.cells (rdr (.slice A (R.flatten ++ p).length c) ((R.flatten ++ p).length + d : Nat) (.slice E R.length ce) need st br).toArray 43 (0, 0))
  own : Own m 5 1 A (R.flatten ++ p).length c ((R.flatten ++ p).map byteV)
  ends : Own m 3 1 E R.length ce ((endsFrom 0 R).map natV)
def Fits (g : Nat) (p : List UInt8) (d : Nat) (need : Int) (st : Value) (br : Bool) : Prop :=
  (br = true ∧ p = [] ∧ d = 1) ∨ (br = false ∧ d = 0 ∧ need = needOf p ∧ st = stepV (17 + stOf p) g)

theorem flatten_len : ∀ R : List (List UInt8), (∀ r ∈ R, 2 ≤ r.length) → R.length ≤ R.flatten.length
  | [], _ => Nat.le_refl _
  | r :: rs, h => by
    have h1 := flatten_len rs fun x hx => h x (List.mem_cons_of_mem _ hx)
    have h2 := h r (by simp)
    rw [List.flatten_cons, List.length_append, List.length_cons]
    omega

theorem Next_any (h : Heap) (g : Nat) (R : List (List UInt8)) (p : List UInt8) (d : Nat) (need : Int) (st : Value) (br : Bool) (A : Option Addr) (c : Nat) (E : Option Addr) (ce : Nat)
    (hr : RdrI (mp h) g R p d need st br A c E ce) (hlen : (R.flatten ++ p).length ≤ 65536) (hd : d ≤ 1) (hR : ∀ r ∈ R, 2 ≤ r.length) :
    C Try.prog 6 [ptr g].toArray h fun v h' => ∃ s A' c' E' ce', v = .tuple #[slv s, .bool (!R.isEmpty)] ∧ BRow (hideP (mp h') (regS g A' E')) s ((R.headD []).drop 2) ∧
      (∀ k o, mp h k = some o → inB s.1 k = false) ∧ RdrI (mp h') g R.tail p d need st br A' c' E' ce' ∧ Chg (regS g A E) h h' (regS g A' E') := by
  cases R with
  | nil =>
    refine (Next_none h g _ _ E ce need st br hr.cells).mono ?_
    rintro v h' ⟨rfl, rfl⟩
    exact ⟨(none, 0, 0), A, c, E, ce, rfl, ⟨Rd.nil _ _, rfl⟩, fun _ _ _ => rfl, hr, Chg.refl _ _⟩
  | cons r rs =>
    obtain ⟨hc, ho, he⟩ := hr
    simp only [List.flatten_cons] at hc ho hlen
    have hrl := hR r (by simp)
    have hfl := flatten_len rs fun x hx => hR x (List.mem_cons_of_mem _ hx)
    have hl : (r ++ rs.flatten ++ p).length = r.length + (rs.flatten ++ p).length := by simp only [List.length_append]; omega
    have hl2 : (rs.flatten ++ p).length = rs.flatten.length + p.length := List.length_append
    refine (Next_some2 h g r rs p _ A c E ce need st br hc ho he hrl hlen (by omega) (by omega) (by omega)).mono ?_
    rintro v h' ⟨O, cO, A', c', E', ce', rfl, h1, h2, h3, h4, h5, h6⟩
    refine ⟨(O, r.length - 2, cO), A', c', E', ce', rfl, ⟨h1, by simp⟩, h2, ⟨?_, h4, h5⟩, h6⟩
    rw [h3]
    congr 5
    simp only [List.tail_cons]
    omega

theorem Feed_any (h : Heap) (g : Nat) (p xs : List UInt8) (d : Nat) (need : Int) (st : Value) (br : Bool) (A : Option Addr) (c : Nat) (E : Option Addr) (ce : Nat) (B : Option Addr) (cB : Nat)
    (hr : RdrI (mp h) g [] p d need st br A c E ce) (hf : Fits g p d need st br) (hp : okP p) (hB : Rd (hideP (mp h) (regS g A E)) B (xs.map byteV)) (hlen : p.length + xs.length ≤ 65536) :
    C Try.prog 7 [ptr g, .slice B xs.length cB].toArray h fun _ h' => ∃ R' p' br' d' need' st' A' c' E' ce', (R', p', br') = (if br then ([], [], true) else feedP [] p xs) ∧ Fits g p' d' need' st' br' ∧
      RdrI (mp h') g R' p' d' need' st' br' A' c' E' ce' ∧ Chg (regS g A E) h h' (regS g A' E') := by
  rcases hf with ⟨rfl, rfl, rfl⟩ | ⟨rfl, rfl, rfl, rfl⟩
  · refine (Feed_broken h g _ _ _ _ _ B _ cB hr.cells).mono ?_
    rintro v h' ⟨rfl, rfl⟩
    exact ⟨[], [], true, 1, need, st, A, c, E, ce, rfl, .inl ⟨rfl, rfl, rfl⟩, hr, Chg.refl _ _⟩
  · have hl : RdrL (mp h) g [] p [] A c E ce := by
      obtain ⟨h1, h2, h3⟩ := hr
      refine ⟨?_, ?_, h3⟩
      · rw [List.append_nil]; exact h1
      · rw [List.append_nil]; exact h2
    refine (Feed_ok h g [] p xs A c E ce B cB hl hp hB (by simpa using hlen) (by simp)).mono ?_
    rintro v h' ⟨A', c', E', ce', hch, hres⟩
    have hif : (if false = true then (([], [], true) : List (List UInt8) × List UInt8 × Bool) else feedP [] p xs) = feedP [] p xs := rfl
    rw [hif]
    generalize hfp : feedP [] p xs = res at hres ⊢
    obtain ⟨R', p', br'⟩ := res
    rcases hres with ⟨hb, _, ⟨n1, s1, h1⟩, h2, h3⟩ | ⟨hb, _, h1, h2, h3⟩
    · simp only at hb h1 h2 h3
      subst hb
      have hp' : p' = [] := feedP_broken _ _ _ _ _ hfp
      subst hp'
      refine ⟨R', [], true, 1, n1, s1, A', c', E', ce', rfl, .inl ⟨rfl, rfl, rfl⟩, ⟨?_, ?_, h3⟩, hch⟩
      · rw [List.append_nil]; exact h1
      · rw [List.append_nil]; exact h2
    · simp only at hb h1 h2 h3
      subst hb
      refine ⟨R', p', false, 0, _, _, A', c', E', ce', rfl, .inr ⟨rfl, rfl, rfl, rfl⟩, ⟨?_, ?_, h3⟩, hch⟩
      · rw [List.append_nil] at h1; exact h1
      · rw [List.append_nil] at h2; exact h2
end Go.Proofs.Ytodogmfbafmcmaa
