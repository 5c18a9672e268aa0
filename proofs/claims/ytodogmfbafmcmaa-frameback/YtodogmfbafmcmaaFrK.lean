/- A part of the proof: contracts of functions of the program. No condition. -/
import Derived.Test.YtodogmfbafmcmaaFrJ
namespace Go.Proofs.Ytodogmfbafmcmaa
open Go.Eng Fr

def regT (g : Nat) (A E O : Option Addr) : Nat → Bool := fun k => regS g A E k || inB O k

structure Gi where
  s : Option Addr × Nat × Nat
  x : List UInt8
  ok : Bool
  Ls : List (List UInt8)
  A : Option Addr
  c : Nat
  E : Option Addr
  ce : Nat
  O : Option Addr
  cO : Nat
  os : List (Option Addr × Nat × Nat)
  t : Nat

/-- the reader and what it has told, between two askings -/
structure Told (hb : Heap) (g : Nat) (ls : List (List UInt8)) (p : List UInt8) (d : Nat) (need : Int) (st : Value) (br : Bool) (Ls : List (List UInt8)) (A : Option Addr) (c : Nat) (E : Option Addr) (ce : Nat)
    (O : Option Addr) (cO : Nat) (os : List (Option Addr × Nat × Nat)) (t : Nat) (h : Heap) : Prop where
  rd : RdrI (mp h) g (Ls.map frm) p d need st br A c E ce
  own : Own (mp h) 22 1 O t cO (os.map slv)
  rows : Rows (hideP (mp h) (regT g A E O)) os (ls.take t)
  le : Le (mp hb) (hideP (mp h) (regT g A E O))
  tle : t ≤ ls.length

structure InInv (hb : Heap) (g : Nat) (ls : List (List UInt8)) (m : Nat) (p : List UInt8) (d : Nat) (need : Int) (st : Value) (br : Bool) (y : Gi) (h : Heap) : Prop where
  told : Told hb g ls p d need st br y.Ls y.A y.c y.E y.ce y.O y.cO y.os y.t h
  row : BRow (hideP (mp h) (regT g y.A y.E y.O)) y.s y.x
  eq : ls.take y.t ++ (if y.ok then y.x :: y.Ls else []) = ls.take m
  fin : y.ok = false → y.Ls = []

theorem chg_T {g : Nat} {A E A' E' O : Option Addr} {h h' : Heap} (hc : Chg (regS g A E) h h' (regS g A' E')) : Chg (regT g A E O) h h' (regT g A' E' O) := by
  refine ⟨fun k o hk hS => ?_, hc.size⟩
  unfold regT at hS ⊢
  rw [Bool.or_eq_false_iff] at hS ⊢
  obtain ⟨h1, h2⟩ := hc.keep k o hk hS.1
  exact ⟨h1, h2, hS.2⟩
theorem Own.kept {m m' : Mp} {S : Nat → Bool} {e sz n c : Nat} {A : Option Addr} {xs : List Value} (h : Own m e sz A n c xs) (hk : ∀ k o, m k = some o → S k = false → m' k = some o) (hS : ∀ k, inB A k = true → S k = false) : Own m' e sz A n c xs :=
  h.of_eq fun k hin => by
    obtain ⟨cur, hm⟩ := h.at_ hin
    rw [hk k _ hm (hS k hin), hm]
theorem out_apart {m : Mp} {g : Nat} {R : List (List UInt8)} {p : List UInt8} {d : Nat} {need : Int} {st : Value} {br : Bool} {A : Option Addr} {c : Nat} {E : Option Addr} {ce : Nat} {O : Option Addr} {t cO : Nat} {xs : List Value}
    (hr : RdrI m g R p d need st br A c E ce) (ho : Own m 22 1 O t cO xs) (k : Nat) (hk : inB O k = true) : regS g A E k = false := by
  simp only [regS, Bool.or_eq_false_iff, beq_eq_false_iff_ne]
  refine ⟨⟨?_, hr.own.disj ho (by decide) k hk⟩, hr.ends.disj ho (by decide) k hk⟩
  rintro rfl
  rw [ho.apart hr.cells (by decide)] at hk
  exact Bool.noConfusion hk

theorem Next_inv (hb h : Heap) (g : Nat) (ls : List (List UInt8)) (m : Nat) (p : List UInt8) (d : Nat) (need : Int) (st : Value) (br : Bool) (Ls : List (List UInt8)) (A : Option Addr) (c : Nat) (E : Option Addr) (ce : Nat)
    (O : Option Addr) (cO : Nat) (os : List (Option Addr × Nat × Nat)) (t : Nat) (ht : Told hb g ls p d need st br Ls A c E ce O cO os t h) (heq : ls.take t ++ Ls = ls.take m)
    (hlen : (strm Ls).length + p.length ≤ 65536) (hd : d ≤ 1) :
    C Try.prog 6 [ptr g].toArray h fun v h' => ∃ s x ok Ls' A' c' E' ce', v = .tuple #[slv s, .bool ok] ∧ InInv hb g ls m p d need st br ⟨s, x, ok, Ls', A', c', E', ce', O, cO, os, t⟩ h' ∧ Ls'.length + (if ok then 1 else 0) = Ls.length := by
  obtain ⟨hr, ho, hrows, hle, htl⟩ := ht
  have h2 : ∀ r ∈ Ls.map frm, 2 ≤ r.length := by
    intro r hr
    obtain ⟨l, _, rfl⟩ := List.mem_map.1 hr
    rw [frm_length]
    omega
  refine (Next_any h g (Ls.map frm) p d need st br A c E ce hr (by rw [List.length_append, map_frm_flatten]; exact hlen) hd h2).mono ?_
  rintro v h' ⟨s, A', c', E', ce', rfl, hrow, hfr, hr', hch⟩
  have hct := chg_T (O := O) hch
  have ho' : Own (mp h') 22 1 O t cO (os.map slv) := Own.kept ho (fun k o a b => (hch.keep k o a b).1) (out_apart hr ho)
  have hrow' : BRow (hideP (mp h') (regT g A' E' O)) s (((Ls.map frm).headD []).drop 2) := by
    refine ⟨?_, hrow.2⟩
    have h3 : Rd (mp h') s.1 ((((Ls.map frm).headD []).drop 2).map byteV) := hrow.1.mono (hideP_le _ _)
    cases hnil : Ls with
    | nil => exact Rd.nil _ _
    | cons x r =>
      have hxs := hrow.1
      intro i u hi
      rw [hnil] at hxs
      obtain ⟨h4, h5⟩ := hxs i u hi
      refine ⟨h4, ?_⟩
      unfold mc at h5 ⊢
      rw [block_add] at h5 ⊢
      have hin : inB s.1 (sa s.1).block = true := by
        obtain ⟨ad, had⟩ := Option.isSome_iff_exists.1 h4
        rw [had]
        simp [inB, ownB, sa]
      have hO : inB O (sa s.1).block = false := by
        cases hi : inB O (sa s.1).block with
        | false => rfl
        | true =>
          obtain ⟨cur, hm⟩ := ho.at_ hi
          rw [hfr _ _ hm] at hin
          exact Bool.noConfusion hin
      have : hideP (mp h') (regT g A' E' O) (sa s.1).block = hideP (mp h') (regS g A' E') (sa s.1).block := by
        unfold hideP regT
        rw [hO, Bool.or_false]
      rw [this]
      exact h5
  have hlt : Told hb g ls p d need st br Ls.tail A' c' E' ce' O cO os t h' := ⟨by rw [List.map_tail]; exact hr', ho', hrows.mono hct.view, hle.trans hct.view, htl⟩
  cases Ls with
  | nil =>
    exact ⟨s, _, false, [], A', c', E', ce', rfl, ⟨hlt, hrow', by simpa using heq, fun _ => rfl⟩, rfl⟩
  | cons x r =>
    exact ⟨s, x, true, r, A', c', E', ce', rfl, ⟨hlt, hrow', by simpa using heq, fun h => by cases h⟩, by simp⟩
/-- one more load is told -/
theorem Told.push {hb h h1 h2 : Heap} {g : Nat} {ls : List (List UInt8)} {p : List UInt8} {d : Nat} {need : Int} {st : Value} {br : Bool} {Ls : List (List UInt8)} {A : Option Addr} {c : Nat} {E : Option Addr} {ce : Nat}
    {O : Option Addr} {cO : Nat} {os : List (Option Addr × Nat × Nat)} {t : Nat} {O' : Option Addr} {cO' : Nat} {s : Option Addr × Nat × Nat} {x : List UInt8} (ht : Told hb g ls p d need st br Ls A c E ce O cO os t h)
    (hl : Le (mp h) (mp h1)) (hg : Grew h1 O h2 O') (ho : Own (mp h2) 22 1 O' (t + 1) cO' (os.map slv ++ [slv s])) (hrow : BRow (hideP (mp h) (regT g A E O)) s x) (hls : ls.take (t + 1) = ls.take t ++ [x]) (htl : t + 1 ≤ ls.length) :
    Told hb g ls p d need st br Ls A c E ce O' cO' (os ++ [s]) (t + 1) h2 := by
  obtain ⟨⟨hc, hoA, hoE⟩, hown, hrows, hle, _⟩ := ht
  have hown1 := hown.mono hl
  have hc1 := hl _ _ hc
  have hA1 := hoA.mono hl
  have hE1 := hoE.mono hl
  have hct : Chg (regT g A E O) h h2 (regT g A E O') := (Chg.le hl).trans (Chg.grew hg (fun k hk => by simp [regT, hk]) (fun k hk => by
    simp only [regT, Bool.or_eq_true] at hk ⊢
    rcases hk with hk | hk
    · exact .inl (.inl hk)
    · exact .inr hk))
  refine ⟨⟨?_, hA1.grew hg (hown1.disj hA1 (by decide)), hE1.grew hg (hown1.disj hE1 (by decide))⟩, by rw [List.map_append]; exact ho, ?_, hle.trans hct.view, htl⟩
  · rw [hg.other g (mp_some hc1) (by intro e; have := hown1.apart hc1 (by decide); simp [inB, ← e] at this)]
    exact hc1
  · rw [hls]
    exact (hrows.mono hct.view).snoc ⟨hrow.1.mono hct.view, hrow.2⟩
/-- the reader was fed -/
theorem Told.fed {hb h h1 : Heap} {g : Nat} {ls : List (List UInt8)} {p p' : List UInt8} {d d' : Nat} {need need' : Int} {st st' : Value} {br br' : Bool} {Ls Ls' : List (List UInt8)} {A A' : Option Addr} {c c' : Nat} {E E' : Option Addr} {ce ce' : Nat}
    {O : Option Addr} {cO : Nat} {os : List (Option Addr × Nat × Nat)} {t : Nat} (ht : Told hb g ls p d need st br Ls A c E ce O cO os t h) (hch : Chg (regS g A E) h h1 (regS g A' E')) (hr : RdrI (mp h1) g (Ls'.map frm) p' d' need' st' br' A' c' E' ce') :
    Told hb g ls p' d' need' st' br' Ls' A' c' E' ce' O cO os t h1 := by
  obtain ⟨hr0, ho, hrows, hle, htl⟩ := ht
  have hct := chg_T (O := O) hch
  exact ⟨hr, Own.kept ho (fun k o a b => (hch.keep k o a b).1) (out_apart hr0 ho), hrows.mono hct.view, hle.trans hct.view, htl⟩
theorem regT_S {m : Mp} {g : Nat} {A E O : Option Addr} : Le (hideP m (regT g A E O)) (hideP m (regS g A E)) := hideP_sub fun b o _ hs => by unfold regT; rw [hs]; rfl
theorem Fits.le {g : Nat} {p : List UInt8} {d : Nat} {need : Int} {st : Value} {br : Bool} (h : Fits g p d need st br) : d ≤ 1 := by
  rcases h with ⟨_, _, rfl⟩ | ⟨_, rfl, _⟩ <;> omega
theorem Fits.nil {g : Nat} {p : List UInt8} {d : Nat} {need : Int} {st : Value} {br : Bool} (h : Fits g p d need st br) (hb : br = true) : p = [] := by
  rcases h with ⟨_, h, _⟩ | ⟨rfl, _⟩
  · exact h
  · cases hb
end Go.Proofs.Ytodogmfbafmcmaa
