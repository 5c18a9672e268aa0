/- A part of the proof: contracts of functions of the program. No condition. -/
import Derived.Test.YtodogmfbafmcmaaFrC
namespace Go.Proofs.Ytodogmfbafmcmaa
open Go.Eng Fr

/-- what was in h0 is still there, and outside the reader's blocks -/
def Out (h0 : Heap) (S : Nat → Bool) (h : Heap) : Prop := ∀ k o, mp h0 k = some o → mp h k = some o ∧ S k = false
theorem Out.chg {h0 h h' : Heap} {S S' : Nat → Bool} (ho : Out h0 S h) (hc : Chg S h h' S') : Out h0 S' h' := fun k o hk => let ⟨a, b⟩ := ho k o hk; hc.keep k o a b
theorem Out.le {h0 h : Heap} {S : Nat → Bool} (ho : Out h0 S h) : Le (mp h0) (mp h) := fun k o hk => (ho k o hk).1
theorem Out.view {h0 h : Heap} {S : Nat → Bool} (ho : Out h0 S h) : Le (mp h0) (hideP (mp h) S) := fun k o hk => let ⟨a, b⟩ := ho k o hk; hideP_mk a b

theorem Rdr0 {h : Heap} {g : Nat} (hg : mp h g = some (.cells (rdr (.slice none 0 0) 0 (.slice none 0 0) 0 (stepV 17 g) false).toArray 43 (0, 0))) : RdrL (mp h) g [] [] [] none 0 none 0 :=
  ⟨hg, Own.nil _ _ _, Own.nil _ _ _⟩
theorem regS_none (g : Nat) (k : Nat) (h : k ≠ g) : regS g none none k = false := by
  simp [regS, inB, ownB, h]

theorem RdrL.mono {m m' : Mp} {g : Nat} {R : List (List UInt8)} {p rest : List UInt8} {A E : Option Addr} {c ce : Nat} (h : RdrL m g R p rest A c E ce) (hl : Le m m') : RdrL m' g R p rest A c E ce :=
  ⟨hl _ _ h.cells, h.own.mono hl, h.ends.mono hl⟩
theorem RdrB.mono {m m' : Mp} {g : Nat} {R : List (List UInt8)} {A E : Option Addr} {c ce : Nat} (h : RdrB m g R A c E ce) (hl : Le m m') : RdrB m' g R A c E ce := by
  obtain ⟨⟨n, s, h1⟩, h2, h3⟩ := h
  exact ⟨⟨n, s, hl _ _ h1⟩, h2.mono hl, h3.mono hl⟩
/-- a block that was just made lies outside what was there -/
theorem new_out {h h' : Heap} {b g t : Nat} {A E : Option Addr} {cs : Array Value} {e sz n c e' sz' n' c' : Nat} {xs ys : List Value} {fr : Nat × Nat} (hn : mp h b = none) (hg : mp h g = some (.cells cs t fr)) (ho : Own (mp h) e sz A n c xs) (he : Own (mp h) e' sz' E n' c' ys) : regS g A E b = false := by
  simp only [regS, Bool.or_eq_false_iff, beq_eq_false_iff_ne]
  refine ⟨⟨(ne_of hg hn).symm, ?_⟩, ?_⟩
  · cases hi : inB A b with
    | false => rfl
    | true => obtain ⟨cur, hm⟩ := ho.at_ hi; rw [hn] at hm; cases hm
  · cases hi : inB E b with
    | false => rfl
    | true => obtain ⟨cur, hm⟩ := he.at_ hi; rw [hn] at hm; cases hm

theorem wakes_ok (h : Heap) : C Try.prog 10 [].toArray h fun v h' => v = .bool true ∧ Le (mp h) (mp h') := by
  refine C_of [0] Try.func10 rfl rfl rfl ?_
  refine T_seq ?_
  refine T_region ?_
  refine V_pure (P_assign rfl) rfl rfl rfl ?_
  refine V_nil ?_
  refine thenQ_normal ?_
  refine T_seq ?_
  refine T_region ?_
  refine V_step (E_call cl16 rfl ((New_ok h)) rfl ?_) rfl
  rintro _ h1 ⟨g, rfl, hn, hg, hl⟩
  have hout : Out h (regS g none none) h1 := fun k o hk => ⟨hl k o hk, regS_none g k (ne_of hk hn)⟩
  have hr := Rdr0 hg
  clear hl hn hg
  have kr := Kept.mk hr
  refine V_pure (P_assign rfl) rfl rfl rfl ?_
  refine V_nil ?_
  refine thenQ_normal ?_
  refine T_seq ?_
  refine T_seq ?_
  refine T_region ?_
  refine V_pure (P_move rfl) rfl rfl rfl ?_
  refine V_pure (P_peql_nil pt23 rfl rfl) rfl rfl rfl ?_
  refine V_pure (P_move rfl) rfl rfl rfl ?_
  refine V_pure (P_move rfl) rfl rfl rfl ?_
  refine V_step (E_buildSlice sl22 rfl rfl rfl rfl (fun b1 h2 hn1 hb1 hl1 => ?_)) rfl
  replace hr := hr.mono hl1
  have hS1 := new_out (h' := h2) hn1 kr.out.cells kr.out.own kr.out.ends
  have hr2 := hr
  clear kr
  have hout2 := hout.chg (Chg.le (S := regS g none none) hl1)
  have hB : Rd (hideP (mp h2) (regS g none none)) (some ⟨b1, 0, none⟩) ([0, 2, 97, 98, 0].map byteV) := Rd.blk (hideP_mk hb1 hS1)
  clear hr hout hl1 hn1 hb1 hS1
  refine V_step (E_call cl7 rfl ((Feed_ok h2 g [] [] [0, 2, 97, 98, 0] _ _ _ _ _ 5 hr2 trivial hB (by decide) (by decide))) rfl ?_) rfl
  rintro v h3 ⟨A, c, E, ce, hc, hf⟩
  have hres : feedP [] [] [0, 2, 97, 98, 0] = ([[0, 2, 97, 98]], [0], false) := by decide
  rw [hres] at hf
  obtain ⟨rfl, hr3⟩ : v = .int .i64 0 ∧ RdrL (mp h3) g [[0, 2, 97, 98]] [0] [] A c E ce := by
    rcases hf with ⟨h1, _⟩ | ⟨_, h2, h3⟩
    · cases h1
    · exact ⟨h2, h3⟩
  have hout3 := hout2.chg hc
  clear hf hc hres hr2 hout2 hB
  refine V_pure (df (P_neq rfl rfl) (by first | assumption | omega | decide | exact fun hx => hx (by assumption))) rfl rfl rfl ?_
  refine V_pure (P_pick_f rfl rfl) rfl rfl rfl ?_
  refine V_nil ?_
  refine thenQ_normal ?_
  refine T_false rfl ?_
  refine T_skip ?_
  refine thenQ_normal ?_
  refine T_seq ?_
  refine T_region ?_
  refine V_pure (P_move rfl) rfl rfl rfl ?_
  refine V_step (E_call cl6 rfl ((Next_some h3 g [0, 2, 97, 98] [] [0] 5 A c E ce (needOf [0]) (stepV 18 g) false hr3.cells hr3.own hr3.ends (by decide) (by decide) (by decide) (by decide) (by decide))) rfl ?_) rfl
  rintro _ h4 ⟨O, cO, A4, c4, E4, ce4, rfl, hO, hg4, ho4, he4, hc4⟩
  have hout4 := hout3.chg hc4
  have hr4 : RdrL (mp h4) g [] [0] [] A4 c4 E4 ce4 := ⟨hg4, ho4, he4⟩
  have hO4 : Rd (mp h4) O ([97, 98].map byteV) := hO.mono (hideP_le _ _)
  clear hc4 hout3 hr3 hO ho4 he4
  refine V_pure (P_move rfl) rfl rfl rfl ?_
  refine V_pure (P_extract rfl rfl) rfl rfl rfl ?_
  refine V_pure (P_extract rfl rfl) rfl rfl rfl ?_
  refine V_pure (P_assign rfl) rfl rfl rfl ?_
  refine V_pure (P_assign rfl) rfl rfl rfl ?_
  refine V_nil ?_
  refine thenQ_normal ?_
  refine T_seq ?_
  refine T_region ?_
  refine V_pure (P_move rfl) rfl rfl rfl ?_
  refine V_pure (P_move rfl) rfl rfl rfl ?_
  refine V_pure (P_move rfl) rfl rfl rfl ?_
  refine V_read (R_bstr bt22 st9 rfl (by first | rfl | omega) hO4) rfl rfl rfl ?_
  refine V_pure (dt (P_seql rfl rfl) (by first | assumption | rfl | omega | decide)) rfl rfl rfl ?_
  refine V_pure (P_pick_t rfl rfl) rfl rfl rfl ?_
  refine V_pure (P_move rfl) rfl rfl rfl ?_
  refine V_pure (P_move rfl) rfl rfl rfl ?_
  refine V_step (E_call cl9 rfl ((Held_ok h4 g A4 _ c4 _ _ _ _ false hr4.cells)) rfl ?_) rfl
  rintro _ h4 ⟨rfl, rfl⟩
  refine V_pure (dt (P_eql rfl rfl) (by first | assumption | rfl | omega | decide)) rfl rfl rfl ?_
  refine V_pure (P_pick_t rfl rfl) rfl rfl rfl ?_
  refine V_pure (P_move rfl) rfl rfl rfl ?_
  refine V_pure (P_move rfl) rfl rfl rfl ?_
  refine V_step (E_call cl8 rfl ((Broken_ok h4 g _ _ _ _ _ false hr4.cells)) rfl ?_) rfl
  rintro _ h4 ⟨rfl, rfl⟩
  have kr := Kept.mk hr4
  clear hg4 hO4
  refine V_pure (P_not rfl) rfl rfl rfl ?_
  refine V_pure (P_pick_t rfl rfl) rfl rfl rfl ?_
  refine V_pure (P_move rfl) rfl rfl rfl ?_
  refine V_pure (P_move rfl) rfl rfl rfl ?_
  refine V_step (E_buildSlice sl22 rfl rfl rfl rfl (fun b2 h5 hn1 hb1 hl1 => ?_)) rfl
  replace hr4 := hr4.mono hl1
  have hS1 := new_out (h' := h5) hn1 kr.out.cells kr.out.own kr.out.ends
  have hout5 := hout4.chg (Chg.le (S := regS g A4 E4) hl1)
  have hB : Rd (hideP (mp h5) (regS g A4 E4)) (some ⟨b2, 0, none⟩) ([0].map byteV) := Rd.blk (hideP_mk hb1 hS1)
  clear kr hout4 hl1 hn1 hb1 hS1
  refine V_step (E_call cl7 rfl ((Feed_ok h5 g [] [0] [0] _ _ _ _ _ 1 hr4 trivial hB (by decide) (by decide))) rfl ?_) rfl
  rintro v h6 ⟨A, c, E, ce, hc, hf⟩
  have hres : feedP [] [0] [0] = ([], [], true) := by decide
  rw [hres] at hf
  obtain ⟨rfl, hr6⟩ : v = .int .i64 70 ∧ RdrB (mp h6) g [] A c E ce := by
    rcases hf with ⟨_, h2, h3⟩ | ⟨h1, _⟩
    · exact ⟨h2, h3⟩
    · cases h1
  have hout6 := hout5.chg hc
  clear hf hc hres hr4 hout5 hB
  obtain ⟨⟨need, st, hg6⟩, _, _⟩ := hr6
  refine V_pure (dt (P_eql rfl rfl) (by first | assumption | rfl | omega | decide)) rfl rfl rfl ?_
  refine V_pure (P_pick_t rfl rfl) rfl rfl rfl ?_
  refine V_pure (P_move rfl) rfl rfl rfl ?_
  refine V_pure (P_move rfl) rfl rfl rfl ?_
  refine V_step (E_call cl8 rfl ((Broken_ok h6 g _ _ _ _ _ true hg6)) rfl ?_) rfl
  rintro _ h6 ⟨rfl, rfl⟩
  refine V_pure (P_pick_t rfl rfl) rfl rfl rfl ?_
  refine V_pure (P_move rfl) rfl rfl rfl ?_
  refine V_pure (P_move rfl) rfl rfl rfl ?_
  refine V_step (E_call cl7 rfl ((Feed_broken h6 g _ _ _ _ _ none 0 0 hg6)) rfl ?_) rfl
  rintro _ h6 ⟨rfl, rfl⟩
  refine V_pure (dt (P_eql rfl rfl) (by first | assumption | rfl | omega | decide)) rfl rfl rfl ?_
  refine V_pure (P_pick_t rfl rfl) rfl rfl rfl ?_
  refine V_pure (P_assign rfl) rfl rfl rfl ?_
  refine V_nil ?_
  refine thenQ_normal ?_
  refine T_ret ?_
  refine retQ_ret1 rfl ?_
  exact ⟨rfl, hout6.le⟩
end Go.Proofs.Ytodogmfbafmcmaa
