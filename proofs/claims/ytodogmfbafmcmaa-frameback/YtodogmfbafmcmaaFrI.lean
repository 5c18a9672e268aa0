/- A part of the proof: contracts of functions of the program. No condition. -/
import Derived.Test.YtodogmfbafmcmaaFrH
namespace Go.Proofs.Ytodogmfbafmcmaa
open Go.Eng Fr

theorem cutRes_loads {h0 h : Heap} {res : List (List UInt8) × Nat × Bool} {v : Value} (hr : CutRes h0 res v h) :
    ∃ A c ss, v = .tuple #[.slice A res.1.length c, .int .i64 res.2.1, eV res.2.2] ∧ Rd (mp h) A (ss.map slv) ∧ Rows (mp h) ss res.1 ∧ Le (mp h0) (mp h) := by
  obtain ⟨A, c, ss, rfl, ho, hr, hl⟩ := hr
  exact ⟨A, c, ss, rfl, ho.rd, hr.mono (hideO_le _ _), hl.trans (hideO_le _ _)⟩
theorem cutF_length : ∀ (n : Nat) (b : List UInt8), b.length ≤ n → (cutF b).1.length ≤ b.length
  | 0, b, h => by
    rw [cutF_short b (by omega)]
    exact Nat.zero_le _
  | n + 1, b, h => by
    match b, h with
    | [], _ => exact Nat.le_refl _
    | [x], _ => rw [cutF_short [x] (by simp)]; exact Nat.zero_le _
    | x :: y :: q, h =>
      by_cases h1 : lenOf x y = 0 ∨ 4096 < lenOf x y
      · rw [cutF_bad x y q h1]; exact Nat.zero_le _
      · by_cases h2 : q.length < lenOf x y
        · rw [cutF_less x y q h1 h2]; exact Nat.zero_le _
        · rw [cutF_more x y q h1 h2]
          have := cutF_length n (q.drop (lenOf x y)) (by simp at h ⊢; omega)
          simp at this ⊢
          omega

def writeF (l : List UInt8) : List UInt8 × Int := if l.length = 0 then ([], 2) else if 4096 < l.length then ([], 3) else (hdr l.length ++ l, 0)
theorem writeRes_out {h0 h : Heap} {l : List UInt8} {v : Value} (hr : WriteRes h0 l v h) :
    ∃ A c, v = .tuple #[.slice A (writeF l).1.length c, .int .i64 (writeF l).2] ∧ Rd (mp h) A ((writeF l).1.map byteV) ∧ Le (mp h0) (mp h) := by
  unfold WriteRes at hr
  unfold writeF
  split at hr
  · rename_i h1
    obtain ⟨rfl, rfl⟩ := hr
    rw [if_pos h1]
    exact ⟨none, 0, rfl, Rd.nil _ _, Le.refl _⟩
  · rename_i h1
    split at hr
    · rename_i h2
      obtain ⟨rfl, rfl⟩ := hr
      rw [if_neg h1, if_pos h2]
      exact ⟨none, 0, rfl, Rd.nil _ _, Le.refl _⟩
    · rename_i h2
      obtain ⟨A, c, rfl, ho, hl, _⟩ := hr
      rw [if_neg h1, if_neg h2]
      refine ⟨A, c, ?_, ho.rd, hl⟩
      have : (hdr l.length ++ l).length = 2 + l.length := by simp [hdr]; omega
      simp only [this]

theorem cut_core (W : World) (a : Option Addr) (ca : Nat) (b : List UInt8) (ra : Rd (mp W.heap) a (b.map byteV)) (hca : b.length ≤ ca) (_ : ca ≤ maxLen)
    (e : Option Addr) (ce : Nat) (l : List UInt8) (re : Rd (mp W.heap) e (l.map byteV)) (_ : l.length ≤ ce) (_ : ce ≤ maxLen) :
    C Try.prog 4 [.slice a b.length ca, .slice e l.length ce].toArray W.heap fun v h' => v = .bool true ∧ Le (mp W.heap) (mp h') := by
  generalize W.heap = h at *
  refine C_of [4] Try.func4 rfl rfl rfl ?_
  by_cases hb : 20000 < b.length
  · refine T_seq ?_
    refine T_region ?_
    refine V_pure (P_assign rfl) rfl rfl rfl ?_
    refine V_nil ?_
    refine thenQ_normal ?_
    refine T_seq ?_
    refine T_seq ?_
    refine T_region ?_
    refine V_pure (P_move rfl) rfl rfl rfl ?_
    refine V_pure (P_len il22 rfl) rfl rfl rfl ?_
    refine V_pure (dt (P_gtr rfl rfl) (by first | assumption | rfl | omega | decide)) rfl rfl rfl ?_
    refine V_pure (P_move rfl) rfl rfl rfl ?_
    refine V_skip rfl rfl rfl ?_
    refine V_skip rfl rfl rfl ?_
    refine V_skip rfl rfl rfl ?_
    refine V_pure (P_pick_t rfl rfl) rfl rfl rfl ?_
    refine V_nil ?_
    refine thenQ_normal ?_
    refine T_true rfl ?_
    refine T_seq ?_
    refine T_region ?_
    refine V_step (E_call cl10 rfl ((wakes_ok h)) rfl ?_) rfl
    rintro _ h2 ⟨rfl, hl⟩
    refine V_pure (P_assign rfl) rfl rfl rfl ?_
    refine V_nil ?_
    refine thenQ_normal ?_
    refine T_ret ?_
    refine thenQ_ret ?_
    refine retQ_ret1 rfl ?_
    exact ⟨rfl, hl⟩
  · by_cases hl : 20000 < l.length
    · refine T_seq ?_
      refine T_region ?_
      refine V_pure (P_assign rfl) rfl rfl rfl ?_
      refine V_nil ?_
      refine thenQ_normal ?_
      refine T_seq ?_
      refine T_seq ?_
      refine T_region ?_
      refine V_pure (P_move rfl) rfl rfl rfl ?_
      refine V_pure (P_len il22 rfl) rfl rfl rfl ?_
      refine V_pure (df (P_gtr rfl rfl) (by first | assumption | omega | decide | exact fun hx => hx (by assumption))) rfl rfl rfl ?_
      refine V_pure (P_move rfl) rfl rfl rfl ?_
      refine V_pure (P_move rfl) rfl rfl rfl ?_
      refine V_pure (P_len il22 rfl) rfl rfl rfl ?_
      refine V_pure (dt (P_gtr rfl rfl) (by first | assumption | rfl | omega | decide)) rfl rfl rfl ?_
      refine V_pure (P_pick_f rfl rfl) rfl rfl rfl ?_
      refine V_nil ?_
      refine thenQ_normal ?_
      refine T_true rfl ?_
      refine T_seq ?_
      refine T_region ?_
      refine V_step (E_call cl10 rfl ((wakes_ok h)) rfl ?_) rfl
      rintro _ h2 ⟨rfl, hl⟩
      refine V_pure (P_assign rfl) rfl rfl rfl ?_
      refine V_nil ?_
      refine thenQ_normal ?_
      refine T_ret ?_
      refine thenQ_ret ?_
      refine retQ_ret1 rfl ?_
      exact ⟨rfl, hl⟩
    · refine T_seq ?_
      refine T_region ?_
      refine V_pure (P_assign rfl) rfl rfl rfl ?_
      refine V_nil ?_
      refine thenQ_normal ?_
      refine T_seq ?_
      refine T_seq ?_
      refine T_region ?_
      refine V_pure (P_move rfl) rfl rfl rfl ?_
      refine V_pure (P_len il22 rfl) rfl rfl rfl ?_
      refine V_pure (df (P_gtr rfl rfl) (by first | assumption | omega | decide | exact fun hx => hx (by assumption))) rfl rfl rfl ?_
      refine V_pure (P_move rfl) rfl rfl rfl ?_
      refine V_pure (P_move rfl) rfl rfl rfl ?_
      refine V_pure (P_len il22 rfl) rfl rfl rfl ?_
      refine V_pure (df (P_gtr rfl rfl) (by first | assumption | omega | decide | exact fun hx => hx (by assumption))) rfl rfl rfl ?_
      refine V_pure (P_pick_f rfl rfl) rfl rfl rfl ?_
      refine V_nil ?_
      refine thenQ_normal ?_
      refine T_false rfl ?_
      refine T_skip ?_
      refine thenQ_normal ?_
      refine T_seq ?_
      refine T_region ?_
      refine V_pure (P_move rfl) rfl rfl rfl ?_
      refine V_step (E_call cl11 rfl ((Cut_ok h a ca b ra (by omega) hca)) rfl ?_) rfl
      rintro v1 h1 r1
      obtain ⟨A1, c1, s1, rfl, d1, w1, le1⟩ := cutRes_loads r1
      clear r1
      refine V_pure (P_move rfl) rfl rfl rfl ?_
      refine V_pure (P_extract rfl rfl) rfl rfl rfl ?_
      refine V_pure (P_extract rfl rfl) rfl rfl rfl ?_
      refine V_pure (P_extract rfl rfl) rfl rfl rfl ?_
      refine V_pure (P_assign rfl) rfl rfl rfl ?_
      refine V_pure (P_assign rfl) rfl rfl rfl ?_
      refine V_pure (P_assign rfl) rfl rfl rfl ?_
      refine V_nil ?_
      refine thenQ_normal ?_
      refine T_seq ?_
      refine T_region ?_
      refine V_pure (P_move rfl) rfl rfl rfl ?_
      refine V_step (E_call cl12 rfl ((CutR_ok h1 a ca b (ra.mono le1) (by omega) hca)) rfl ?_) rfl
      rintro v2 h2 r2
      obtain ⟨A2, c2, s2, rfl, d2, w2, le2⟩ := cutRes_loads r2
      clear r2
      have d1' := d1.mono le2
      have w1' := w1.mono le2
      have le12 := le1.trans le2
      have re2 := re.mono le12
      clear d1 w1 le1 le2 ra
      refine V_pure (P_move rfl) rfl rfl rfl ?_
      refine V_pure (P_extract rfl rfl) rfl rfl rfl ?_
      refine V_pure (P_extract rfl rfl) rfl rfl rfl ?_
      refine V_pure (P_extract rfl rfl) rfl rfl rfl ?_
      refine V_pure (P_assign rfl) rfl rfl rfl ?_
      refine V_pure (P_assign rfl) rfl rfl rfl ?_
      refine V_pure (P_assign rfl) rfl rfl rfl ?_
      refine V_nil ?_
      refine thenQ_normal ?_
      refine T_seq ?_
      refine T_region ?_
      refine V_pure (P_move rfl) rfl rfl rfl ?_
      refine V_step (E_call cl13 rfl ((Write_ok h2 e ce l re2 (by omega))) rfl ?_) rfl
      rintro v3 h3 r3
      obtain ⟨A3, c3, rfl, d3, le3⟩ := writeRes_out r3
      clear r3
      replace d2 := d2.mono le3
      replace w2 := w2.mono le3
      replace d1' := d1'.mono le3
      replace w1' := w1'.mono le3
      replace le12 := Le.trans le12 le3
      replace re2 := re2.mono le3
      refine V_pure (P_move rfl) rfl rfl rfl ?_
      refine V_pure (P_extract rfl rfl) rfl rfl rfl ?_
      refine V_pure (P_extract rfl rfl) rfl rfl rfl ?_
      refine V_pure (P_assign rfl) rfl rfl rfl ?_
      refine V_pure (P_assign rfl) rfl rfl rfl ?_
      refine V_nil ?_
      refine thenQ_normal ?_
      refine T_seq ?_
      refine T_region ?_
      refine V_pure (P_move rfl) rfl rfl rfl ?_
      refine V_step (E_call cl14 rfl ((WriteR_ok h3 e ce l re2 (by omega))) rfl ?_) rfl
      rintro v4 h4 r4
      obtain ⟨A4, c4, rfl, d4, le4⟩ := writeRes_out r4
      clear r4
      replace d3 := d3.mono le4
      replace le3 := Le.trans le3 le4
      replace d2 := d2.mono le4
      replace w2 := w2.mono le4
      replace d1' := d1'.mono le4
      replace w1' := w1'.mono le4
      replace le12 := Le.trans le12 le4
      replace re2 := re2.mono le4
      have hcl := cutF_length _ b (Nat.le_refl _)
      generalize writeF l = wl at *
      generalize cutF b = cb at *
      obtain ⟨cl, cn, ce⟩ := cb
      simp only at *
      refine V_pure (P_move rfl) rfl rfl rfl ?_
      refine V_pure (P_extract rfl rfl) rfl rfl rfl ?_
      refine V_pure (P_extract rfl rfl) rfl rfl rfl ?_
      refine V_pure (P_assign rfl) rfl rfl rfl ?_
      refine V_pure (P_assign rfl) rfl rfl rfl ?_
      refine V_nil ?_
      refine thenQ_normal ?_
      refine T_seq ?_
      refine T_region ?_
      refine V_pure (P_move rfl) rfl rfl rfl ?_
      refine V_pure (P_move rfl) rfl rfl rfl ?_
      refine V_pure (dt (P_eql rfl rfl) (by first | assumption | rfl | omega | decide)) rfl rfl rfl ?_
      refine V_pure (P_move rfl) rfl rfl rfl ?_
      refine V_pure (P_move rfl) rfl rfl rfl ?_
      refine V_pure (P_move rfl) rfl rfl rfl ?_
      refine V_pure (dt (P_eql rfl rfl) (by first | assumption | rfl | omega | decide)) rfl rfl rfl ?_
      refine V_pure (P_pick_t rfl rfl) rfl rfl rfl ?_
      refine V_pure (P_move rfl) rfl rfl rfl ?_
      refine V_pure (P_move rfl) rfl rfl rfl ?_
      refine V_pure (P_move rfl) rfl rfl rfl ?_
      refine V_step (E_call cl15 rfl ((loads_ok h4 A1 A2 _ _ s1 s2 cl cl d1' d2 w1' w2 (by omega) (by omega))) rfl ?_) rfl
      rintro v5 h4 ⟨hv5, rfl⟩
      rw [decide_eq_true rfl] at hv5
      subst hv5
      refine V_pure (P_pick_t rfl rfl) rfl rfl rfl ?_
      refine V_pure (P_move rfl) rfl rfl rfl ?_
      refine V_pure (P_move rfl) rfl rfl rfl ?_
      refine V_pure (P_move rfl) rfl rfl rfl ?_
      refine V_pure (dt (P_eql rfl rfl) (by first | assumption | rfl | omega | decide)) rfl rfl rfl ?_
      refine V_pure (P_pick_t rfl rfl) rfl rfl rfl ?_
      refine V_pure (P_move rfl) rfl rfl rfl ?_
      refine V_pure (P_move rfl) rfl rfl rfl ?_
      refine V_read (R_bstr bt22 st9 rfl (by first | rfl | omega) d3) rfl rfl rfl ?_
      refine V_pure (P_move rfl) rfl rfl rfl ?_
      refine V_read (R_bstr bt22 st9 rfl (by first | rfl | omega) d4) rfl rfl rfl ?_
      refine V_pure (dt (P_seql rfl rfl) (by first | assumption | rfl | omega | decide)) rfl rfl rfl ?_
      refine V_pure (P_pick_t rfl rfl) rfl rfl rfl ?_
      refine V_pure (P_move rfl) rfl rfl rfl ?_
      refine V_step (E_call cl10 rfl ((wakes_ok h4)) rfl ?_) rfl
      rintro _ h6 ⟨rfl, le6⟩
      refine V_pure (P_pick_t rfl rfl) rfl rfl rfl ?_
      refine V_pure (P_assign rfl) rfl rfl rfl ?_
      refine V_nil ?_
      refine thenQ_normal ?_
      refine T_ret ?_
      refine retQ_ret1 rfl ?_
      exact ⟨rfl, le12.trans le6⟩
end Go.Proofs.Ytodogmfbafmcmaa
