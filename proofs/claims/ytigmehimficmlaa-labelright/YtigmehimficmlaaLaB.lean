/- A part of the proof: contracts of functions of the program. No condition. -/
import Derived.Test.YtigmehimficmlaaLaA
import Derived.Test.YtigmehimficmlaaLaQ
namespace Go.Proofs.Ytigmehimficmlaa
open Go.Eng La

theorem Num_ok {m : Mp} {cs : List Value} {x : NumT} (hx : NumR m cs x) : ∀ h : Heap, Le m (mp h) → C Try.prog 9 [.agg cs.toArray].toArray h fun v h' => v = lab (numL x) ∧ Le (mp h) (mp h') := by
  induction hx with
  | @mk op n who kids A len c vs ho hl hm hr hv hk ih =>
    intro h hle
    subst hl
    simp only [maxLen] at hm
    have kle := Kept.mk hle
    refine C_of [2] Try.func9 rfl rfl rfl ?_
    by_cases h6 : op = 6
    · refine T_seq ?_
      refine T_region ?_
      refine V_step (E_box rfl rfl (fun b1 h1 hn1 hb1 hl1 => ?_)) rfl
      replace hle := Le.trans hle hl1
      refine V_pure (P_assign rfl) rfl rfl rfl ?_
      refine V_nil ?_
      refine thenQ_normal ?_
      refine T_seq ?_
      refine T_region ?_
      refine V_pure (P_assign rfl) rfl rfl rfl ?_
      refine V_nil ?_
      refine thenQ_normal ?_
      refine T_seq ?_
      refine T_block ?_
      refine T_seq ?_
      refine T_region ?_
      refine V_pure (P_fieldAddr0 fo25_0 rfl) rfl rfl rfl ?_
      refine V_read (R_load sg22 rfl (mc_blk hb1 rfl)) rfl rfl rfl ?_
      refine V_pure (dt (P_eql rfl rfl) (by first | assumption | rfl | omega | decide)) rfl rfl rfl ?_
      refine V_pure (P_assign rfl) rfl rfl rfl ?_
      refine V_nil ?_
      refine thenQ_normal ?_
      refine T_true rfl ?_
      refine T_seq ?_
      refine T_region ?_
      refine V_pure (P_assign rfl) rfl rfl rfl ?_
      refine V_nil ?_
      refine thenQ_normal ?_
      refine T_ret ?_
      refine blockQ_ret ?_
      refine thenQ_ret ?_
      refine retQ_ret1 rfl ?_
      exact ⟨by rw [numL, if_pos h6]; rfl, hl1⟩
    · by_cases h8 : 8 ≤ op ∧ op ≤ 12
      · obtain ⟨h8a, h8b⟩ := h8
        refine T_seq ?_
        refine T_region ?_
        refine V_step (E_box rfl rfl (fun b1 h1 hn1 hb1 hl1 => ?_)) rfl
        replace hle := Le.trans hle hl1
        refine V_pure (P_assign rfl) rfl rfl rfl ?_
        refine V_nil ?_
        refine thenQ_normal ?_
        refine T_seq ?_
        refine T_region ?_
        refine V_pure (P_assign rfl) rfl rfl rfl ?_
        refine V_nil ?_
        refine thenQ_normal ?_
        refine T_seq ?_
        refine T_block ?_
        refine T_seq ?_
        refine T_region ?_
        refine V_pure (P_fieldAddr0 fo25_0 rfl) rfl rfl rfl ?_
        refine V_read (R_load sg22 rfl (mc_blk hb1 rfl)) rfl rfl rfl ?_
        refine V_pure (df (P_eql rfl rfl) (by first | assumption | omega | decide | exact fun hx => hx (by assumption))) rfl rfl rfl ?_
        refine V_pure (P_assign rfl) rfl rfl rfl ?_
        refine V_nil ?_
        refine thenQ_normal ?_
        refine T_false rfl ?_
        refine T_seq ?_
        refine T_region ?_
        refine V_pure (P_fieldAddr0 fo25_0 rfl) rfl rfl rfl ?_
        refine V_read (R_load sg22 rfl (mc_blk hb1 rfl)) rfl rfl rfl ?_
        refine V_pure (dt (P_geq rfl rfl) (by first | assumption | rfl | omega | decide)) rfl rfl rfl ?_
        refine V_pure (P_move rfl) rfl rfl rfl ?_
        refine V_pure (P_fieldAddr0 fo25_0 rfl) rfl rfl rfl ?_
        refine V_read (R_load sg22 rfl (mc_blk hb1 rfl)) rfl rfl rfl ?_
        refine V_pure (dt (P_leq rfl rfl) (by first | assumption | rfl | omega | decide)) rfl rfl rfl ?_
        refine V_pure (P_pick_t rfl rfl) rfl rfl rfl ?_
        refine V_pure (P_assign rfl) rfl rfl rfl ?_
        refine V_nil ?_
        refine thenQ_normal ?_
        refine T_true rfl ?_
        refine T_seq ?_
        refine T_region ?_
        refine V_pure (P_fieldAddr0 fo25_3 rfl) rfl rfl rfl ?_
        refine V_read (R_load sg23 rfl (mc_blk hb1 rfl)) rfl rfl rfl ?_
        refine V_pure (P_len il23 rfl) rfl rfl rfl ?_
        refine V_pure (P_move rfl) rfl rfl rfl ?_
        refine V_nil ?_
        refine thenQ_normal ?_
        refine T_block ?_
        have hlab : numL (.mk op n who kids) = numsL 0 kids := by rw [numL, if_neg h6, if_pos ⟨h8a, h8b⟩]
        rw [hlab]
        refine T_loop (fun i : Nat => [(3, lab (numsL 0 (kids.take i))), (20, .slice A kids.length c), (21, .int .i64 kids.length), (22, .int .i64 i)]) (fun i h' => i ≤ kids.length ∧ Le (mp h) (mp h')) (fun i => kids.length - i) 0 ⟨rfl, rfl, rfl, rfl, trivial⟩ ⟨Nat.zero_le _, hl1⟩ ?_
        clear hb1 hl1 hn1
        rintro i h2 ⟨hi, hle2⟩
        by_cases hlt : i < kids.length
        · obtain ⟨a1, a2, a3, a4, a5, a6, hc⟩ := (hk i hlt).form
          have hA : A.isSome = true := hr.isSome (by omega)
          have hat := (hr.elem (i * 4) 4).mono (kle.out.trans hle2)
          have ih1 := ih i hlt
          rw [hc] at hat ih1
          have hs := numsL_succ (l := 0) hlt
          have kle2 := Kept.mk hle2
          refine T_seq ?_
          refine T_region ?_
          refine V_pure (dt (P_lss rfl rfl) (by first | assumption | rfl | omega | decide)) rfl rfl rfl ?_
          refine V_nil ?_
          refine thenQ_normal ?_
          refine T_seq ?_
          refine T_true rfl ?_
          refine T_skip ?_
          refine thenQ_normal ?_
          refine T_seq ?_
          refine T_block ?_
          refine T_seq ?_
          refine T_region ?_
          refine V_pure (P_indexAddr ez23 rfl rfl hA (by omega) (by omega)) rfl rfl rfl ?_
          refine V_read (R_loadAt ag25 rfl rfl hat) rfl rfl rfl ?_
          refine V_step (E_alloc zl25 rfl (fun b2 h3 hn1 hb1 hl1 => ?_)) rfl
          replace hle2 := Le.trans hle2 hl1
          replace hat := hat.mono hl1
          refine V_step (E_storeAgg ag25 rfl rfl rfl hb1 rfl rfl (fun h4 hb2 hl2 hn2 => ?_)) rfl
          refine V_nil ?_
          refine thenQ_normal ?_
          refine T_region ?_
          refine V_pure (P_move rfl) rfl rfl rfl ?_
          refine V_read (R_loadAt ag25 rfl rfl (At.blk hb2)) rfl rfl rfl ?_
          have hl24 := kle2.out.trans (hl1.stored hn1 hl2)
          refine V_step (E_call cl9 rfl ((ih1 _ (kle.out.trans hl24))) rfl ?_) rfl
          rintro _ h5 ⟨rfl, hl5⟩
          refine V_step (E_call cl13 rfl ((Join_ok h5 _ _)) rfl ?_) rfl
          rintro _ h6 ⟨rfl, hl6⟩
          refine V_pure (P_assign rfl) rfl rfl rfl ?_
          refine V_nil ?_
          refine blockQ_normal ?_
          refine thenQ_normal ?_
          refine T_region ?_
          refine V_pure (P_add rfl rfl (w64 (by omega) (by omega))) rfl rfl rfl ?_
          refine V_pure (P_move rfl) rfl rfl rfl ?_
          refine V_nil ?_
          exact ⟨i + 1, ⟨by rw [hs]; rfl, rfl, rfl, rfl, trivial⟩, ⟨by omega, hl24.trans (hl5.trans hl6)⟩, by show kids.length - (i + 1) < kids.length - i; omega⟩
        · refine T_seq ?_
          refine T_region ?_
          refine V_pure (df (P_lss rfl rfl) (by first | assumption | omega | decide | exact fun hx => hx (by assumption))) rfl rfl rfl ?_
          refine V_nil ?_
          refine thenQ_normal ?_
          refine T_seq ?_
          refine T_false rfl ?_
          refine T_exit ?_
          refine thenQ_exit ?_
          refine roundQ_exit ?_
          refine blockQ_here ?_
          refine blockQ_normal ?_
          refine thenQ_normal ?_
          refine T_seq ?_
          refine T_region ?_
          refine V_pure (P_move rfl) rfl rfl rfl ?_
          refine V_pure (P_assign rfl) rfl rfl rfl ?_
          refine V_nil ?_
          refine thenQ_normal ?_
          refine T_ret ?_
          refine retQ_ret1 rfl ?_
          refine ⟨?_, hle2⟩
          rw [List.take_of_length_le (by omega)]
      · refine T_seq ?_
        refine T_region ?_
        refine V_step (E_box rfl rfl (fun b1 h1 hn1 hb1 hl1 => ?_)) rfl
        replace hle := Le.trans hle hl1
        refine V_pure (P_assign rfl) rfl rfl rfl ?_
        refine V_nil ?_
        refine thenQ_normal ?_
        refine T_seq ?_
        refine T_region ?_
        refine V_pure (P_assign rfl) rfl rfl rfl ?_
        refine V_nil ?_
        refine thenQ_normal ?_
        refine T_seq ?_
        refine T_block ?_
        refine T_seq ?_
        refine T_region ?_
        refine V_pure (P_fieldAddr0 fo25_0 rfl) rfl rfl rfl ?_
        refine V_read (R_load sg22 rfl (mc_blk hb1 rfl)) rfl rfl rfl ?_
        refine V_pure (df (P_eql rfl rfl) (by first | assumption | omega | decide | exact fun hx => hx (by assumption))) rfl rfl rfl ?_
        refine V_pure (P_assign rfl) rfl rfl rfl ?_
        refine V_nil ?_
        refine thenQ_normal ?_
        refine T_false rfl ?_
        refine T_seq ?_
        refine T_region ?_
        refine V_pure (P_fieldAddr0 fo25_0 rfl) rfl rfl rfl ?_
        refine V_read (R_load sg22 rfl (mc_blk hb1 rfl)) rfl rfl rfl ?_
        refine V_if (P_geq rfl rfl) rfl rfl rfl (fun hc1 => ?_) (fun hc1 => ?_)
        refine V_pure (P_move rfl) rfl rfl rfl ?_
        refine V_pure (P_fieldAddr0 fo25_0 rfl) rfl rfl rfl ?_
        refine V_read (R_load sg22 rfl (mc_blk hb1 rfl)) rfl rfl rfl ?_
        refine V_pure (df (P_leq rfl rfl) (by first | assumption | omega | decide | exact fun hx => hx (by assumption))) rfl rfl rfl ?_
        refine V_pure (P_pick_t rfl rfl) rfl rfl rfl ?_
        refine V_pure (P_assign rfl) rfl rfl rfl ?_
        refine V_nil ?_
        refine thenQ_normal ?_
        refine T_false rfl ?_
        refine T_skip ?_
        refine blockQ_normal ?_
        refine thenQ_normal ?_
        refine T_seq ?_
        refine T_region ?_
        refine V_pure (P_move rfl) rfl rfl rfl ?_
        refine V_pure (P_assign rfl) rfl rfl rfl ?_
        refine V_nil ?_
        refine thenQ_normal ?_
        refine T_ret ?_
        refine retQ_ret1 rfl ?_
        exact ⟨by rw [numL, if_neg h6, if_neg h8]; rfl, by assumption⟩
        refine V_pure (P_move rfl) rfl rfl rfl ?_
        refine V_skip rfl rfl rfl ?_
        refine V_skip rfl rfl rfl ?_
        refine V_skip rfl rfl rfl ?_
        refine V_pure (P_pick_f rfl rfl) rfl rfl rfl ?_
        refine V_pure (P_assign rfl) rfl rfl rfl ?_
        refine V_nil ?_
        refine thenQ_normal ?_
        refine T_false rfl ?_
        refine T_skip ?_
        refine blockQ_normal ?_
        refine thenQ_normal ?_
        refine T_seq ?_
        refine T_region ?_
        refine V_pure (P_move rfl) rfl rfl rfl ?_
        refine V_pure (P_assign rfl) rfl rfl rfl ?_
        refine V_nil ?_
        refine thenQ_normal ?_
        refine T_ret ?_
        refine retQ_ret1 rfl ?_
        exact ⟨by rw [numL, if_neg h6, if_neg h8]; rfl, by assumption⟩
theorem NumRef_ok {m : Mp} {cs : List Value} {x : NumT} (hx : NumR m cs x) : ∀ h : Heap, Le m (mp h) → C Try.prog 10 [.agg cs.toArray].toArray h fun v h' => v = lab (numL x) ∧ Le (mp h) (mp h') := by
  induction hx with
  | @mk op n who kids A len c vs ho hl hm hr hv hk ih =>
    intro h hle
    subst hl
    simp only [maxLen] at hm
    have kle := Kept.mk hle
    refine C_of [2] Try.func10 rfl rfl rfl ?_
    by_cases h6 : op = 6
    · refine T_seq ?_
      refine T_region ?_
      refine V_step (E_box rfl rfl (fun b1 h1 hn1 hb1 hl1 => ?_)) rfl
      replace hle := Le.trans hle hl1
      refine V_pure (P_assign rfl) rfl rfl rfl ?_
      refine V_nil ?_
      refine thenQ_normal ?_
      refine T_seq ?_
      refine T_region ?_
      refine V_pure (P_assign rfl) rfl rfl rfl ?_
      refine V_nil ?_
      refine thenQ_normal ?_
      refine T_seq ?_
      refine T_seq ?_
      refine T_region ?_
      refine V_pure (P_fieldAddr0 fo25_0 rfl) rfl rfl rfl ?_
      refine V_read (R_load sg22 rfl (mc_blk hb1 rfl)) rfl rfl rfl ?_
      refine V_pure (dt (P_eql rfl rfl) (by first | assumption | rfl | omega | decide)) rfl rfl rfl ?_
      refine V_nil ?_
      refine thenQ_normal ?_
      refine T_true rfl ?_
      refine T_region ?_
      refine V_pure (P_assign rfl) rfl rfl rfl ?_
      refine V_nil ?_
      refine thenQ_normal ?_
      refine T_seq ?_
      refine T_seq ?_
      refine T_region ?_
      refine V_pure (P_fieldAddr0 fo25_0 rfl) rfl rfl rfl ?_
      refine V_read (R_load sg22 rfl (mc_blk hb1 rfl)) rfl rfl rfl ?_
      refine V_pure (df (P_geq rfl rfl) (by first | assumption | omega | decide | exact fun hx => hx (by assumption))) rfl rfl rfl ?_
      refine V_pure (P_move rfl) rfl rfl rfl ?_
      refine V_skip rfl rfl rfl ?_
      refine V_skip rfl rfl rfl ?_
      refine V_skip rfl rfl rfl ?_
      refine V_pure (P_pick_f rfl rfl) rfl rfl rfl ?_
      refine V_nil ?_
      refine thenQ_normal ?_
      refine T_false rfl ?_
      refine T_skip ?_
      refine thenQ_normal ?_
      refine T_seq ?_
      refine T_region ?_
      refine V_pure (P_move rfl) rfl rfl rfl ?_
      refine V_pure (P_assign rfl) rfl rfl rfl ?_
      refine V_nil ?_
      refine thenQ_normal ?_
      refine T_ret ?_
      refine retQ_ret1 rfl ?_
      exact ⟨by rw [numL, if_pos h6]; rfl, hl1⟩
    · by_cases h8 : 8 ≤ op ∧ op ≤ 12
      · obtain ⟨h8a, h8b⟩ := h8
        refine T_seq ?_
        refine T_region ?_
        refine V_step (E_box rfl rfl (fun b1 h1 hn1 hb1 hl1 => ?_)) rfl
        replace hle := Le.trans hle hl1
        refine V_pure (P_assign rfl) rfl rfl rfl ?_
        refine V_nil ?_
        refine thenQ_normal ?_
        refine T_seq ?_
        refine T_region ?_
        refine V_pure (P_assign rfl) rfl rfl rfl ?_
        refine V_nil ?_
        refine thenQ_normal ?_
        refine T_seq ?_
        refine T_seq ?_
        refine T_region ?_
        refine V_pure (P_fieldAddr0 fo25_0 rfl) rfl rfl rfl ?_
        refine V_read (R_load sg22 rfl (mc_blk hb1 rfl)) rfl rfl rfl ?_
        refine V_pure (df (P_eql rfl rfl) (by first | assumption | omega | decide | exact fun hx => hx (by assumption))) rfl rfl rfl ?_
        refine V_nil ?_
        refine thenQ_normal ?_
        refine T_false rfl ?_
        refine T_skip ?_
        refine thenQ_normal ?_
        refine T_seq ?_
        refine T_seq ?_
        refine T_region ?_
        refine V_pure (P_fieldAddr0 fo25_0 rfl) rfl rfl rfl ?_
        refine V_read (R_load sg22 rfl (mc_blk hb1 rfl)) rfl rfl rfl ?_
        refine V_pure (dt (P_geq rfl rfl) (by first | assumption | rfl | omega | decide)) rfl rfl rfl ?_
        refine V_pure (P_move rfl) rfl rfl rfl ?_
        refine V_pure (P_fieldAddr0 fo25_0 rfl) rfl rfl rfl ?_
        refine V_read (R_load sg22 rfl (mc_blk hb1 rfl)) rfl rfl rfl ?_
        refine V_pure (dt (P_leq rfl rfl) (by first | assumption | rfl | omega | decide)) rfl rfl rfl ?_
        refine V_pure (P_pick_t rfl rfl) rfl rfl rfl ?_
        refine V_nil ?_
        refine thenQ_normal ?_
        refine T_true rfl ?_
        refine T_seq ?_
        refine T_region ?_
        refine V_pure (P_assign rfl) rfl rfl rfl ?_
        refine V_nil ?_
        refine thenQ_normal ?_
        refine T_block ?_
        have hlab : numL (.mk op n who kids) = numsL 0 kids := by rw [numL, if_neg h6, if_pos ⟨h8a, h8b⟩]
        rw [hlab]
        refine T_loop (fun i : Nat => [(1, .pointer (some ⟨b1, 0, none⟩)), (3, lab (numsL 0 (kids.take i))), (4, .int .i64 i)]) (fun i h' => i ≤ kids.length ∧ Le (mp h1) (mp h')) (fun i => kids.length - i) 0 ⟨rfl, rfl, rfl, trivial⟩ ⟨Nat.zero_le _, Le.refl _⟩ ?_
        have kb1 := Kept.mk hb1
        have kl1 := Kept.mk hl1
        clear hb1 hl1 hn1
        rintro i h2 ⟨hi, hle2⟩
        have hb2 := hle2 _ _ kb1.out
        by_cases hlt : i < kids.length
        · obtain ⟨a1, a2, a3, a4, a5, a6, hc⟩ := (hk i hlt).form
          have hA : A.isSome = true := hr.isSome (by omega)
          have hat := (hr.elem (i * 4) 4).mono (hle.trans hle2)
          have ih1 := ih i hlt
          rw [hc] at hat ih1
          have hs := numsL_succ (l := 0) hlt
          refine T_seq ?_
          refine T_seq ?_
          refine T_region ?_
          refine V_pure (P_move rfl) rfl rfl rfl ?_
          refine V_pure (P_fieldAddr0 fo25_3 rfl) rfl rfl rfl ?_
          refine V_read (R_load sg23 rfl (mc_blk hb2 rfl)) rfl rfl rfl ?_
          refine V_pure (P_len il23 rfl) rfl rfl rfl ?_
          refine V_pure (dt (P_lss rfl rfl) (by first | assumption | rfl | omega | decide)) rfl rfl rfl ?_
          refine V_nil ?_
          refine thenQ_normal ?_
          refine T_true rfl ?_
          refine T_skip ?_
          refine thenQ_normal ?_
          refine T_seq ?_
          refine T_block ?_
          refine T_region ?_
          refine V_pure (P_move rfl) rfl rfl rfl ?_
          refine V_pure (P_fieldAddr0 fo25_3 rfl) rfl rfl rfl ?_
          refine V_read (R_load sg23 rfl (mc_blk hb2 rfl)) rfl rfl rfl ?_
          refine V_pure (P_move rfl) rfl rfl rfl ?_
          refine V_pure (P_indexAddr ez23 rfl rfl hA (by omega) (by omega)) rfl rfl rfl ?_
          refine V_read (R_loadAt ag25 rfl rfl hat) rfl rfl rfl ?_
          refine V_step (E_call cl10 rfl ((ih1 _ (hle.trans hle2))) rfl ?_) rfl
          rintro _ h5 ⟨rfl, hl5⟩
          refine V_step (E_call cl14 rfl ((JoinR_ok h5 _ _)) rfl ?_) rfl
          rintro _ h6 ⟨rfl, rfl⟩
          refine V_pure (P_assign rfl) rfl rfl rfl ?_
          refine V_nil ?_
          refine blockQ_normal ?_
          refine thenQ_normal ?_
          refine T_region ?_
          refine V_pure (P_move rfl) rfl rfl rfl ?_
          refine V_pure (P_add rfl rfl (w64 (by omega) (by omega))) rfl rfl rfl ?_
          refine V_pure (P_assign rfl) rfl rfl rfl ?_
          refine V_nil ?_
          exact ⟨i + 1, ⟨rfl, by rw [hs]; rfl, rfl, trivial⟩, ⟨by omega, hle2.trans hl5⟩, by show kids.length - (i + 1) < kids.length - i; omega⟩
        · refine T_seq ?_
          refine T_seq ?_
          refine T_region ?_
          refine V_pure (P_move rfl) rfl rfl rfl ?_
          refine V_pure (P_fieldAddr0 fo25_3 rfl) rfl rfl rfl ?_
          refine V_read (R_load sg23 rfl (mc_blk hb2 rfl)) rfl rfl rfl ?_
          refine V_pure (P_len il23 rfl) rfl rfl rfl ?_
          refine V_pure (df (P_lss rfl rfl) (by first | assumption | omega | decide | exact fun hx => hx (by assumption))) rfl rfl rfl ?_
          refine V_nil ?_
          refine thenQ_normal ?_
          refine T_false rfl ?_
          refine T_exit ?_
          refine thenQ_exit ?_
          refine roundQ_exit ?_
          refine blockQ_here ?_
          refine thenQ_normal ?_
          refine T_seq ?_
          refine T_region ?_
          refine V_pure (P_move rfl) rfl rfl rfl ?_
          refine V_pure (P_assign rfl) rfl rfl rfl ?_
          refine V_nil ?_
          refine thenQ_normal ?_
          refine T_ret ?_
          refine retQ_ret1 rfl ?_
          refine ⟨?_, kl1.out.trans hle2⟩
          rw [List.take_of_length_le (by omega)]
      · refine T_seq ?_
        refine T_region ?_
        refine V_step (E_box rfl rfl (fun b1 h1 hn1 hb1 hl1 => ?_)) rfl
        replace hle := Le.trans hle hl1
        refine V_pure (P_assign rfl) rfl rfl rfl ?_
        refine V_nil ?_
        refine thenQ_normal ?_
        refine T_seq ?_
        refine T_region ?_
        refine V_pure (P_assign rfl) rfl rfl rfl ?_
        refine V_nil ?_
        refine thenQ_normal ?_
        refine T_seq ?_
        refine T_seq ?_
        refine T_region ?_
        refine V_pure (P_fieldAddr0 fo25_0 rfl) rfl rfl rfl ?_
        refine V_read (R_load sg22 rfl (mc_blk hb1 rfl)) rfl rfl rfl ?_
        refine V_pure (df (P_eql rfl rfl) (by first | assumption | omega | decide | exact fun hx => hx (by assumption))) rfl rfl rfl ?_
        refine V_nil ?_
        refine thenQ_normal ?_
        refine T_false rfl ?_
        refine T_skip ?_
        refine thenQ_normal ?_
        refine T_seq ?_
        refine T_seq ?_
        refine T_region ?_
        refine V_pure (P_fieldAddr0 fo25_0 rfl) rfl rfl rfl ?_
        refine V_read (R_load sg22 rfl (mc_blk hb1 rfl)) rfl rfl rfl ?_
        refine V_if (P_geq rfl rfl) rfl rfl rfl (fun hc1 => ?_) (fun hc1 => ?_)
        refine V_pure (P_move rfl) rfl rfl rfl ?_
        refine V_pure (P_fieldAddr0 fo25_0 rfl) rfl rfl rfl ?_
        refine V_read (R_load sg22 rfl (mc_blk hb1 rfl)) rfl rfl rfl ?_
        refine V_pure (df (P_leq rfl rfl) (by first | assumption | omega | decide | exact fun hx => hx (by assumption))) rfl rfl rfl ?_
        refine V_pure (P_pick_t rfl rfl) rfl rfl rfl ?_
        refine V_nil ?_
        refine thenQ_normal ?_
        refine T_false rfl ?_
        refine T_skip ?_
        refine thenQ_normal ?_
        refine T_seq ?_
        refine T_region ?_
        refine V_pure (P_move rfl) rfl rfl rfl ?_
        refine V_pure (P_assign rfl) rfl rfl rfl ?_
        refine V_nil ?_
        refine thenQ_normal ?_
        refine T_ret ?_
        refine retQ_ret1 rfl ?_
        exact ⟨by rw [numL, if_neg h6, if_neg h8]; rfl, by assumption⟩
        refine V_pure (P_move rfl) rfl rfl rfl ?_
        refine V_skip rfl rfl rfl ?_
        refine V_skip rfl rfl rfl ?_
        refine V_skip rfl rfl rfl ?_
        refine V_pure (P_pick_f rfl rfl) rfl rfl rfl ?_
        refine V_nil ?_
        refine thenQ_normal ?_
        refine T_false rfl ?_
        refine T_skip ?_
        refine thenQ_normal ?_
        refine T_seq ?_
        refine T_region ?_
        refine V_pure (P_move rfl) rfl rfl rfl ?_
        refine V_pure (P_assign rfl) rfl rfl rfl ?_
        refine V_nil ?_
        refine thenQ_normal ?_
        refine T_ret ?_
        refine retQ_ret1 rfl ?_
        exact ⟨by rw [numL, if_neg h6, if_neg h8]; rfl, by assumption⟩

theorem Cond_ok {m : Mp} {cs : List Value} {x : CondT} (hx : CondR m cs x) : ∀ h : Heap, Le m (mp h) → C Try.prog 11 [.agg cs.toArray].toArray h fun v h' => v = lab (condL x) ∧ Le (mp h) (mp h') := by
  induction hx with
  | @mk op who name nums kids A B la ca lb cb vs us ho hw hn hla hma hra hva hka hlb hmb hrb hvb hkb ih =>
    intro h hle
    subst hla hlb
    simp only [maxLen] at hma hmb
    have kle := Kept.mk hle
    refine C_of [2] Try.func11 rfl rfl rfl ?_
    by_cases h6 : op = 6
    · refine T_seq ?_
      refine T_region ?_
      refine V_step (E_box rfl rfl (fun b1 h1 hn1 hb1 hl1 => ?_)) rfl
      replace hle := Le.trans hle hl1
      refine V_pure (P_assign rfl) rfl rfl rfl ?_
      refine V_nil ?_
      refine thenQ_normal ?_
      refine T_seq ?_
      refine T_seq ?_
      refine T_region ?_
      refine V_pure (P_fieldAddr0 fo28_0 rfl) rfl rfl rfl ?_
      refine V_read (R_load sg22 rfl (mc_blk hb1 rfl)) rfl rfl rfl ?_
      refine V_pure (dt (P_eql rfl rfl) (by first | assumption | rfl | omega | decide)) rfl rfl rfl ?_
      refine V_nil ?_
      refine thenQ_normal ?_
      refine T_true rfl ?_
      refine T_seq ?_
      refine T_seq ?_
      refine T_region ?_
      refine V_pure (P_fieldAddr0 fo28_1 rfl) rfl rfl rfl ?_
      refine V_read (R_load sg22 rfl (mc_blk hb1 rfl)) rfl rfl rfl ?_
      refine V_nil ?_
      refine thenQ_normal ?_
      refine T_block ?_
      refine T_seq ?_
      refine T_region ?_
      refine V_if (P_eql rfl rfl) rfl rfl rfl (fun hc1 => ?_) (fun hc1 => ?_)
      refine V_pure (P_assign rfl) rfl rfl rfl ?_
      refine V_nil ?_
      refine thenQ_normal ?_
      refine T_true rfl ?_
      refine T_seq ?_
      refine T_region ?_
      refine V_pure (P_assign rfl) rfl rfl rfl ?_
      refine V_nil ?_
      refine thenQ_normal ?_
      refine T_ret ?_
      refine blockQ_ret ?_
      refine thenQ_ret ?_
      refine thenQ_ret ?_
      refine retQ_ret1 rfl ?_
      exact ⟨by rw [condL, if_pos h6]; (repeat' split) <;> first | rfl | omega, by assumption⟩
      refine V_pure (P_assign rfl) rfl rfl rfl ?_
      refine V_nil ?_
      refine thenQ_normal ?_
      refine T_false rfl ?_
      refine T_seq ?_
      refine T_region ?_
      refine V_if (P_eql rfl rfl) rfl rfl rfl (fun hc2 => ?_) (fun hc2 => ?_)
      refine V_pure (P_assign rfl) rfl rfl rfl ?_
      refine V_nil ?_
      refine thenQ_normal ?_
      refine T_true rfl ?_
      refine T_seq ?_
      refine T_region ?_
      refine V_pure (P_assign rfl) rfl rfl rfl ?_
      refine V_nil ?_
      refine thenQ_normal ?_
      refine T_ret ?_
      refine blockQ_ret ?_
      refine thenQ_ret ?_
      refine thenQ_ret ?_
      refine retQ_ret1 rfl ?_
      exact ⟨by rw [condL, if_pos h6]; (repeat' split) <;> first | rfl | omega, by assumption⟩
      refine V_pure (P_assign rfl) rfl rfl rfl ?_
      refine V_nil ?_
      refine thenQ_normal ?_
      refine T_false rfl ?_
      refine T_skip ?_
      refine blockQ_normal ?_
      refine thenQ_normal ?_
      refine T_seq ?_
      refine T_region ?_
      refine V_pure (P_assign rfl) rfl rfl rfl ?_
      refine V_nil ?_
      refine thenQ_normal ?_
      refine T_ret ?_
      refine thenQ_ret ?_
      refine retQ_ret1 rfl ?_
      exact ⟨by rw [condL, if_pos h6]; (repeat' split) <;> first | rfl | omega, by assumption⟩
    · refine T_seq ?_
      refine T_region ?_
      refine V_step (E_box rfl rfl (fun b1 h1 hn1 hb1 hl1 => ?_)) rfl
      replace hle := Le.trans hle hl1
      refine V_pure (P_assign rfl) rfl rfl rfl ?_
      refine V_nil ?_
      refine thenQ_normal ?_
      refine T_seq ?_
      refine T_seq ?_
      refine T_region ?_
      refine V_pure (P_fieldAddr0 fo28_0 rfl) rfl rfl rfl ?_
      refine V_read (R_load sg22 rfl (mc_blk hb1 rfl)) rfl rfl rfl ?_
      refine V_pure (df (P_eql rfl rfl) (by first | assumption | omega | decide | exact fun hx => hx (by assumption))) rfl rfl rfl ?_
      refine V_nil ?_
      refine thenQ_normal ?_
      refine T_false rfl ?_
      refine T_skip ?_
      refine thenQ_normal ?_
      refine T_seq ?_
      refine T_region ?_
      refine V_pure (P_assign rfl) rfl rfl rfl ?_
      refine V_nil ?_
      refine thenQ_normal ?_
      refine T_seq ?_
      refine T_seq ?_
      refine T_region ?_
      refine V_pure (P_fieldAddr0 fo28_3 rfl) rfl rfl rfl ?_
      refine V_read (R_load sg23 rfl (mc_blk hb1 rfl)) rfl rfl rfl ?_
      refine V_pure (P_len il23 rfl) rfl rfl rfl ?_
      refine V_pure (P_move rfl) rfl rfl rfl ?_
      refine V_nil ?_
      refine thenQ_normal ?_
      refine T_block ?_
      have hlab : condL (.mk op who name nums kids) = condsL (numsL 0 nums) kids := by rw [condL, if_neg h6]
      rw [hlab]
      refine T_loop (fun i : Nat => [(1, .pointer (some ⟨b1, 0, none⟩)), (3, lab (numsL 0 (nums.take i))), (18, .slice A nums.length ca), (19, .int .i64 nums.length), (20, .int .i64 i)]) (fun i h' => i ≤ nums.length ∧ Le (mp h1) (mp h')) (fun i => nums.length - i) 0 ⟨rfl, rfl, rfl, rfl, rfl, trivial⟩ ⟨Nat.zero_le _, Le.refl _⟩ ?_
      have kb1 := Kept.mk hb1
      have kl1 := Kept.mk hl1
      clear hb1 hl1 hn1
      rintro i h2 ⟨hi, hle2⟩
      by_cases hlt : i < nums.length
      · obtain ⟨a1, a2, a3, a4, a5, a6, hc⟩ := (hka i hlt).form
        have hA : A.isSome = true := hra.isSome (by omega)
        have hat := (hra.elem (i * 4) 4).mono (hle.trans hle2)
        have ih1 := Num_ok (hka i hlt)
        rw [hc] at hat ih1
        have hs := numsL_succ (l := 0) hlt
        have kle2 := Kept.mk hle2
        refine T_seq ?_
        refine T_region ?_
        refine V_pure (dt (P_lss rfl rfl) (by first | assumption | rfl | omega | decide)) rfl rfl rfl ?_
        refine V_nil ?_
        refine thenQ_normal ?_
        refine T_seq ?_
        refine T_true rfl ?_
        refine T_skip ?_
        refine thenQ_normal ?_
        refine T_seq ?_
        refine T_block ?_
        refine T_seq ?_
        refine T_region ?_
        refine V_pure (P_indexAddr ez23 rfl rfl hA (by omega) (by omega)) rfl rfl rfl ?_
        refine V_read (R_loadAt ag25 rfl rfl hat) rfl rfl rfl ?_
        refine V_step (E_alloc zl25 rfl (fun b2 h3 hn1 hb1 hl1 => ?_)) rfl
        replace hle2 := Le.trans hle2 hl1
        replace hat := hat.mono hl1
        refine V_step (E_storeAgg ag25 rfl rfl rfl hb1 rfl rfl (fun h4 hb2 hl2 hn2 => ?_)) rfl
        refine V_nil ?_
        refine thenQ_normal ?_
        refine T_region ?_
        refine V_pure (P_move rfl) rfl rfl rfl ?_
        refine V_read (R_loadAt ag25 rfl rfl (At.blk hb2)) rfl rfl rfl ?_
        have hl24 := kle2.out.trans (hl1.stored hn1 hl2)
        refine V_step (E_call cl9 rfl ((ih1 _ (hle.trans hl24))) rfl ?_) rfl
        rintro _ h5 ⟨rfl, hl5⟩
        refine V_step (E_call cl13 rfl ((Join_ok h5 _ _)) rfl ?_) rfl
        rintro _ h6 ⟨rfl, hl6⟩
        refine V_pure (P_assign rfl) rfl rfl rfl ?_
        refine V_nil ?_
        refine blockQ_normal ?_
        refine thenQ_normal ?_
        refine T_region ?_
        refine V_pure (P_add rfl rfl (w64 (by omega) (by omega))) rfl rfl rfl ?_
        refine V_pure (P_move rfl) rfl rfl rfl ?_
        refine V_nil ?_
        exact ⟨i + 1, ⟨rfl, by rw [hs]; rfl, rfl, rfl, rfl, trivial⟩, ⟨by omega, hl24.trans (hl5.trans hl6)⟩, by show nums.length - (i + 1) < nums.length - i; omega⟩
      have hb2 := hle2 _ _ kb1.out
      have hnt : nums.take i = nums := List.take_of_length_le (by omega)
      rw [hnt]
      refine T_seq ?_
      refine T_region ?_
      refine V_pure (df (P_lss rfl rfl) (by first | assumption | omega | decide | exact fun hx => hx (by assumption))) rfl rfl rfl ?_
      refine V_nil ?_
      refine thenQ_normal ?_
      refine T_seq ?_
      refine T_false rfl ?_
      refine T_exit ?_
      refine thenQ_exit ?_
      refine roundQ_exit ?_
      refine blockQ_here ?_
      refine thenQ_normal ?_
      refine T_seq ?_
      refine T_seq ?_
      refine T_region ?_
      refine V_pure (P_fieldAddr0 fo28_4 rfl) rfl rfl rfl ?_
      refine V_read (R_load sg26 rfl (mc_blk hb2 rfl)) rfl rfl rfl ?_
      refine V_pure (P_len il26 rfl) rfl rfl rfl ?_
      refine V_pure (P_move rfl) rfl rfl rfl ?_
      refine V_nil ?_
      refine thenQ_normal ?_
      refine T_block ?_
      refine T_loop (fun i : Nat => [(3, lab (condsL (numsL 0 nums) (kids.take i))), (30, .slice B kids.length cb), (31, .int .i64 kids.length), (32, .int .i64 i)]) (fun i h' => i ≤ kids.length ∧ Le (mp h1) (mp h')) (fun i => kids.length - i) 0 ⟨by rw [List.take_zero, condsL]; rfl, rfl, rfl, rfl, trivial⟩ ⟨Nat.zero_le _, hle2⟩ ?_
      clear hb2 hle2 hnt hi hlt i h2
      rintro i h2 ⟨hi, hle2⟩
      by_cases hlt : i < kids.length
      · obtain ⟨a1, a2, a3, a4, a5, a6, a7, a8, a9, hc⟩ := (hkb i hlt).form
        have hB : B.isSome = true := hrb.isSome (by omega)
        have hat := (hrb.elem (i * 5) 5).mono (hle.trans hle2)
        have ih1 := ih i hlt
        rw [hc] at hat ih1
        have hs := condsL_succ (l := numsL 0 nums) hlt
        have kle2 := Kept.mk hle2
        refine T_seq ?_
        refine T_region ?_
        refine V_pure (dt (P_lss rfl rfl) (by first | assumption | rfl | omega | decide)) rfl rfl rfl ?_
        refine V_nil ?_
        refine thenQ_normal ?_
        refine T_seq ?_
        refine T_true rfl ?_
        refine T_skip ?_
        refine thenQ_normal ?_
        refine T_seq ?_
        refine T_block ?_
        refine T_seq ?_
        refine T_region ?_
        refine V_pure (P_indexAddr ez26 rfl rfl hB (by omega) (by omega)) rfl rfl rfl ?_
        refine V_read (R_loadAt ag28 rfl rfl hat) rfl rfl rfl ?_
        refine V_step (E_alloc zl28 rfl (fun b2 h3 hn1 hb1 hl1 => ?_)) rfl
        replace hle2 := Le.trans hle2 hl1
        replace hat := hat.mono hl1
        refine V_step (E_storeAgg ag28 rfl rfl rfl hb1 rfl rfl (fun h4 hb2 hl2 hn2 => ?_)) rfl
        refine V_nil ?_
        refine thenQ_normal ?_
        refine T_region ?_
        refine V_pure (P_move rfl) rfl rfl rfl ?_
        refine V_read (R_loadAt ag28 rfl rfl (At.blk hb2)) rfl rfl rfl ?_
        have hl24 := kle2.out.trans (hl1.stored hn1 hl2)
        refine V_step (E_call cl11 rfl ((ih1 _ (hle.trans hl24))) rfl ?_) rfl
        rintro _ h5 ⟨rfl, hl5⟩
        refine V_step (E_call cl13 rfl ((Join_ok h5 _ _)) rfl ?_) rfl
        rintro _ h6 ⟨rfl, hl6⟩
        refine V_pure (P_assign rfl) rfl rfl rfl ?_
        refine V_nil ?_
        refine blockQ_normal ?_
        refine thenQ_normal ?_
        refine T_region ?_
        refine V_pure (P_add rfl rfl (w64 (by omega) (by omega))) rfl rfl rfl ?_
        refine V_pure (P_move rfl) rfl rfl rfl ?_
        refine V_nil ?_
        exact ⟨i + 1, ⟨by rw [hs]; rfl, rfl, rfl, rfl, trivial⟩, ⟨by omega, hl24.trans (hl5.trans hl6)⟩, by show kids.length - (i + 1) < kids.length - i; omega⟩
      · refine T_seq ?_
        refine T_region ?_
        refine V_pure (df (P_lss rfl rfl) (by first | assumption | omega | decide | exact fun hx => hx (by assumption))) rfl rfl rfl ?_
        refine V_nil ?_
        refine thenQ_normal ?_
        refine T_seq ?_
        refine T_false rfl ?_
        refine T_exit ?_
        refine thenQ_exit ?_
        refine roundQ_exit ?_
        refine blockQ_here ?_
        refine thenQ_normal ?_
        refine T_seq ?_
        refine T_region ?_
        refine V_pure (P_move rfl) rfl rfl rfl ?_
        refine V_pure (P_assign rfl) rfl rfl rfl ?_
        refine V_nil ?_
        refine thenQ_normal ?_
        refine T_ret ?_
        refine retQ_ret1 rfl ?_
        refine ⟨?_, kl1.out.trans hle2⟩
        rw [List.take_of_length_le (by omega)]
end Go.Proofs.Ytigmehimficmlaa
