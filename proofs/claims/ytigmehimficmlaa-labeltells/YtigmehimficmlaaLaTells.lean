/- A part of the proof: contracts of functions of the program. No condition. -/
import Derived.Test.YtigmehimficmlaaLaH
import Derived.Test.YtigmehimficmlaaLaDownIn
namespace Go.Proofs.Ytigmehimficmlaa
open Go.Eng La

set_option maxHeartbeats 4000000 in
theorem tells_core {ns cs : List Value} {n : NumT} {c : CondT} (h : Heap) (a b : Int) (hn : NumR (mp h) ns n) (hc : CondR (mp h) cs c) :
    C Try.prog 3 [.agg ns.toArray, .agg cs.toArray, lab a, lab b].toArray h fun v h' => v = .bool true ∧ Le (mp h) (mp h') := by
  refine C_of [8] Try.func3 rfl rfl rfl ?_
  have kn := Kept.mk hn
  have kc := Kept.mk hc
  have n0 := Num_ok hn
  have n1 := NumRef_ok hn
  have c0 := Cond_ok hc
  have c1 := CondRef_ok hc
  obtain ⟨op, nn, who, A, len, cp, rfl⟩ := hn.form
  obtain ⟨cop, cwho, cname, cA, cla, cca, cB, clb, ccb, rfl⟩ := hc.form
  clear hn hc
  refine T_seq ?_
  refine T_region ?_
  refine V_step (E_box rfl rfl (fun b1 h1 hn1 hb1 hl1 => ?_)) rfl
  refine V_step (E_box rfl rfl (fun b2 h2 hn2 hb2 hl2 => ?_)) rfl
  replace hb1 := hl2 _ _ hb1
  replace hl1 := Le.trans hl1 hl2
  refine V_pure (P_assign rfl) rfl rfl rfl ?_
  refine V_nil ?_
  refine thenQ_normal ?_
  refine T_seq ?_
  refine T_seq ?_
  refine T_region ?_
  refine V_read (R_loadAt ag25 rfl rfl (At.blk hb1)) rfl rfl rfl ?_
  refine V_read (R_loadAt ag28 rfl rfl (At.blk hb2)) rfl rfl rfl ?_
  refine V_pure (P_build zl33 pl33 rfl rfl) rfl rfl rfl ?_
  refine V_step (E_buildSlice sl31 rfl rfl rfl rfl (fun b3 h3 hn3 hb3 hl3 => ?_)) rfl
  replace hb2 := hl3 _ _ hb2
  replace hl2 := Le.trans hl2 hl3
  replace hb1 := hl3 _ _ hb1
  replace hl1 := Le.trans hl1 hl3
  have hL : Le (mp h) (mp h3) := by assumption
  have EE : EffsR (mp h3) (some ⟨b3, 0, none⟩) 1 [.mk 0 0 n [] c [] []] := EffsR.one hb3 (.mk (ns := [_, _, _, _]) (cs := [_, _, _, _, _]) ⟨by decide, by decide⟩ ⟨by decide, by decide⟩ (kn.out.mono hL) (by decide) (kc.out.mono hL) rfl (Nat.zero_le _) (Rd.nil _ _) rfl (fun i hi => absurd hi (by simp)) rfl (Nat.zero_le _) (Rd.nil _ _) rfl (fun i hi => absurd hi (by simp)))
  refine V_step (E_call cl7 rfl ((great_ok (c := 1) EE h3 (Le.refl _))) rfl ?_) rfl
  rintro _ h4 ⟨⟨g, rfl, _⟩, l4⟩
  clear hn1 hn2 hn3 hl1 hl2 hb3 EE
  replace hl3 := Le.trans hl3 l4
  replace hb2 := l4 _ _ hb2
  replace hb1 := l4 _ _ hb1
  replace hL := Le.trans hL l4
  cases g with
  | true =>
    refine V_nil ?_
    refine thenQ_normal ?_
    refine T_true rfl ?_
    refine T_seq ?_
    refine T_region ?_
    refine V_step (E_call cl8 rfl ((wakes_ok h4)) rfl ?_) rfl
    rintro _ h5 ⟨rfl, l5⟩
    refine V_pure (P_assign rfl) rfl rfl rfl ?_
    refine V_nil ?_
    refine thenQ_normal ?_
    refine T_ret ?_
    refine thenQ_ret ?_
    refine retQ_ret1 rfl ?_
    exact ⟨rfl, hL.trans l5⟩
  | false =>
    refine V_nil ?_
    refine thenQ_normal ?_
    refine T_false rfl ?_
    refine T_skip ?_
    refine thenQ_normal ?_
    refine T_seq ?_
    refine T_draw [(0, .read), (2, .read), (1, .kept), (3, .kept), (4, .pure), (5, .pure), (6, .read), (8, .read), (7, .kept), (9, .kept), (10, .pure), (11, .pure), (12, .pure), (13, .pure), (14, .pure), (16, .pure), (17, .pure), (15, .kept), (18, .kept), (19, .pure), (20, .pure), (21, .pure), (22, .pure), (23, .pure), (25, .pure), (26, .pure), (24, .kept), (27, .kept), (28, .pure), (29, .pure), (30, .pure), (31, .kept), (32, .pure), (33, .pure)] mixed (by kernel_rfl) (fun _ _ _ _ hq => hq) ?_
    refine VD_read rfl (R_loadAt ag25 rfl rfl (At.blk hb1)) rfl rfl rfl ?_
    refine VD_read rfl (R_loadAt ag25 rfl rfl (At.blk hb1)) rfl rfl rfl ?_
    refine VD_kept rfl (E_call cl9 rfl ((n0 _ hL)) rfl ?_) rfl
    rintro _ k1 ⟨rfl, m1⟩
    refine ⟨m1, ?_⟩
    replace l4 := Le.trans l4 m1
    replace hl3 := Le.trans hl3 m1
    replace hb2 := m1 _ _ hb2
    replace hb1 := m1 _ _ hb1
    replace hL := Le.trans hL m1
    clear m1
    skip
    refine VD_kept rfl (E_call cl10 rfl ((n1 _ hL)) rfl ?_) rfl
    rintro _ k2 ⟨rfl, m2⟩
    refine ⟨m2, ?_⟩
    replace l4 := Le.trans l4 m2
    replace hl3 := Le.trans hl3 m2
    replace hb2 := m2 _ _ hb2
    replace hb1 := m2 _ _ hb1
    replace hL := Le.trans hL m2
    clear m2
    refine VD_pure rfl (dt (P_eql rfl rfl) (by first | assumption | rfl | omega | decide)) rfl rfl rfl ?_
    refine VD_pure rfl (P_move rfl) rfl rfl rfl ?_
    refine VD_read rfl (R_loadAt ag28 rfl rfl (At.blk hb2)) rfl rfl rfl ?_
    refine VD_read rfl (R_loadAt ag28 rfl rfl (At.blk hb2)) rfl rfl rfl ?_
    refine VD_kept rfl (E_call cl11 rfl ((c0 _ hL)) rfl ?_) rfl
    rintro _ k3 ⟨rfl, m3⟩
    refine ⟨m3, ?_⟩
    replace l4 := Le.trans l4 m3
    replace hl3 := Le.trans hl3 m3
    replace hb2 := m3 _ _ hb2
    replace hb1 := m3 _ _ hb1
    replace hL := Le.trans hL m3
    clear m3
    skip
    refine VD_kept rfl (E_call cl12 rfl ((c1 _ hL)) rfl ?_) rfl
    rintro _ k4 ⟨rfl, m4⟩
    refine ⟨m4, ?_⟩
    replace l4 := Le.trans l4 m4
    replace hl3 := Le.trans hl3 m4
    replace hb2 := m4 _ _ hb2
    replace hb1 := m4 _ _ hb1
    replace hL := Le.trans hL m4
    clear m4
    refine VD_pure rfl (dt (P_eql rfl rfl) (by first | assumption | rfl | omega | decide)) rfl rfl rfl ?_
    refine VD_pure rfl (P_pick_t rfl rfl) rfl rfl rfl ?_
    refine VD_pure rfl (P_move rfl) rfl rfl rfl ?_
    refine VD_pure rfl (P_move rfl) rfl rfl rfl ?_
    refine VD_pure rfl (P_move rfl) rfl rfl rfl ?_
    refine VD_pure rfl (P_move rfl) rfl rfl rfl ?_
    refine VD_pure rfl (P_move rfl) rfl rfl rfl ?_
    refine VD_kept rfl (E_call cl13 rfl ((Join_ok _ a b)) rfl ?_) rfl
    rintro _ k5 ⟨rfl, m5⟩
    refine ⟨m5, ?_⟩
    replace l4 := Le.trans l4 m5
    replace hl3 := Le.trans hl3 m5
    replace hb2 := m5 _ _ hb2
    replace hb1 := m5 _ _ hb1
    replace hL := Le.trans hL m5
    clear m5
    skip
    refine VD_kept rfl (E_call cl14 rfl ((JoinR_ok _ a b)) rfl ?_) rfl
    rintro _ k6 ⟨rfl, rfl⟩
    refine ⟨Le.refl _, ?_⟩
    refine VD_pure rfl (dt (P_eql rfl rfl) (by first | assumption | rfl | omega | decide)) rfl rfl rfl ?_
    refine VD_pure rfl (P_pick_t rfl rfl) rfl rfl rfl ?_
    refine VD_pure rfl (P_move rfl) rfl rfl rfl ?_
    refine VD_pure rfl (P_move rfl) rfl rfl rfl ?_
    refine VD_pure rfl (P_move rfl) rfl rfl rfl ?_
    refine VD_pure rfl (P_move rfl) rfl rfl rfl ?_
    refine VD_pure rfl (P_move rfl) rfl rfl rfl ?_
    refine VD_kept rfl (E_call cl15 rfl ((Flows_ok _ a b)) rfl ?_) rfl
    rintro _ k7 ⟨rfl, m7⟩
    refine ⟨m7, ?_⟩
    replace l4 := Le.trans l4 m7
    replace hl3 := Le.trans hl3 m7
    replace hb2 := m7 _ _ hb2
    replace hb1 := m7 _ _ hb1
    replace hL := Le.trans hL m7
    clear m7
    skip
    refine VD_kept rfl (E_call cl16 rfl ((FlowsR_ok _ a b)) rfl ?_) rfl
    rintro _ k8 ⟨rfl, rfl⟩
    refine ⟨Le.refl _, ?_⟩
    skip
    refine VD_pure rfl ((pv (P_beql bo4 rfl rfl) (beq_self_eq_true _))) rfl rfl rfl ?_
    refine VD_pure rfl (P_pick_t rfl rfl) rfl rfl rfl ?_
    refine VD_pure rfl (P_move rfl) rfl rfl rfl ?_
    refine VD_kept rfl (E_call cl8 rfl ((wakes_ok _)) rfl ?_) rfl
    rintro _ k9 ⟨rfl, m9⟩
    refine ⟨m9, ?_⟩
    refine VD_pure rfl (P_pick_t rfl rfl) rfl rfl rfl ?_
    refine VD_pure rfl (P_assign rfl) rfl rfl rfl ?_
    refine VD_nil ?_
    refine thenQ_normal ?_
    refine T_ret ?_
    refine retQ_ret1 rfl ?_
    exact ⟨rfl, hL.trans m9⟩
end Go.Proofs.Ytigmehimficmlaa
