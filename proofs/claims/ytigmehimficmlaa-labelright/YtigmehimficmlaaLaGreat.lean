/- A part of the proof: contracts of functions of the program. No condition. -/
import Derived.Test.YtigmehimficmlaaLaF
namespace Go.Proofs.Ytigmehimficmlaa
open Go.Eng La

theorem CardR.parts {m : Mp} {vs : List Value} {x : CardT} (h : CardR m vs x) : ∃ A la ca B lb cb D ld cd, vs = [.string (bs x.name), .bool x.unit, .int .i64 x.cost, .int .i64 x.power, .int .i64 x.health, .int .i64 x.shield, .int .i64 x.apow, .int .i64 x.aheal, .slice A la ca, .slice B lb cb, .slice D ld cd, .int .i64 x.at_] ∧ EffsR m A la x.played ∧ EffsR m B lb x.dead ∧ EffsR m D ld x.dawn := by
  obtain ⟨A, la, ca, B, lb, cb, D, ld, cd, h1, _, h3, h4, h5, _⟩ := h
  exact ⟨A, la, ca, B, lb, cb, D, ld, cd, h1, h3, h4, h5⟩
set_option maxHeartbeats 4000000 in
theorem Great_ok {A : Option Addr} {len c : Nat} {l : List CardT} (h : Heap) (hl : CardsR (mp h) A len l) (hlen : len ≤ 9223372036854775807) :
    C Try.prog 17 [.agg [.slice A len c, .slice none 0 0].toArray].toArray h fun v h' => (∃ b : Bool, v = .bool b) ∧ Le (mp h) (mp h') := by
  refine C_of [2] Try.func17 rfl rfl rfl ?_
  obtain ⟨q1, q2, vs, q3, q4, q5⟩ := hl
  have Q3 := Kept.mk q3
  clear q3
  refine T_seq ?_
  refine T_region ?_
  refine V_step (E_box rfl rfl (fun b1 h1 hn1 hb1 hl1 => ?_)) rfl
  refine V_pure (P_assign rfl) rfl rfl rfl ?_
  refine V_nil ?_
  refine thenQ_normal ?_
  refine T_seq ?_
  refine T_region ?_
  refine V_pure (P_fieldAddr0 fo44_0 rfl) rfl rfl rfl ?_
  refine V_read (R_load sg40 rfl (mc_blk hb1 rfl)) rfl rfl rfl ?_
  refine V_pure (P_len il40 rfl) rfl rfl rfl ?_
  refine V_pure (P_fieldAddr0 fo44_1 rfl) rfl rfl rfl ?_
  refine V_read (R_load sg42 rfl (mc_blk hb1 rfl)) rfl rfl rfl ?_
  refine V_pure (P_len il42 rfl) rfl rfl rfl ?_
  refine V_pure (P_add rfl rfl (w64 (by omega) (by omega))) rfl rfl rfl ?_
  refine V_pure (P_assign rfl) rfl rfl rfl ?_
  refine V_nil ?_
  refine thenQ_normal ?_
  refine T_seq ?_
  refine T_seq ?_
  refine T_region ?_
  refine V_pure (P_assign rfl) rfl rfl rfl ?_
  refine V_nil ?_
  refine thenQ_normal ?_
  refine T_block ?_
  have L0 := hl1
  have B1 := Kept.mk hb1
  refine T_loop (fun y : Nat × Int => [(1, .pointer (some ⟨b1, 0, none⟩)), (3, .int .i64 y.2), (4, .int .i64 y.1)]) (fun y h' => y.1 ≤ len ∧ 0 ≤ y.2 ∧ y.2 ≤ 9223372036854775807 ∧ mp h' b1 = some (.cells [.slice A len c, .slice none 0 0].toArray 44 (0, 0)) ∧ Le (mp h) (mp h')) (fun y => len - y.1) (0, len) ?_ ?_ ?_
  · exact ⟨rfl, rfl, rfl, trivial⟩
  · exact ⟨Nat.zero_le _, by simp only; omega, by simp only; omega, B1.out, L0⟩
  · rintro ⟨i, z⟩ h2 ⟨hi, hz0, hz1, hb2, hle2⟩
    simp only at hi hz0 hz1 ⊢
    have q3 := Q3.out
    by_cases hlt : i < len
    · by_cases hz : z ≤ 6000
      · have hA : A.isSome = true := q3.isSome (by omega)
        have hat := (q3.elem (i * 12) 12).mono hle2
        obtain ⟨A1, la, ca, B, lb, cb, D, ld, cd, hc, e1, e2, e3⟩ := CardR.parts (q5 i (by omega))
        rw [hc] at hat
        have s1 := Size_ok (c := ca) e1
        have s2 := Size_ok (c := cb) e2
        have s3 := Size_ok (c := cd) e3
        clear hc e1 e2 e3
        have kL := Kept.mk hle2
        have kB := Kept.mk hb2
        clear q4 Q3 B1 L0 hn1 hb1 hl1
        refine T_seq ?_
        refine T_seq ?_
        refine T_region ?_
        refine V_pure (P_move rfl) rfl rfl rfl ?_
        refine V_pure (P_fieldAddr0 fo44_0 rfl) rfl rfl rfl ?_
        refine V_read (R_load sg40 rfl (mc_blk hb2 rfl)) rfl rfl rfl ?_
        refine V_pure (P_len il40 rfl) rfl rfl rfl ?_
        refine V_pure (dt (P_lss rfl rfl) (by first | assumption | rfl | omega | decide)) rfl rfl rfl ?_
        refine V_pure (P_move rfl) rfl rfl rfl ?_
        refine V_pure (P_move rfl) rfl rfl rfl ?_
        refine V_pure (dt (P_leq rfl rfl) (by first | assumption | rfl | omega | decide)) rfl rfl rfl ?_
        refine V_pure (P_pick_t rfl rfl) rfl rfl rfl ?_
        refine V_nil ?_
        refine thenQ_normal ?_
        refine T_true rfl ?_
        refine T_skip ?_
        refine thenQ_normal ?_
        refine T_seq ?_
        refine T_block ?_
        refine T_seq ?_
        refine T_region ?_
        refine V_pure (P_fieldAddr0 fo44_0 rfl) rfl rfl rfl ?_
        refine V_read (R_load sg40 rfl (mc_blk hb2 rfl)) rfl rfl rfl ?_
        refine V_pure (P_move rfl) rfl rfl rfl ?_
        refine V_pure (P_indexAddr ez40 rfl rfl hA (by omega) (by omega)) rfl rfl rfl ?_
        refine V_read (R_loadAt ag56 rfl rfl hat) rfl rfl rfl ?_
        refine V_step (E_alloc zl56 rfl (fun b2 h3 hn1 hb1 hl1 => ?_)) rfl
        replace hb2 := hl1 _ _ hb2
        replace hle2 := Le.trans hle2 hl1
        replace hat := hat.mono hl1
        refine V_step (E_storeAgg ag56 rfl rfl rfl hb1 rfl rfl (fun h4 hb3 hl2 hn2 => ?_)) rfl
        refine V_nil ?_
        refine thenQ_normal ?_
        refine T_draw [(0, .pure), (1, .pure), (5, .pure), (9, .pure), (2, .read), (6, .read), (10, .read), (3, .kept), (4, .pure), (7, .kept), (8, .pure), (11, .kept), (12, .pure), (13, .pure)] mixed (by kernel_rfl) (fun _ _ _ _ hq => hq) ?_
        refine VD_pure rfl (P_move rfl) rfl rfl rfl ?_
        refine VD_pure rfl (P_fieldAddr0 fo56_8 rfl) rfl rfl rfl ?_
        refine VD_pure rfl (P_fieldAddr0 fo56_9 rfl) rfl rfl rfl ?_
        refine VD_pure rfl (P_fieldAddr0 fo56_10 rfl) rfl rfl rfl ?_
        refine VD_read rfl (R_load sg31 rfl (mc_blk hb3 rfl)) rfl rfl rfl ?_
        refine VD_read rfl (R_load sg31 rfl (mc_blk hb3 rfl)) rfl rfl rfl ?_
        refine VD_read rfl (R_load sg31 rfl (mc_blk hb3 rfl)) rfl rfl rfl ?_
        have L4 := hle2.stored (kL.out.none hn1) hl2
        have hbb := (hl2 _ (ne_of kB.out hn1)).trans hb2
        clear kB hb1 hl1 hb2 hle2 hat hl2 hn2 kL hn1
        have kL := Kept.mk L4
        clear L4
        refine VD_kept rfl (E_call cl22 rfl ((s1 _ kL.out)) rfl ?_) rfl
        rintro _ h3 ⟨w1, rfl, x1, y1, _, m1⟩
        refine ⟨m1, ?_⟩
        replace kL := Kept.mk (kL.out.trans m1)
        replace hb3 := m1 _ _ hb3
        replace hbb := m1 _ _ hbb
        clear m1
        refine VD_pure rfl (P_add rfl rfl (w64 (by omega) (by omega))) rfl rfl rfl ?_
        refine VD_kept rfl (E_call cl22 rfl ((s2 _ kL.out)) rfl ?_) rfl
        rintro _ h3 ⟨w2, rfl, x2, y2, _, m1⟩
        refine ⟨m1, ?_⟩
        replace kL := Kept.mk (kL.out.trans m1)
        replace hb3 := m1 _ _ hb3
        replace hbb := m1 _ _ hbb
        clear m1
        refine VD_pure rfl (P_add rfl rfl (w64 (by omega) (by omega))) rfl rfl rfl ?_
        refine VD_kept rfl (E_call cl22 rfl ((s3 _ kL.out)) rfl ?_) rfl
        rintro _ h3 ⟨w3, rfl, x3, y3, _, m1⟩
        refine ⟨m1, ?_⟩
        replace kL := Kept.mk (kL.out.trans m1)
        replace hb3 := m1 _ _ hb3
        replace hbb := m1 _ _ hbb
        clear m1
        refine VD_pure rfl (P_add rfl rfl (w64 (by omega) (by omega))) rfl rfl rfl ?_
        refine VD_pure rfl (P_assign rfl) rfl rfl rfl ?_
        refine VD_nil ?_
        refine blockQ_normal ?_
        refine thenQ_normal ?_
        refine T_region ?_
        refine V_pure (P_move rfl) rfl rfl rfl ?_
        refine V_pure (P_add rfl rfl (w64 (by omega) (by omega))) rfl rfl rfl ?_
        refine V_pure (P_assign rfl) rfl rfl rfl ?_
        refine V_nil ?_
        exact ⟨(i + 1, z + w1 + w2 + w3), ⟨rfl, rfl, rfl, trivial⟩, ⟨by simp only; omega, by simp only; omega, by simp only; omega, hbb, kL.out⟩, by show len - (i + 1) < len - i; omega⟩
      · refine T_seq ?_
        refine T_seq ?_
        refine T_region ?_
        refine V_pure (P_move rfl) rfl rfl rfl ?_
        refine V_pure (P_fieldAddr0 fo44_0 rfl) rfl rfl rfl ?_
        refine V_read (R_load sg40 rfl (mc_blk hb2 rfl)) rfl rfl rfl ?_
        refine V_pure (P_len il40 rfl) rfl rfl rfl ?_
        refine V_pure (dt (P_lss rfl rfl) (by first | assumption | rfl | omega | decide)) rfl rfl rfl ?_
        refine V_pure (P_move rfl) rfl rfl rfl ?_
        refine V_pure (P_move rfl) rfl rfl rfl ?_
        refine V_pure (df (P_leq rfl rfl) (by first | assumption | omega | decide | exact fun hx => hx (by assumption))) rfl rfl rfl ?_
        refine V_pure (P_pick_t rfl rfl) rfl rfl rfl ?_
        refine V_nil ?_
        refine thenQ_normal ?_
        refine T_false rfl ?_
        refine T_exit ?_
        refine thenQ_exit ?_
        refine roundQ_exit ?_
        refine blockQ_here ?_
        refine thenQ_normal ?_
        refine T_seq ?_
        refine T_seq ?_
        refine T_region ?_
        refine V_pure (P_assign rfl) rfl rfl rfl ?_
        refine V_nil ?_
        refine thenQ_normal ?_
        refine T_block ?_
        refine T_loop (fun y : Unit => [(1, .pointer (some ⟨b1, 0, none⟩)), (3, .int .i64 z), (6, .int .i64 0)]) (fun y h' => mp h' b1 = some (.cells [.slice A len c, .slice none 0 0].toArray 44 (0, 0)) ∧ Le (mp h) (mp h')) (fun y => 0) () ⟨rfl, rfl, rfl, trivial⟩ ⟨hb2, hle2⟩ ?_
        rintro _ h9 ⟨hb9, hle9⟩
        refine T_seq ?_
        refine T_seq ?_
        refine T_region ?_
        refine V_pure (P_move rfl) rfl rfl rfl ?_
        refine V_pure (P_fieldAddr0 fo44_1 rfl) rfl rfl rfl ?_
        refine V_read (R_load sg42 rfl (mc_blk hb9 rfl)) rfl rfl rfl ?_
        refine V_pure (P_len il42 rfl) rfl rfl rfl ?_
        refine V_pure (df (P_lss rfl rfl) (by first | assumption | omega | decide | exact fun hx => hx (by assumption))) rfl rfl rfl ?_
        refine V_pure (P_move rfl) rfl rfl rfl ?_
        refine V_skip rfl rfl rfl ?_
        refine V_skip rfl rfl rfl ?_
        refine V_pure (P_pick_f rfl rfl) rfl rfl rfl ?_
        refine V_nil ?_
        refine thenQ_normal ?_
        refine T_false rfl ?_
        refine T_exit ?_
        refine thenQ_exit ?_
        refine roundQ_exit ?_
        refine blockQ_here ?_
        refine thenQ_normal ?_
        refine T_seq ?_
        refine T_region ?_
        refine V_pure (P_move rfl) rfl rfl rfl ?_
        refine V_pure ((P_gtr rfl rfl)) rfl rfl rfl ?_
        refine V_pure (P_assign rfl) rfl rfl rfl ?_
        refine V_nil ?_
        refine thenQ_normal ?_
        refine T_ret ?_
        refine retQ_ret1 rfl ?_
        exact ⟨⟨_, rfl⟩, hle9⟩
    · refine T_seq ?_
      refine T_seq ?_
      refine T_region ?_
      refine V_pure (P_move rfl) rfl rfl rfl ?_
      refine V_pure (P_fieldAddr0 fo44_0 rfl) rfl rfl rfl ?_
      refine V_read (R_load sg40 rfl (mc_blk hb2 rfl)) rfl rfl rfl ?_
      refine V_pure (P_len il40 rfl) rfl rfl rfl ?_
      refine V_pure (df (P_lss rfl rfl) (by first | assumption | omega | decide | exact fun hx => hx (by assumption))) rfl rfl rfl ?_
      refine V_pure (P_move rfl) rfl rfl rfl ?_
      refine V_skip rfl rfl rfl ?_
      refine V_skip rfl rfl rfl ?_
      refine V_pure (P_pick_f rfl rfl) rfl rfl rfl ?_
      refine V_nil ?_
      refine thenQ_normal ?_
      refine T_false rfl ?_
      refine T_exit ?_
      refine thenQ_exit ?_
      refine roundQ_exit ?_
      refine blockQ_here ?_
      refine thenQ_normal ?_
      refine T_seq ?_
      refine T_seq ?_
      refine T_region ?_
      refine V_pure (P_assign rfl) rfl rfl rfl ?_
      refine V_nil ?_
      refine thenQ_normal ?_
      refine T_block ?_
      refine T_loop (fun y : Unit => [(1, .pointer (some ⟨b1, 0, none⟩)), (3, .int .i64 z), (6, .int .i64 0)]) (fun y h' => mp h' b1 = some (.cells [.slice A len c, .slice none 0 0].toArray 44 (0, 0)) ∧ Le (mp h) (mp h')) (fun y => 0) () ⟨rfl, rfl, rfl, trivial⟩ ⟨hb2, hle2⟩ ?_
      rintro _ h9 ⟨hb9, hle9⟩
      refine T_seq ?_
      refine T_seq ?_
      refine T_region ?_
      refine V_pure (P_move rfl) rfl rfl rfl ?_
      refine V_pure (P_fieldAddr0 fo44_1 rfl) rfl rfl rfl ?_
      refine V_read (R_load sg42 rfl (mc_blk hb9 rfl)) rfl rfl rfl ?_
      refine V_pure (P_len il42 rfl) rfl rfl rfl ?_
      refine V_pure (df (P_lss rfl rfl) (by first | assumption | omega | decide | exact fun hx => hx (by assumption))) rfl rfl rfl ?_
      refine V_pure (P_move rfl) rfl rfl rfl ?_
      refine V_skip rfl rfl rfl ?_
      refine V_skip rfl rfl rfl ?_
      refine V_pure (P_pick_f rfl rfl) rfl rfl rfl ?_
      refine V_nil ?_
      refine thenQ_normal ?_
      refine T_false rfl ?_
      refine T_exit ?_
      refine thenQ_exit ?_
      refine roundQ_exit ?_
      refine blockQ_here ?_
      refine thenQ_normal ?_
      refine T_seq ?_
      refine T_region ?_
      refine V_pure (P_move rfl) rfl rfl rfl ?_
      refine V_pure ((P_gtr rfl rfl)) rfl rfl rfl ?_
      refine V_pure (P_assign rfl) rfl rfl rfl ?_
      refine V_nil ?_
      refine thenQ_normal ?_
      refine T_ret ?_
      refine retQ_ret1 rfl ?_
      exact ⟨⟨_, rfl⟩, hle9⟩
end Go.Proofs.Ytigmehimficmlaa
