/- A part of the proof: contracts of functions of the program. No condition. -/
import Derived.Test.YtigmehimficmlaaFacts
import Derived.Test.YtigmehimficmlaaRows
import Derived.Test.YtigmehimficmlaaLaP
namespace Go.Proofs.Ytigmehimficmlaa
open Go.Eng La

def lab (a : Int) : Value := .int .i8 a
theorem known_ok (h : Heap) (a : Int) : C Try.prog 25 [lab a].toArray h fun v h' => v = lab (knownP a) ∧ h' = h := by
  refine C_of [2] Try.func25 rfl rfl rfl ?_
  unfold lab
  by_cases h0 : a < 0
  · refine T_seq ?_
    refine T_region ?_
    refine V_pure (P_assign rfl) rfl rfl rfl ?_
    refine V_nil ?_
    refine thenQ_normal ?_
    refine T_seq ?_
    refine T_seq ?_
    refine T_region ?_
    refine V_pure (P_move rfl) rfl rfl rfl ?_
    refine V_pure (dt (P_lss rfl rfl) (by first | assumption | rfl | omega | decide)) rfl rfl rfl ?_
    refine V_pure (P_move rfl) rfl rfl rfl ?_
    refine V_skip rfl rfl rfl ?_
    refine V_skip rfl rfl rfl ?_
    refine V_pure (P_pick_t rfl rfl) rfl rfl rfl ?_
    refine V_nil ?_
    refine thenQ_normal ?_
    refine T_true rfl ?_
    refine T_seq ?_
    refine T_region ?_
    refine V_pure (P_assign rfl) rfl rfl rfl ?_
    refine V_nil ?_
    refine thenQ_normal ?_
    refine T_ret ?_
    refine thenQ_ret ?_
    refine retQ_ret1 rfl ?_
    exact ⟨by rw [knownP, if_pos (.inl h0)], rfl⟩
  · by_cases h3 : 3 < a
    · refine T_seq ?_
      refine T_region ?_
      refine V_pure (P_assign rfl) rfl rfl rfl ?_
      refine V_nil ?_
      refine thenQ_normal ?_
      refine T_seq ?_
      refine T_seq ?_
      refine T_region ?_
      refine V_pure (P_move rfl) rfl rfl rfl ?_
      refine V_pure (df (P_lss rfl rfl) (by first | assumption | omega | decide | exact fun hx => hx (by assumption))) rfl rfl rfl ?_
      refine V_pure (P_move rfl) rfl rfl rfl ?_
      refine V_pure (P_move rfl) rfl rfl rfl ?_
      refine V_pure (dt (P_gtr rfl rfl) (by first | assumption | rfl | omega | decide)) rfl rfl rfl ?_
      refine V_pure (P_pick_f rfl rfl) rfl rfl rfl ?_
      refine V_nil ?_
      refine thenQ_normal ?_
      refine T_true rfl ?_
      refine T_seq ?_
      refine T_region ?_
      refine V_pure (P_assign rfl) rfl rfl rfl ?_
      refine V_nil ?_
      refine thenQ_normal ?_
      refine T_ret ?_
      refine thenQ_ret ?_
      refine retQ_ret1 rfl ?_
      exact ⟨by rw [knownP, if_pos (.inr h3)], rfl⟩
    · refine T_seq ?_
      refine T_region ?_
      refine V_pure (P_assign rfl) rfl rfl rfl ?_
      refine V_nil ?_
      refine thenQ_normal ?_
      refine T_seq ?_
      refine T_seq ?_
      refine T_region ?_
      refine V_pure (P_move rfl) rfl rfl rfl ?_
      refine V_pure (df (P_lss rfl rfl) (by first | assumption | omega | decide | exact fun hx => hx (by assumption))) rfl rfl rfl ?_
      refine V_pure (P_move rfl) rfl rfl rfl ?_
      refine V_pure (P_move rfl) rfl rfl rfl ?_
      refine V_pure (df (P_gtr rfl rfl) (by first | assumption | omega | decide | exact fun hx => hx (by assumption))) rfl rfl rfl ?_
      refine V_pure (P_pick_f rfl rfl) rfl rfl rfl ?_
      refine V_nil ?_
      refine thenQ_normal ?_
      refine T_false rfl ?_
      refine T_skip ?_
      refine thenQ_normal ?_
      refine T_seq ?_
      refine T_region ?_
      refine V_pure (P_move rfl) rfl rfl rfl ?_
      refine V_pure (P_assign rfl) rfl rfl rfl ?_
      refine V_nil ?_
      refine thenQ_normal ?_
      refine T_ret ?_
      refine retQ_ret1 rfl ?_
      exact ⟨by rw [knownP, if_neg (by omega)], rfl⟩
def joinsL : List Value := [lab 0, lab 1, lab 2, lab 3, lab 1, lab 1, lab 3, lab 3, lab 2, lab 3, lab 2, lab 3, lab 3, lab 3, lab 3, lab 3]
theorem joins_ok (h : Heap) : C Try.prog 24 [].toArray h fun v h' => v = .agg joinsL.toArray ∧ Le (mp h) (mp h') := by
  refine C_ofc [.cell 0 58] Try.func24 rfl rfl rfl ?_
  refine T_seq ?_
  refine T_region ?_
  refine V_step (E_alloc zl58 rfl (fun b1 h1 hn1 hb1 hl1 => ?_)) rfl
  refine V_nil ?_
  refine thenQ_normal ?_
  refine T_seq ?_
  refine T_region ?_
  refine V_pure (P_buildArr ar57 zl57 rfl rfl) rfl rfl rfl ?_
  refine V_pure (P_buildArr ar57 zl57 rfl rfl) rfl rfl rfl ?_
  refine V_pure (P_buildArr ar57 zl57 rfl rfl) rfl rfl rfl ?_
  refine V_pure (P_buildArr ar57 zl57 rfl rfl) rfl rfl rfl ?_
  refine V_pure (P_buildArr ar58 zl58 rfl rfl) rfl rfl rfl ?_
  refine V_step (E_storeAgg ag58 rfl rfl rfl hb1 rfl rfl (fun h2 hb2 hl2 hn2 => ?_)) rfl
  refine V_nil ?_
  refine thenQ_normal ?_
  refine T_ret ?_
  refine retC_blk rfl hb2 ag58 ?_
  refine ⟨rfl, fun k o hk => ?_⟩
  rw [hl2 k (ne_of hk hn1)]
  exact hl1 k o hk
theorem joins_at (a b : Int) : vnth ((joinsL.drop ((knownP a).toNat * 4)).take 4) ((knownP b).toNat * 1) = some (lab (joinP a b)) := by
  unfold joinP
  rcases knownP_cases a with ha | ha | ha | ha <;> rcases knownP_cases b with hb | hb | hb | hb <;> rw [ha, hb] <;> rfl
theorem Join_ok (h : Heap) (a b : Int) : C Try.prog 13 [lab a, lab b].toArray h fun v h' => v = lab (joinP a b) ∧ Le (mp h) (mp h') := by
  refine C_of [4] Try.func13 rfl rfl rfl ?_
  have ha := knownP_range a
  have hb := knownP_range b
  have hj := joins_at a b
  refine T_seq ?_
  refine T_region ?_
  refine V_pure (P_assign rfl) rfl rfl rfl ?_
  refine V_nil ?_
  refine thenQ_normal ?_
  refine T_seq ?_
  refine T_draw [(1, .pure), (4, .pure), (0, .kept), (2, .kept), (3, .pure), (5, .kept), (6, .pure), (7, .pure)] mixed (by kernel_rfl) (fun _ _ _ _ hq => hq) ?_
  refine VD_pure rfl (P_move rfl) rfl rfl rfl ?_
  refine VD_pure rfl (P_move rfl) rfl rfl rfl ?_
  refine VD_kept rfl (E_call cl24 rfl ((joins_ok h)) rfl ?_) rfl
  rintro _ h1 ⟨rfl, hl⟩
  refine ⟨hl, ?_⟩
  refine VD_kept rfl (E_call cl25 rfl ((known_ok h1 a)) rfl ?_) rfl
  rintro _ h1 ⟨rfl, rfl⟩
  refine ⟨Le.refl _, ?_⟩
  refine VD_pure rfl (P_indexA ar58 ara58 rfl rfl (by omega) (by omega)) rfl rfl rfl ?_
  refine VD_kept rfl (E_call cl25 rfl ((known_ok h1 b)) rfl ?_) rfl
  rintro _ h1 ⟨rfl, rfl⟩
  refine ⟨Le.refl _, ?_⟩
  refine VD_pure rfl ((P_index1 ar57 ars57 rfl rfl hb.1 (by omega) hj)) rfl rfl rfl ?_
  refine VD_pure rfl (P_assign rfl) rfl rfl rfl ?_
  refine VD_nil ?_
  refine thenQ_normal ?_
  refine T_ret ?_
  refine retQ_ret1 rfl ?_
  exact ⟨rfl, hl⟩
def lbool (b : Bool) : Value := .bool b
theorem Flows_ok (h : Heap) (a b : Int) : C Try.prog 15 [lab a, lab b].toArray h fun v h' => v = .bool (flowsP a b) ∧ Le (mp h) (mp h') := by
  refine C_of [4] Try.func15 rfl rfl rfl ?_
  refine T_seq ?_
  refine T_region ?_
  refine V_pure (P_assign rfl) rfl rfl rfl ?_
  refine V_nil ?_
  refine thenQ_normal ?_
  refine T_seq ?_
  refine T_region ?_
  refine V_pure (P_move rfl) rfl rfl rfl ?_
  refine V_pure (P_move rfl) rfl rfl rfl ?_
  refine V_step (E_call cl13 rfl ((Join_ok h a b)) rfl ?_) rfl
  rintro _ h1 ⟨rfl, hl⟩
  refine V_pure (P_move rfl) rfl rfl rfl ?_
  refine V_step (E_call cl25 rfl ((known_ok h1 b)) rfl ?_) rfl
  rintro _ h1 ⟨rfl, rfl⟩
  refine V_pure ((P_eql rfl rfl)) rfl rfl rfl ?_
  refine V_pure (P_assign rfl) rfl rfl rfl ?_
  refine V_nil ?_
  refine thenQ_normal ?_
  refine T_ret ?_
  refine retQ_ret1 rfl ?_
  exact ⟨rfl, hl⟩
theorem JoinR_ok (h : Heap) (a b : Int) : C Try.prog 14 [lab a, lab b].toArray h fun v h' => v = lab (joinP a b) ∧ h' = h := by
  refine C_of [4] Try.func14 rfl rfl rfl ?_
  unfold lab
  have h3a : a < 0 ∨ 3 < a ∨ (0 ≤ a ∧ a ≤ 3) := by omega
  have h3b : b < 0 ∨ 3 < b ∨ (0 ≤ b ∧ b ≤ 3) := by omega
  rcases h3a with ha | ha | ha
  · have hka : knownP a = 3 := by unfold knownP; rw [if_pos (.inl ha)]
    rcases h3b with hb | hb | hb
    · have hkb : knownP b = 3 := by unfold knownP; rw [if_pos (.inl hb)]
      refine T_seq ?_
      refine T_region ?_
      refine V_pure (P_assign rfl) rfl rfl rfl ?_
      refine V_nil ?_
      refine thenQ_normal ?_
      refine T_seq ?_
      refine T_seq ?_
      refine T_region ?_
      refine V_pure (P_move rfl) rfl rfl rfl ?_
      refine V_pure (dt (P_lss rfl rfl) (by first | assumption | rfl | omega | decide)) rfl rfl rfl ?_
      refine V_pure (P_move rfl) rfl rfl rfl ?_
      refine V_skip rfl rfl rfl ?_
      refine V_skip rfl rfl rfl ?_
      refine V_pure (P_pick_t rfl rfl) rfl rfl rfl ?_
      refine V_nil ?_
      refine thenQ_normal ?_
      refine T_true rfl ?_
      refine T_region ?_
      refine V_pure (P_assign rfl) rfl rfl rfl ?_
      refine V_nil ?_
      refine thenQ_normal ?_
      refine T_seq ?_
      refine T_seq ?_
      refine T_region ?_
      refine V_pure (P_move rfl) rfl rfl rfl ?_
      refine V_pure (dt (P_lss rfl rfl) (by first | assumption | rfl | omega | decide)) rfl rfl rfl ?_
      refine V_pure (P_move rfl) rfl rfl rfl ?_
      refine V_skip rfl rfl rfl ?_
      refine V_skip rfl rfl rfl ?_
      refine V_pure (P_pick_t rfl rfl) rfl rfl rfl ?_
      refine V_nil ?_
      refine thenQ_normal ?_
      refine T_true rfl ?_
      refine T_region ?_
      refine V_pure (P_assign rfl) rfl rfl rfl ?_
      refine V_nil ?_
      refine thenQ_normal ?_
      refine T_seq ?_
      refine T_block ?_
      refine T_seq ?_
      refine T_region ?_
      refine V_pure (P_move rfl) rfl rfl rfl ?_
      refine V_pure (P_move rfl) rfl rfl rfl ?_
      refine V_pure (dt (P_eql rfl rfl) (by first | assumption | rfl | omega | decide)) rfl rfl rfl ?_
      refine V_pure (P_move rfl) rfl rfl rfl ?_
      refine V_skip rfl rfl rfl ?_
      refine V_skip rfl rfl rfl ?_
      refine V_pure (P_pick_t rfl rfl) rfl rfl rfl ?_
      refine V_pure (P_assign rfl) rfl rfl rfl ?_
      refine V_nil ?_
      refine thenQ_normal ?_
      refine T_true rfl ?_
      refine T_seq ?_
      refine T_region ?_
      refine V_pure (P_move rfl) rfl rfl rfl ?_
      refine V_pure (P_assign rfl) rfl rfl rfl ?_
      refine V_nil ?_
      refine thenQ_normal ?_
      refine T_ret ?_
      refine blockQ_ret ?_
      refine thenQ_ret ?_
      refine retQ_ret1 rfl ?_
      exact ⟨congrArg (Value.int .i8) (by rw [joinP, hka, hkb]; unfold joinK; (repeat' split) <;> omega), rfl⟩
    · have hkb : knownP b = 3 := by unfold knownP; rw [if_pos (.inr hb)]
      refine T_seq ?_
      refine T_region ?_
      refine V_pure (P_assign rfl) rfl rfl rfl ?_
      refine V_nil ?_
      refine thenQ_normal ?_
      refine T_seq ?_
      refine T_seq ?_
      refine T_region ?_
      refine V_pure (P_move rfl) rfl rfl rfl ?_
      refine V_pure (dt (P_lss rfl rfl) (by first | assumption | rfl | omega | decide)) rfl rfl rfl ?_
      refine V_pure (P_move rfl) rfl rfl rfl ?_
      refine V_skip rfl rfl rfl ?_
      refine V_skip rfl rfl rfl ?_
      refine V_pure (P_pick_t rfl rfl) rfl rfl rfl ?_
      refine V_nil ?_
      refine thenQ_normal ?_
      refine T_true rfl ?_
      refine T_region ?_
      refine V_pure (P_assign rfl) rfl rfl rfl ?_
      refine V_nil ?_
      refine thenQ_normal ?_
      refine T_seq ?_
      refine T_seq ?_
      refine T_region ?_
      refine V_pure (P_move rfl) rfl rfl rfl ?_
      refine V_pure (df (P_lss rfl rfl) (by first | assumption | omega | decide | exact fun hx => hx (by assumption))) rfl rfl rfl ?_
      refine V_pure (P_move rfl) rfl rfl rfl ?_
      refine V_pure (P_move rfl) rfl rfl rfl ?_
      refine V_pure (dt (P_gtr rfl rfl) (by first | assumption | rfl | omega | decide)) rfl rfl rfl ?_
      refine V_pure (P_pick_f rfl rfl) rfl rfl rfl ?_
      refine V_nil ?_
      refine thenQ_normal ?_
      refine T_true rfl ?_
      refine T_region ?_
      refine V_pure (P_assign rfl) rfl rfl rfl ?_
      refine V_nil ?_
      refine thenQ_normal ?_
      refine T_seq ?_
      refine T_block ?_
      refine T_seq ?_
      refine T_region ?_
      refine V_pure (P_move rfl) rfl rfl rfl ?_
      refine V_pure (P_move rfl) rfl rfl rfl ?_
      refine V_pure (dt (P_eql rfl rfl) (by first | assumption | rfl | omega | decide)) rfl rfl rfl ?_
      refine V_pure (P_move rfl) rfl rfl rfl ?_
      refine V_skip rfl rfl rfl ?_
      refine V_skip rfl rfl rfl ?_
      refine V_pure (P_pick_t rfl rfl) rfl rfl rfl ?_
      refine V_pure (P_assign rfl) rfl rfl rfl ?_
      refine V_nil ?_
      refine thenQ_normal ?_
      refine T_true rfl ?_
      refine T_seq ?_
      refine T_region ?_
      refine V_pure (P_move rfl) rfl rfl rfl ?_
      refine V_pure (P_assign rfl) rfl rfl rfl ?_
      refine V_nil ?_
      refine thenQ_normal ?_
      refine T_ret ?_
      refine blockQ_ret ?_
      refine thenQ_ret ?_
      refine retQ_ret1 rfl ?_
      exact ⟨congrArg (Value.int .i8) (by rw [joinP, hka, hkb]; unfold joinK; (repeat' split) <;> omega), rfl⟩
    · have hkb : knownP b = b := knownP_id hb
      obtain ⟨hb0, hb3⟩ := hb
      refine T_seq ?_
      refine T_region ?_
      refine V_pure (P_assign rfl) rfl rfl rfl ?_
      refine V_nil ?_
      refine thenQ_normal ?_
      refine T_seq ?_
      refine T_seq ?_
      refine T_region ?_
      refine V_pure (P_move rfl) rfl rfl rfl ?_
      refine V_pure (dt (P_lss rfl rfl) (by first | assumption | rfl | omega | decide)) rfl rfl rfl ?_
      refine V_pure (P_move rfl) rfl rfl rfl ?_
      refine V_skip rfl rfl rfl ?_
      refine V_skip rfl rfl rfl ?_
      refine V_pure (P_pick_t rfl rfl) rfl rfl rfl ?_
      refine V_nil ?_
      refine thenQ_normal ?_
      refine T_true rfl ?_
      refine T_region ?_
      refine V_pure (P_assign rfl) rfl rfl rfl ?_
      refine V_nil ?_
      refine thenQ_normal ?_
      refine T_seq ?_
      refine T_seq ?_
      refine T_region ?_
      refine V_pure (P_move rfl) rfl rfl rfl ?_
      refine V_pure (df (P_lss rfl rfl) (by first | assumption | omega | decide | exact fun hx => hx (by assumption))) rfl rfl rfl ?_
      refine V_pure (P_move rfl) rfl rfl rfl ?_
      refine V_pure (P_move rfl) rfl rfl rfl ?_
      refine V_pure (df (P_gtr rfl rfl) (by first | assumption | omega | decide | exact fun hx => hx (by assumption))) rfl rfl rfl ?_
      refine V_pure (P_pick_f rfl rfl) rfl rfl rfl ?_
      refine V_nil ?_
      refine thenQ_normal ?_
      refine T_false rfl ?_
      refine T_skip ?_
      refine thenQ_normal ?_
      refine T_seq ?_
      refine T_block ?_
      refine T_seq ?_
      refine T_region ?_
      refine V_pure (P_move rfl) rfl rfl rfl ?_
      refine V_pure (P_move rfl) rfl rfl rfl ?_
      refine V_if (P_eql rfl rfl) rfl rfl rfl (fun hc1 => ?_) (fun hc1 => ?_)
      refine V_pure (P_move rfl) rfl rfl rfl ?_
      refine V_skip rfl rfl rfl ?_
      refine V_skip rfl rfl rfl ?_
      refine V_pure (P_pick_t rfl rfl) rfl rfl rfl ?_
      refine V_pure (P_assign rfl) rfl rfl rfl ?_
      refine V_nil ?_
      refine thenQ_normal ?_
      refine T_true rfl ?_
      refine T_seq ?_
      refine T_region ?_
      refine V_pure (P_move rfl) rfl rfl rfl ?_
      refine V_pure (P_assign rfl) rfl rfl rfl ?_
      refine V_nil ?_
      refine thenQ_normal ?_
      refine T_ret ?_
      refine blockQ_ret ?_
      refine thenQ_ret ?_
      refine retQ_ret1 rfl ?_
      exact ⟨congrArg (Value.int .i8) (by rw [joinP, hka, hkb]; unfold joinK; (repeat' split) <;> omega), rfl⟩
      refine V_pure (P_move rfl) rfl rfl rfl ?_
      refine V_pure (P_move rfl) rfl rfl rfl ?_
      refine V_if (P_eql rfl rfl) rfl rfl rfl (fun hc2 => ?_) (fun hc2 => ?_)
      refine V_pure (P_pick_f rfl rfl) rfl rfl rfl ?_
      refine V_pure (P_assign rfl) rfl rfl rfl ?_
      refine V_nil ?_
      refine thenQ_normal ?_
      refine T_true rfl ?_
      refine T_seq ?_
      refine T_region ?_
      refine V_pure (P_move rfl) rfl rfl rfl ?_
      refine V_pure (P_assign rfl) rfl rfl rfl ?_
      refine V_nil ?_
      refine thenQ_normal ?_
      refine T_ret ?_
      refine blockQ_ret ?_
      refine thenQ_ret ?_
      refine retQ_ret1 rfl ?_
      exact ⟨congrArg (Value.int .i8) (by rw [joinP, hka, hkb]; unfold joinK; (repeat' split) <;> omega), rfl⟩
      refine V_pure (P_pick_f rfl rfl) rfl rfl rfl ?_
      refine V_pure (P_assign rfl) rfl rfl rfl ?_
      refine V_nil ?_
      refine thenQ_normal ?_
      refine T_false rfl ?_
      refine T_seq ?_
      refine T_region ?_
      refine V_pure (P_move rfl) rfl rfl rfl ?_
      refine V_pure (df (P_eql rfl rfl) (by first | assumption | omega | decide | exact fun hx => hx (by assumption))) rfl rfl rfl ?_
      refine V_pure (P_assign rfl) rfl rfl rfl ?_
      refine V_nil ?_
      refine thenQ_normal ?_
      refine T_false rfl ?_
      refine T_skip ?_
      refine blockQ_normal ?_
      refine thenQ_normal ?_
      refine T_seq ?_
      refine T_region ?_
      refine V_pure (P_assign rfl) rfl rfl rfl ?_
      refine V_nil ?_
      refine thenQ_normal ?_
      refine T_ret ?_
      refine retQ_ret1 rfl ?_
      exact ⟨congrArg (Value.int .i8) (by rw [joinP, hka, hkb]; unfold joinK; (repeat' split) <;> omega), rfl⟩
  · have hka : knownP a = 3 := by unfold knownP; rw [if_pos (.inr ha)]
    rcases h3b with hb | hb | hb
    · have hkb : knownP b = 3 := by unfold knownP; rw [if_pos (.inl hb)]
      refine T_seq ?_
      refine T_region ?_
      refine V_pure (P_assign rfl) rfl rfl rfl ?_
      refine V_nil ?_
      refine thenQ_normal ?_
      refine T_seq ?_
      refine T_seq ?_
      refine T_region ?_
      refine V_pure (P_move rfl) rfl rfl rfl ?_
      refine V_pure (df (P_lss rfl rfl) (by first | assumption | omega | decide | exact fun hx => hx (by assumption))) rfl rfl rfl ?_
      refine V_pure (P_move rfl) rfl rfl rfl ?_
      refine V_pure (P_move rfl) rfl rfl rfl ?_
      refine V_pure (dt (P_gtr rfl rfl) (by first | assumption | rfl | omega | decide)) rfl rfl rfl ?_
      refine V_pure (P_pick_f rfl rfl) rfl rfl rfl ?_
      refine V_nil ?_
      refine thenQ_normal ?_
      refine T_true rfl ?_
      refine T_region ?_
      refine V_pure (P_assign rfl) rfl rfl rfl ?_
      refine V_nil ?_
      refine thenQ_normal ?_
      refine T_seq ?_
      refine T_seq ?_
      refine T_region ?_
      refine V_pure (P_move rfl) rfl rfl rfl ?_
      refine V_pure (dt (P_lss rfl rfl) (by first | assumption | rfl | omega | decide)) rfl rfl rfl ?_
      refine V_pure (P_move rfl) rfl rfl rfl ?_
      refine V_skip rfl rfl rfl ?_
      refine V_skip rfl rfl rfl ?_
      refine V_pure (P_pick_t rfl rfl) rfl rfl rfl ?_
      refine V_nil ?_
      refine thenQ_normal ?_
      refine T_true rfl ?_
      refine T_region ?_
      refine V_pure (P_assign rfl) rfl rfl rfl ?_
      refine V_nil ?_
      refine thenQ_normal ?_
      refine T_seq ?_
      refine T_block ?_
      refine T_seq ?_
      refine T_region ?_
      refine V_pure (P_move rfl) rfl rfl rfl ?_
      refine V_pure (P_move rfl) rfl rfl rfl ?_
      refine V_pure (dt (P_eql rfl rfl) (by first | assumption | rfl | omega | decide)) rfl rfl rfl ?_
      refine V_pure (P_move rfl) rfl rfl rfl ?_
      refine V_skip rfl rfl rfl ?_
      refine V_skip rfl rfl rfl ?_
      refine V_pure (P_pick_t rfl rfl) rfl rfl rfl ?_
      refine V_pure (P_assign rfl) rfl rfl rfl ?_
      refine V_nil ?_
      refine thenQ_normal ?_
      refine T_true rfl ?_
      refine T_seq ?_
      refine T_region ?_
      refine V_pure (P_move rfl) rfl rfl rfl ?_
      refine V_pure (P_assign rfl) rfl rfl rfl ?_
      refine V_nil ?_
      refine thenQ_normal ?_
      refine T_ret ?_
      refine blockQ_ret ?_
      refine thenQ_ret ?_
      refine retQ_ret1 rfl ?_
      exact ⟨congrArg (Value.int .i8) (by rw [joinP, hka, hkb]; unfold joinK; (repeat' split) <;> omega), rfl⟩
    · have hkb : knownP b = 3 := by unfold knownP; rw [if_pos (.inr hb)]
      refine T_seq ?_
      refine T_region ?_
      refine V_pure (P_assign rfl) rfl rfl rfl ?_
      refine V_nil ?_
      refine thenQ_normal ?_
      refine T_seq ?_
      refine T_seq ?_
      refine T_region ?_
      refine V_pure (P_move rfl) rfl rfl rfl ?_
      refine V_pure (df (P_lss rfl rfl) (by first | assumption | omega | decide | exact fun hx => hx (by assumption))) rfl rfl rfl ?_
      refine V_pure (P_move rfl) rfl rfl rfl ?_
      refine V_pure (P_move rfl) rfl rfl rfl ?_
      refine V_pure (dt (P_gtr rfl rfl) (by first | assumption | rfl | omega | decide)) rfl rfl rfl ?_
      refine V_pure (P_pick_f rfl rfl) rfl rfl rfl ?_
      refine V_nil ?_
      refine thenQ_normal ?_
      refine T_true rfl ?_
      refine T_region ?_
      refine V_pure (P_assign rfl) rfl rfl rfl ?_
      refine V_nil ?_
      refine thenQ_normal ?_
      refine T_seq ?_
      refine T_seq ?_
      refine T_region ?_
      refine V_pure (P_move rfl) rfl rfl rfl ?_
      refine V_pure (df (P_lss rfl rfl) (by first | assumption | omega | decide | exact fun hx => hx (by assumption))) rfl rfl rfl ?_
      refine V_pure (P_move rfl) rfl rfl rfl ?_
      refine V_pure (P_move rfl) rfl rfl rfl ?_
      refine V_pure (dt (P_gtr rfl rfl) (by first | assumption | rfl | omega | decide)) rfl rfl rfl ?_
      refine V_pure (P_pick_f rfl rfl) rfl rfl rfl ?_
      refine V_nil ?_
      refine thenQ_normal ?_
      refine T_true rfl ?_
      refine T_region ?_
      refine V_pure (P_assign rfl) rfl rfl rfl ?_
      refine V_nil ?_
      refine thenQ_normal ?_
      refine T_seq ?_
      refine T_block ?_
      refine T_seq ?_
      refine T_region ?_
      refine V_pure (P_move rfl) rfl rfl rfl ?_
      refine V_pure (P_move rfl) rfl rfl rfl ?_
      refine V_pure (dt (P_eql rfl rfl) (by first | assumption | rfl | omega | decide)) rfl rfl rfl ?_
      refine V_pure (P_move rfl) rfl rfl rfl ?_
      refine V_skip rfl rfl rfl ?_
      refine V_skip rfl rfl rfl ?_
      refine V_pure (P_pick_t rfl rfl) rfl rfl rfl ?_
      refine V_pure (P_assign rfl) rfl rfl rfl ?_
      refine V_nil ?_
      refine thenQ_normal ?_
      refine T_true rfl ?_
      refine T_seq ?_
      refine T_region ?_
      refine V_pure (P_move rfl) rfl rfl rfl ?_
      refine V_pure (P_assign rfl) rfl rfl rfl ?_
      refine V_nil ?_
      refine thenQ_normal ?_
      refine T_ret ?_
      refine blockQ_ret ?_
      refine thenQ_ret ?_
      refine retQ_ret1 rfl ?_
      exact ⟨congrArg (Value.int .i8) (by rw [joinP, hka, hkb]; unfold joinK; (repeat' split) <;> omega), rfl⟩
    · have hkb : knownP b = b := knownP_id hb
      obtain ⟨hb0, hb3⟩ := hb
      refine T_seq ?_
      refine T_region ?_
      refine V_pure (P_assign rfl) rfl rfl rfl ?_
      refine V_nil ?_
      refine thenQ_normal ?_
      refine T_seq ?_
      refine T_seq ?_
      refine T_region ?_
      refine V_pure (P_move rfl) rfl rfl rfl ?_
      refine V_pure (df (P_lss rfl rfl) (by first | assumption | omega | decide | exact fun hx => hx (by assumption))) rfl rfl rfl ?_
      refine V_pure (P_move rfl) rfl rfl rfl ?_
      refine V_pure (P_move rfl) rfl rfl rfl ?_
      refine V_pure (dt (P_gtr rfl rfl) (by first | assumption | rfl | omega | decide)) rfl rfl rfl ?_
      refine V_pure (P_pick_f rfl rfl) rfl rfl rfl ?_
      refine V_nil ?_
      refine thenQ_normal ?_
      refine T_true rfl ?_
      refine T_region ?_
      refine V_pure (P_assign rfl) rfl rfl rfl ?_
      refine V_nil ?_
      refine thenQ_normal ?_
      refine T_seq ?_
      refine T_seq ?_
      refine T_region ?_
      refine V_pure (P_move rfl) rfl rfl rfl ?_
      refine V_pure (df (P_lss rfl rfl) (by first | assumption | omega | decide | exact fun hx => hx (by assumption))) rfl rfl rfl ?_
      refine V_pure (P_move rfl) rfl rfl rfl ?_
      refine V_pure (P_move rfl) rfl rfl rfl ?_
      refine V_pure (df (P_gtr rfl rfl) (by first | assumption | omega | decide | exact fun hx => hx (by assumption))) rfl rfl rfl ?_
      refine V_pure (P_pick_f rfl rfl) rfl rfl rfl ?_
      refine V_nil ?_
      refine thenQ_normal ?_
      refine T_false rfl ?_
      refine T_skip ?_
      refine thenQ_normal ?_
      refine T_seq ?_
      refine T_block ?_
      refine T_seq ?_
      refine T_region ?_
      refine V_pure (P_move rfl) rfl rfl rfl ?_
      refine V_pure (P_move rfl) rfl rfl rfl ?_
      refine V_if (P_eql rfl rfl) rfl rfl rfl (fun hc1 => ?_) (fun hc1 => ?_)
      refine V_pure (P_move rfl) rfl rfl rfl ?_
      refine V_skip rfl rfl rfl ?_
      refine V_skip rfl rfl rfl ?_
      refine V_pure (P_pick_t rfl rfl) rfl rfl rfl ?_
      refine V_pure (P_assign rfl) rfl rfl rfl ?_
      refine V_nil ?_
      refine thenQ_normal ?_
      refine T_true rfl ?_
      refine T_seq ?_
      refine T_region ?_
      refine V_pure (P_move rfl) rfl rfl rfl ?_
      refine V_pure (P_assign rfl) rfl rfl rfl ?_
      refine V_nil ?_
      refine thenQ_normal ?_
      refine T_ret ?_
      refine blockQ_ret ?_
      refine thenQ_ret ?_
      refine retQ_ret1 rfl ?_
      exact ⟨congrArg (Value.int .i8) (by rw [joinP, hka, hkb]; unfold joinK; (repeat' split) <;> omega), rfl⟩
      refine V_pure (P_move rfl) rfl rfl rfl ?_
      refine V_pure (P_move rfl) rfl rfl rfl ?_
      refine V_if (P_eql rfl rfl) rfl rfl rfl (fun hc2 => ?_) (fun hc2 => ?_)
      refine V_pure (P_pick_f rfl rfl) rfl rfl rfl ?_
      refine V_pure (P_assign rfl) rfl rfl rfl ?_
      refine V_nil ?_
      refine thenQ_normal ?_
      refine T_true rfl ?_
      refine T_seq ?_
      refine T_region ?_
      refine V_pure (P_move rfl) rfl rfl rfl ?_
      refine V_pure (P_assign rfl) rfl rfl rfl ?_
      refine V_nil ?_
      refine thenQ_normal ?_
      refine T_ret ?_
      refine blockQ_ret ?_
      refine thenQ_ret ?_
      refine retQ_ret1 rfl ?_
      exact ⟨congrArg (Value.int .i8) (by rw [joinP, hka, hkb]; unfold joinK; (repeat' split) <;> omega), rfl⟩
      refine V_pure (P_pick_f rfl rfl) rfl rfl rfl ?_
      refine V_pure (P_assign rfl) rfl rfl rfl ?_
      refine V_nil ?_
      refine thenQ_normal ?_
      refine T_false rfl ?_
      refine T_seq ?_
      refine T_region ?_
      refine V_pure (P_move rfl) rfl rfl rfl ?_
      refine V_pure (df (P_eql rfl rfl) (by first | assumption | omega | decide | exact fun hx => hx (by assumption))) rfl rfl rfl ?_
      refine V_pure (P_assign rfl) rfl rfl rfl ?_
      refine V_nil ?_
      refine thenQ_normal ?_
      refine T_false rfl ?_
      refine T_skip ?_
      refine blockQ_normal ?_
      refine thenQ_normal ?_
      refine T_seq ?_
      refine T_region ?_
      refine V_pure (P_assign rfl) rfl rfl rfl ?_
      refine V_nil ?_
      refine thenQ_normal ?_
      refine T_ret ?_
      refine retQ_ret1 rfl ?_
      exact ⟨congrArg (Value.int .i8) (by rw [joinP, hka, hkb]; unfold joinK; (repeat' split) <;> omega), rfl⟩
  · have hka : knownP a = a := knownP_id ha
    obtain ⟨ha0, ha3⟩ := ha
    rcases h3b with hb | hb | hb
    · have hkb : knownP b = 3 := by unfold knownP; rw [if_pos (.inl hb)]
      refine T_seq ?_
      refine T_region ?_
      refine V_pure (P_assign rfl) rfl rfl rfl ?_
      refine V_nil ?_
      refine thenQ_normal ?_
      refine T_seq ?_
      refine T_seq ?_
      refine T_region ?_
      refine V_pure (P_move rfl) rfl rfl rfl ?_
      refine V_pure (df (P_lss rfl rfl) (by first | assumption | omega | decide | exact fun hx => hx (by assumption))) rfl rfl rfl ?_
      refine V_pure (P_move rfl) rfl rfl rfl ?_
      refine V_pure (P_move rfl) rfl rfl rfl ?_
      refine V_pure (df (P_gtr rfl rfl) (by first | assumption | omega | decide | exact fun hx => hx (by assumption))) rfl rfl rfl ?_
      refine V_pure (P_pick_f rfl rfl) rfl rfl rfl ?_
      refine V_nil ?_
      refine thenQ_normal ?_
      refine T_false rfl ?_
      refine T_skip ?_
      refine thenQ_normal ?_
      refine T_seq ?_
      refine T_seq ?_
      refine T_region ?_
      refine V_pure (P_move rfl) rfl rfl rfl ?_
      refine V_pure (dt (P_lss rfl rfl) (by first | assumption | rfl | omega | decide)) rfl rfl rfl ?_
      refine V_pure (P_move rfl) rfl rfl rfl ?_
      refine V_skip rfl rfl rfl ?_
      refine V_skip rfl rfl rfl ?_
      refine V_pure (P_pick_t rfl rfl) rfl rfl rfl ?_
      refine V_nil ?_
      refine thenQ_normal ?_
      refine T_true rfl ?_
      refine T_region ?_
      refine V_pure (P_assign rfl) rfl rfl rfl ?_
      refine V_nil ?_
      refine thenQ_normal ?_
      refine T_seq ?_
      refine T_block ?_
      refine T_seq ?_
      refine T_region ?_
      refine V_pure (P_move rfl) rfl rfl rfl ?_
      refine V_pure (P_move rfl) rfl rfl rfl ?_
      refine V_if (P_eql rfl rfl) rfl rfl rfl (fun hc1 => ?_) (fun hc1 => ?_)
      refine V_pure (P_move rfl) rfl rfl rfl ?_
      refine V_skip rfl rfl rfl ?_
      refine V_skip rfl rfl rfl ?_
      refine V_pure (P_pick_t rfl rfl) rfl rfl rfl ?_
      refine V_pure (P_assign rfl) rfl rfl rfl ?_
      refine V_nil ?_
      refine thenQ_normal ?_
      refine T_true rfl ?_
      refine T_seq ?_
      refine T_region ?_
      refine V_pure (P_move rfl) rfl rfl rfl ?_
      refine V_pure (P_assign rfl) rfl rfl rfl ?_
      refine V_nil ?_
      refine thenQ_normal ?_
      refine T_ret ?_
      refine blockQ_ret ?_
      refine thenQ_ret ?_
      refine retQ_ret1 rfl ?_
      exact ⟨congrArg (Value.int .i8) (by rw [joinP, hka, hkb]; unfold joinK; (repeat' split) <;> omega), rfl⟩
      refine V_pure (P_move rfl) rfl rfl rfl ?_
      refine V_pure (P_move rfl) rfl rfl rfl ?_
      refine V_pure (df (P_eql rfl rfl) (by first | assumption | omega | decide | exact fun hx => hx (by assumption))) rfl rfl rfl ?_
      refine V_pure (P_pick_f rfl rfl) rfl rfl rfl ?_
      refine V_pure (P_assign rfl) rfl rfl rfl ?_
      refine V_nil ?_
      refine thenQ_normal ?_
      refine T_false rfl ?_
      refine T_seq ?_
      refine T_region ?_
      refine V_pure (P_move rfl) rfl rfl rfl ?_
      refine V_if (P_eql rfl rfl) rfl rfl rfl (fun hc2 => ?_) (fun hc2 => ?_)
      refine V_pure (P_assign rfl) rfl rfl rfl ?_
      refine V_nil ?_
      refine thenQ_normal ?_
      refine T_true rfl ?_
      refine T_seq ?_
      refine T_region ?_
      refine V_pure (P_move rfl) rfl rfl rfl ?_
      refine V_pure (P_assign rfl) rfl rfl rfl ?_
      refine V_nil ?_
      refine thenQ_normal ?_
      refine T_ret ?_
      refine blockQ_ret ?_
      refine thenQ_ret ?_
      refine retQ_ret1 rfl ?_
      exact ⟨congrArg (Value.int .i8) (by rw [joinP, hka, hkb]; unfold joinK; (repeat' split) <;> omega), rfl⟩
      refine V_pure (P_assign rfl) rfl rfl rfl ?_
      refine V_nil ?_
      refine thenQ_normal ?_
      refine T_false rfl ?_
      refine T_skip ?_
      refine blockQ_normal ?_
      refine thenQ_normal ?_
      refine T_seq ?_
      refine T_region ?_
      refine V_pure (P_assign rfl) rfl rfl rfl ?_
      refine V_nil ?_
      refine thenQ_normal ?_
      refine T_ret ?_
      refine retQ_ret1 rfl ?_
      exact ⟨congrArg (Value.int .i8) (by rw [joinP, hka, hkb]; unfold joinK; (repeat' split) <;> omega), rfl⟩
    · have hkb : knownP b = 3 := by unfold knownP; rw [if_pos (.inr hb)]
      refine T_seq ?_
      refine T_region ?_
      refine V_pure (P_assign rfl) rfl rfl rfl ?_
      refine V_nil ?_
      refine thenQ_normal ?_
      refine T_seq ?_
      refine T_seq ?_
      refine T_region ?_
      refine V_pure (P_move rfl) rfl rfl rfl ?_
      refine V_pure (df (P_lss rfl rfl) (by first | assumption | omega | decide | exact fun hx => hx (by assumption))) rfl rfl rfl ?_
      refine V_pure (P_move rfl) rfl rfl rfl ?_
      refine V_pure (P_move rfl) rfl rfl rfl ?_
      refine V_pure (df (P_gtr rfl rfl) (by first | assumption | omega | decide | exact fun hx => hx (by assumption))) rfl rfl rfl ?_
      refine V_pure (P_pick_f rfl rfl) rfl rfl rfl ?_
      refine V_nil ?_
      refine thenQ_normal ?_
      refine T_false rfl ?_
      refine T_skip ?_
      refine thenQ_normal ?_
      refine T_seq ?_
      refine T_seq ?_
      refine T_region ?_
      refine V_pure (P_move rfl) rfl rfl rfl ?_
      refine V_pure (df (P_lss rfl rfl) (by first | assumption | omega | decide | exact fun hx => hx (by assumption))) rfl rfl rfl ?_
      refine V_pure (P_move rfl) rfl rfl rfl ?_
      refine V_pure (P_move rfl) rfl rfl rfl ?_
      refine V_pure (dt (P_gtr rfl rfl) (by first | assumption | rfl | omega | decide)) rfl rfl rfl ?_
      refine V_pure (P_pick_f rfl rfl) rfl rfl rfl ?_
      refine V_nil ?_
      refine thenQ_normal ?_
      refine T_true rfl ?_
      refine T_region ?_
      refine V_pure (P_assign rfl) rfl rfl rfl ?_
      refine V_nil ?_
      refine thenQ_normal ?_
      refine T_seq ?_
      refine T_block ?_
      refine T_seq ?_
      refine T_region ?_
      refine V_pure (P_move rfl) rfl rfl rfl ?_
      refine V_pure (P_move rfl) rfl rfl rfl ?_
      refine V_if (P_eql rfl rfl) rfl rfl rfl (fun hc1 => ?_) (fun hc1 => ?_)
      refine V_pure (P_move rfl) rfl rfl rfl ?_
      refine V_skip rfl rfl rfl ?_
      refine V_skip rfl rfl rfl ?_
      refine V_pure (P_pick_t rfl rfl) rfl rfl rfl ?_
      refine V_pure (P_assign rfl) rfl rfl rfl ?_
      refine V_nil ?_
      refine thenQ_normal ?_
      refine T_true rfl ?_
      refine T_seq ?_
      refine T_region ?_
      refine V_pure (P_move rfl) rfl rfl rfl ?_
      refine V_pure (P_assign rfl) rfl rfl rfl ?_
      refine V_nil ?_
      refine thenQ_normal ?_
      refine T_ret ?_
      refine blockQ_ret ?_
      refine thenQ_ret ?_
      refine retQ_ret1 rfl ?_
      exact ⟨congrArg (Value.int .i8) (by rw [joinP, hka, hkb]; unfold joinK; (repeat' split) <;> omega), rfl⟩
      refine V_pure (P_move rfl) rfl rfl rfl ?_
      refine V_pure (P_move rfl) rfl rfl rfl ?_
      refine V_pure (df (P_eql rfl rfl) (by first | assumption | omega | decide | exact fun hx => hx (by assumption))) rfl rfl rfl ?_
      refine V_pure (P_pick_f rfl rfl) rfl rfl rfl ?_
      refine V_pure (P_assign rfl) rfl rfl rfl ?_
      refine V_nil ?_
      refine thenQ_normal ?_
      refine T_false rfl ?_
      refine T_seq ?_
      refine T_region ?_
      refine V_pure (P_move rfl) rfl rfl rfl ?_
      refine V_if (P_eql rfl rfl) rfl rfl rfl (fun hc2 => ?_) (fun hc2 => ?_)
      refine V_pure (P_assign rfl) rfl rfl rfl ?_
      refine V_nil ?_
      refine thenQ_normal ?_
      refine T_true rfl ?_
      refine T_seq ?_
      refine T_region ?_
      refine V_pure (P_move rfl) rfl rfl rfl ?_
      refine V_pure (P_assign rfl) rfl rfl rfl ?_
      refine V_nil ?_
      refine thenQ_normal ?_
      refine T_ret ?_
      refine blockQ_ret ?_
      refine thenQ_ret ?_
      refine retQ_ret1 rfl ?_
      exact ⟨congrArg (Value.int .i8) (by rw [joinP, hka, hkb]; unfold joinK; (repeat' split) <;> omega), rfl⟩
      refine V_pure (P_assign rfl) rfl rfl rfl ?_
      refine V_nil ?_
      refine thenQ_normal ?_
      refine T_false rfl ?_
      refine T_skip ?_
      refine blockQ_normal ?_
      refine thenQ_normal ?_
      refine T_seq ?_
      refine T_region ?_
      refine V_pure (P_assign rfl) rfl rfl rfl ?_
      refine V_nil ?_
      refine thenQ_normal ?_
      refine T_ret ?_
      refine retQ_ret1 rfl ?_
      exact ⟨congrArg (Value.int .i8) (by rw [joinP, hka, hkb]; unfold joinK; (repeat' split) <;> omega), rfl⟩
    · have hkb : knownP b = b := knownP_id hb
      obtain ⟨hb0, hb3⟩ := hb
      refine T_seq ?_
      refine T_region ?_
      refine V_pure (P_assign rfl) rfl rfl rfl ?_
      refine V_nil ?_
      refine thenQ_normal ?_
      refine T_seq ?_
      refine T_seq ?_
      refine T_region ?_
      refine V_pure (P_move rfl) rfl rfl rfl ?_
      refine V_pure (df (P_lss rfl rfl) (by first | assumption | omega | decide | exact fun hx => hx (by assumption))) rfl rfl rfl ?_
      refine V_pure (P_move rfl) rfl rfl rfl ?_
      refine V_pure (P_move rfl) rfl rfl rfl ?_
      refine V_pure (df (P_gtr rfl rfl) (by first | assumption | omega | decide | exact fun hx => hx (by assumption))) rfl rfl rfl ?_
      refine V_pure (P_pick_f rfl rfl) rfl rfl rfl ?_
      refine V_nil ?_
      refine thenQ_normal ?_
      refine T_false rfl ?_
      refine T_skip ?_
      refine thenQ_normal ?_
      refine T_seq ?_
      refine T_seq ?_
      refine T_region ?_
      refine V_pure (P_move rfl) rfl rfl rfl ?_
      refine V_pure (df (P_lss rfl rfl) (by first | assumption | omega | decide | exact fun hx => hx (by assumption))) rfl rfl rfl ?_
      refine V_pure (P_move rfl) rfl rfl rfl ?_
      refine V_pure (P_move rfl) rfl rfl rfl ?_
      refine V_pure (df (P_gtr rfl rfl) (by first | assumption | omega | decide | exact fun hx => hx (by assumption))) rfl rfl rfl ?_
      refine V_pure (P_pick_f rfl rfl) rfl rfl rfl ?_
      refine V_nil ?_
      refine thenQ_normal ?_
      refine T_false rfl ?_
      refine T_skip ?_
      refine thenQ_normal ?_
      refine T_seq ?_
      refine T_block ?_
      refine T_seq ?_
      refine T_region ?_
      refine V_pure (P_move rfl) rfl rfl rfl ?_
      refine V_pure (P_move rfl) rfl rfl rfl ?_
      refine V_if (P_eql rfl rfl) rfl rfl rfl (fun hc1 => ?_) (fun hc1 => ?_)
      refine V_pure (P_move rfl) rfl rfl rfl ?_
      refine V_skip rfl rfl rfl ?_
      refine V_skip rfl rfl rfl ?_
      refine V_pure (P_pick_t rfl rfl) rfl rfl rfl ?_
      refine V_pure (P_assign rfl) rfl rfl rfl ?_
      refine V_nil ?_
      refine thenQ_normal ?_
      refine T_true rfl ?_
      refine T_seq ?_
      refine T_region ?_
      refine V_pure (P_move rfl) rfl rfl rfl ?_
      refine V_pure (P_assign rfl) rfl rfl rfl ?_
      refine V_nil ?_
      refine thenQ_normal ?_
      refine T_ret ?_
      refine blockQ_ret ?_
      refine thenQ_ret ?_
      refine retQ_ret1 rfl ?_
      exact ⟨congrArg (Value.int .i8) (by rw [joinP, hka, hkb]; unfold joinK; (repeat' split) <;> omega), rfl⟩
      refine V_pure (P_move rfl) rfl rfl rfl ?_
      refine V_pure (P_move rfl) rfl rfl rfl ?_
      refine V_if (P_eql rfl rfl) rfl rfl rfl (fun hc2 => ?_) (fun hc2 => ?_)
      refine V_pure (P_pick_f rfl rfl) rfl rfl rfl ?_
      refine V_pure (P_assign rfl) rfl rfl rfl ?_
      refine V_nil ?_
      refine thenQ_normal ?_
      refine T_true rfl ?_
      refine T_seq ?_
      refine T_region ?_
      refine V_pure (P_move rfl) rfl rfl rfl ?_
      refine V_pure (P_assign rfl) rfl rfl rfl ?_
      refine V_nil ?_
      refine thenQ_normal ?_
      refine T_ret ?_
      refine blockQ_ret ?_
      refine thenQ_ret ?_
      refine retQ_ret1 rfl ?_
      exact ⟨congrArg (Value.int .i8) (by rw [joinP, hka, hkb]; unfold joinK; (repeat' split) <;> omega), rfl⟩
      refine V_pure (P_pick_f rfl rfl) rfl rfl rfl ?_
      refine V_pure (P_assign rfl) rfl rfl rfl ?_
      refine V_nil ?_
      refine thenQ_normal ?_
      refine T_false rfl ?_
      refine T_seq ?_
      refine T_region ?_
      refine V_pure (P_move rfl) rfl rfl rfl ?_
      refine V_if (P_eql rfl rfl) rfl rfl rfl (fun hc3 => ?_) (fun hc3 => ?_)
      refine V_pure (P_assign rfl) rfl rfl rfl ?_
      refine V_nil ?_
      refine thenQ_normal ?_
      refine T_true rfl ?_
      refine T_seq ?_
      refine T_region ?_
      refine V_pure (P_move rfl) rfl rfl rfl ?_
      refine V_pure (P_assign rfl) rfl rfl rfl ?_
      refine V_nil ?_
      refine thenQ_normal ?_
      refine T_ret ?_
      refine blockQ_ret ?_
      refine thenQ_ret ?_
      refine retQ_ret1 rfl ?_
      exact ⟨congrArg (Value.int .i8) (by rw [joinP, hka, hkb]; unfold joinK; (repeat' split) <;> omega), rfl⟩
      refine V_pure (P_assign rfl) rfl rfl rfl ?_
      refine V_nil ?_
      refine thenQ_normal ?_
      refine T_false rfl ?_
      refine T_skip ?_
      refine blockQ_normal ?_
      refine thenQ_normal ?_
      refine T_seq ?_
      refine T_region ?_
      refine V_pure (P_assign rfl) rfl rfl rfl ?_
      refine V_nil ?_
      refine thenQ_normal ?_
      refine T_ret ?_
      refine retQ_ret1 rfl ?_
      exact ⟨congrArg (Value.int .i8) (by rw [joinP, hka, hkb]; unfold joinK; (repeat' split) <;> omega), rfl⟩
theorem FlowsR_ok (h : Heap) (a b : Int) : C Try.prog 16 [lab a, lab b].toArray h fun v h' => v = .bool (flowsP a b) ∧ h' = h := by
  refine C_of [4] Try.func16 rfl rfl rfl ?_
  refine T_seq ?_
  refine T_region ?_
  refine V_pure (P_assign rfl) rfl rfl rfl ?_
  refine V_nil ?_
  refine thenQ_normal ?_
  refine T_seq ?_
  refine T_region ?_
  refine V_pure (P_move rfl) rfl rfl rfl ?_
  refine V_pure (P_move rfl) rfl rfl rfl ?_
  refine V_step (E_call cl14 rfl ((JoinR_ok h a b)) rfl ?_) rfl
  rintro _ h ⟨rfl, rfl⟩
  refine V_pure (P_move rfl) rfl rfl rfl ?_
  refine V_pure (P_move rfl) rfl rfl rfl ?_
  refine V_step (E_call cl14 rfl ((JoinR_ok h b b)) rfl ?_) rfl
  rintro _ h ⟨rfl, rfl⟩
  refine V_pure ((P_eql rfl rfl)) rfl rfl rfl ?_
  refine V_pure (P_assign rfl) rfl rfl rfl ?_
  refine V_nil ?_
  refine thenQ_normal ?_
  refine T_ret ?_
  refine retQ_ret1 rfl ?_
  exact ⟨by rw [joinP_self]; rfl, rfl⟩
end Go.Proofs.Ytigmehimficmlaa
