/- A part of the proof: contracts of functions of the program. No condition. -/
import Derived.Test.YtigmehimficmlaaLaG
import Derived.Test.YtigmehimficmlaaLaR
namespace Go.Proofs.Ytigmehimficmlaa
open Go.Eng La

def intV (z : Int) : Value := .int .i64 z
theorem w8lbl (x : Int) : IntKind.i8.wrap (lbl x) = lbl x := by have := lbl_range x; exact w8 (by omega) (by omega)
set_option maxHeartbeats 4000000 in
theorem lattice_core (h : Heap) (x y z : Int) (hx : -9223372036854775808 ≤ x ∧ x ≤ 9223372036854775807) (hy : -9223372036854775808 ≤ y ∧ y ≤ 9223372036854775807) (hz : -9223372036854775808 ≤ z ∧ z ≤ 9223372036854775807) :
    C Try.prog 5 [intV x, intV y, intV z].toArray h fun v h' => v = .bool true ∧ Le (mp h) (mp h') := by
  refine C_of [6] Try.func5 rfl rfl rfl ?_
  unfold intV
  have bx1 := Int.tmod_lt_of_pos x (b := 4) (by decide)
  have bx2 := Int.lt_tmod_of_pos x (b := 4) (by decide)
  have by1 := Int.tmod_lt_of_pos y (b := 4) (by decide)
  have by2 := Int.lt_tmod_of_pos y (b := 4) (by decide)
  have bz1 := Int.tmod_lt_of_pos z (b := 4) (by decide)
  have bz2 := Int.lt_tmod_of_pos z (b := 4) (by decide)
  have ex := w8lbl x
  have ey := w8lbl y
  have ez := w8lbl z
  have ha := lbl_range x
  have hb := lbl_range y
  have hc := lbl_range z
  refine T_seq ?_
  refine T_region ?_
  refine V_pure (P_assign rfl) rfl rfl rfl ?_
  refine V_nil ?_
  refine thenQ_normal ?_
  refine T_seq ?_
  refine T_region ?_
  refine V_pure (P_move rfl) rfl rfl rfl ?_
  refine V_pure (P_rem rfl rfl (by omega) rfl) rfl rfl rfl ?_
  refine V_pure (P_add rfl rfl (w64 (by omega) (by omega))) rfl rfl rfl ?_
  refine V_pure (P_rem rfl rfl (by omega) rfl) rfl rfl rfl ?_
  refine V_pure ((P_conv_int us3 ik29 rfl ex)) rfl rfl rfl ?_
  refine V_pure (P_assign rfl) rfl rfl rfl ?_
  refine V_nil ?_
  refine thenQ_normal ?_
  refine T_seq ?_
  refine T_region ?_
  refine V_pure (P_move rfl) rfl rfl rfl ?_
  refine V_pure (P_rem rfl rfl (by omega) rfl) rfl rfl rfl ?_
  refine V_pure (P_add rfl rfl (w64 (by omega) (by omega))) rfl rfl rfl ?_
  refine V_pure (P_rem rfl rfl (by omega) rfl) rfl rfl rfl ?_
  refine V_pure ((P_conv_int us3 ik29 rfl ey)) rfl rfl rfl ?_
  refine V_pure (P_assign rfl) rfl rfl rfl ?_
  refine V_nil ?_
  refine thenQ_normal ?_
  refine T_seq ?_
  refine T_region ?_
  refine V_pure (P_move rfl) rfl rfl rfl ?_
  refine V_pure (P_rem rfl rfl (by omega) rfl) rfl rfl rfl ?_
  refine V_pure (P_add rfl rfl (w64 (by omega) (by omega))) rfl rfl rfl ?_
  refine V_pure (P_rem rfl rfl (by omega) rfl) rfl rfl rfl ?_
  refine V_pure ((P_conv_int us3 ik29 rfl ez)) rfl rfl rfl ?_
  generalize lbl x = a at *
  generalize lbl y = b at *
  generalize lbl z = c at *
  clear bx1 bx2 by1 by2 bz1 bz2 ex ey ez hx hy hz
  have e1 := join_comm a b
  have e2 := join_idem ha
  have e3 := join_assoc ha hb hc
  have e4 := flow_l ha hb
  have e5 := flow_r ha hb
  have e6 := flow_join ha hb hc
  have e7 := flow_anti ha hb
  have e8 := flow_both ha
  have e9 := flow_nobody ha
  refine V_pure (P_assign rfl) rfl rfl rfl ?_
  refine V_nil ?_
  refine thenQ_normal ?_
  refine T_seq ?_
  refine T_region ?_
  refine V_pure (P_move rfl) rfl rfl rfl ?_
  refine V_pure (P_move rfl) rfl rfl rfl ?_
  refine V_step (E_call cl13 rfl ((Join_ok h a b)) rfl ?_) rfl
  rintro _ h1 ⟨rfl, l1⟩
  refine V_pure (P_assign rfl) rfl rfl rfl ?_
  refine V_nil ?_
  refine thenQ_normal ?_
  refine T_seq ?_
  refine T_seq ?_
  refine T_region ?_
  refine V_pure (P_move rfl) rfl rfl rfl ?_
  refine V_pure (P_move rfl) rfl rfl rfl ?_
  refine V_step (E_call cl13 rfl ((Join_ok h1 b a)) rfl ?_) rfl
  rintro _ h2 ⟨rfl, l2⟩
  refine V_pure (P_move rfl) rfl rfl rfl ?_
  refine V_pure (df (P_neq rfl rfl) (by first | assumption | omega | decide | exact fun hx => hx (by assumption))) rfl rfl rfl ?_
  refine V_pure (P_move rfl) rfl rfl rfl ?_
  refine V_pure (P_move rfl) rfl rfl rfl ?_
  refine V_pure (P_move rfl) rfl rfl rfl ?_
  refine V_step (E_call cl13 rfl ((Join_ok h2 a a)) rfl ?_) rfl
  rintro _ h3 ⟨rfl, l3⟩
  refine V_pure (P_move rfl) rfl rfl rfl ?_
  refine V_pure (df (P_neq rfl rfl) (by first | assumption | omega | decide | exact fun hx => hx (by assumption))) rfl rfl rfl ?_
  refine V_pure (P_pick_f rfl rfl) rfl rfl rfl ?_
  refine V_pure (P_move rfl) rfl rfl rfl ?_
  refine V_pure (P_move rfl) rfl rfl rfl ?_
  refine V_pure (P_move rfl) rfl rfl rfl ?_
  refine V_step (E_call cl13 rfl ((Join_ok h3 (joinP a b) c)) rfl ?_) rfl
  rintro _ h4 ⟨rfl, l4⟩
  refine V_pure (P_move rfl) rfl rfl rfl ?_
  refine V_pure (P_move rfl) rfl rfl rfl ?_
  refine V_pure (P_move rfl) rfl rfl rfl ?_
  refine V_step (E_call cl13 rfl ((Join_ok h4 b c)) rfl ?_) rfl
  rintro _ h5 ⟨rfl, l5⟩
  skip
  refine V_step (E_call cl13 rfl ((Join_ok h5 a (joinP b c))) rfl ?_) rfl
  rintro _ h6 ⟨rfl, l6⟩
  refine V_pure (df (P_neq rfl rfl) (by first | assumption | omega | decide | exact fun hx => hx (by assumption))) rfl rfl rfl ?_
  refine V_pure (P_pick_f rfl rfl) rfl rfl rfl ?_
  refine V_pure (P_move rfl) rfl rfl rfl ?_
  refine V_pure (P_move rfl) rfl rfl rfl ?_
  refine V_pure (P_move rfl) rfl rfl rfl ?_
  have c1 := Flows_ok h6 a (joinP a b)
  rw [e4] at c1
  refine V_step (E_call cl15 rfl (c1) rfl ?_) rfl
  rintro _ h7 ⟨rfl, l7⟩
  refine V_pure (P_not rfl) rfl rfl rfl ?_
  refine V_pure (P_pick_f rfl rfl) rfl rfl rfl ?_
  refine V_pure (P_move rfl) rfl rfl rfl ?_
  refine V_pure (P_move rfl) rfl rfl rfl ?_
  refine V_pure (P_move rfl) rfl rfl rfl ?_
  have c2 := Flows_ok h7 b (joinP a b)
  rw [e5] at c2
  refine V_step (E_call cl15 rfl (c2) rfl ?_) rfl
  rintro _ h8 ⟨rfl, l8⟩
  have l08 := l1.trans (l2.trans (l3.trans (l4.trans (l5.trans (l6.trans (l7.trans l8))))))
  clear c1 c2 l1 l2 l3 l4 l5 l6 l7 l8 e1 e2 e3 e4 e5
  generalize joinP a b = j at *
  refine V_pure (P_not rfl) rfl rfl rfl ?_
  refine V_pure (P_pick_f rfl rfl) rfl rfl rfl ?_
  refine V_nil ?_
  refine thenQ_normal ?_
  refine T_false rfl ?_
  refine T_skip ?_
  refine thenQ_normal ?_
  refine T_seq ?_
  refine T_seq ?_
  refine T_cut (fun _ : Unit => [(7, lab a), (92, .bool false)]) (fun _ h' => Le (mp h) (mp h')) ?_ ?_
  · refine T_region ?_
    refine V_pure (P_move rfl) rfl rfl rfl ?_
    refine V_pure (P_move rfl) rfl rfl rfl ?_
    have c1 := Flows_ok h8 a c
    cases hac : flowsP a c with
    | false =>
      rw [hac] at c1
      refine V_step (E_call cl15 rfl (c1) rfl ?_) rfl
      rintro _ k1 ⟨rfl, n1⟩
      refine V_pure (P_move rfl) rfl rfl rfl ?_
      refine V_skip rfl rfl rfl ?_
      refine V_skip rfl rfl rfl ?_
      refine V_skip rfl rfl rfl ?_
      refine V_pure (P_pick_f rfl rfl) rfl rfl rfl ?_
      refine V_pure (P_move rfl) rfl rfl rfl ?_
      refine V_skip rfl rfl rfl ?_
      refine V_skip rfl rfl rfl ?_
      refine V_skip rfl rfl rfl ?_
      refine V_skip rfl rfl rfl ?_
      refine V_pure (P_pick_f rfl rfl) rfl rfl rfl ?_
      refine V_pure (P_move rfl) rfl rfl rfl ?_
      refine V_pure (P_move rfl) rfl rfl rfl ?_
      refine V_pure (P_move rfl) rfl rfl rfl ?_
      have d1 := Flows_ok k1 a b
      cases hab : flowsP a b with
      | false =>
        rw [hab] at d1
        refine V_step (E_call cl15 rfl (d1) rfl ?_) rfl
        rintro _ g1 ⟨rfl, m1⟩
        refine V_pure (P_move rfl) rfl rfl rfl ?_
        refine V_skip rfl rfl rfl ?_
        refine V_skip rfl rfl rfl ?_
        refine V_skip rfl rfl rfl ?_
        refine V_pure (P_pick_f rfl rfl) rfl rfl rfl ?_
        refine V_pure (P_move rfl) rfl rfl rfl ?_
        refine V_skip rfl rfl rfl ?_
        refine V_skip rfl rfl rfl ?_
        refine V_skip rfl rfl rfl ?_
        refine V_pure (P_pick_f rfl rfl) rfl rfl rfl ?_
        refine V_pure (P_pick_f rfl rfl) rfl rfl rfl ?_
        refine V_nil ?_
        exact ⟨(), ⟨rfl, rfl, trivial⟩, (l08.trans n1).trans m1, Nat.zero_lt_one⟩
      | true =>
        rw [hab] at d1
        refine V_step (E_call cl15 rfl (d1) rfl ?_) rfl
        rintro _ g1 ⟨rfl, m1⟩
        refine V_pure (P_move rfl) rfl rfl rfl ?_
        refine V_pure (P_move rfl) rfl rfl rfl ?_
        refine V_pure (P_move rfl) rfl rfl rfl ?_
        have d2 := Flows_ok g1 b a
        cases hba : flowsP b a with
        | false =>
          rw [hba] at d2
          refine V_step (E_call cl15 rfl (d2) rfl ?_) rfl
          rintro _ g2 ⟨rfl, m2⟩
          refine V_pure (P_pick_t rfl rfl) rfl rfl rfl ?_
          refine V_pure (P_move rfl) rfl rfl rfl ?_
          refine V_skip rfl rfl rfl ?_
          refine V_skip rfl rfl rfl ?_
          refine V_skip rfl rfl rfl ?_
          refine V_pure (P_pick_f rfl rfl) rfl rfl rfl ?_
          refine V_pure (P_pick_f rfl rfl) rfl rfl rfl ?_
          refine V_nil ?_
          exact ⟨(), ⟨rfl, rfl, trivial⟩, (l08.trans n1).trans (m1.trans m2), Nat.zero_lt_one⟩
        | true =>
          rw [hba] at d2
          have hEq := e7 hab hba
          refine V_step (E_call cl15 rfl (d2) rfl ?_) rfl
          rintro _ g2 ⟨rfl, m2⟩
          refine V_pure (P_pick_t rfl rfl) rfl rfl rfl ?_
          refine V_pure (P_move rfl) rfl rfl rfl ?_
          refine V_pure (P_move rfl) rfl rfl rfl ?_
          refine V_pure (P_move rfl) rfl rfl rfl ?_
          refine V_pure (df (P_neq rfl rfl) (by first | assumption | omega | decide | exact fun hx => hx (by assumption))) rfl rfl rfl ?_
          refine V_pure (P_pick_t rfl rfl) rfl rfl rfl ?_
          refine V_pure (P_pick_f rfl rfl) rfl rfl rfl ?_
          refine V_nil ?_
          exact ⟨(), ⟨rfl, rfl, trivial⟩, (l08.trans n1).trans (m1.trans m2), Nat.zero_lt_one⟩
    | true =>
      rw [hac] at c1
      refine V_step (E_call cl15 rfl (c1) rfl ?_) rfl
      rintro _ k1 ⟨rfl, n1⟩
      refine V_pure (P_move rfl) rfl rfl rfl ?_
      refine V_pure (P_move rfl) rfl rfl rfl ?_
      refine V_pure (P_move rfl) rfl rfl rfl ?_
      have c2 := Flows_ok k1 b c
      cases hbc : flowsP b c with
      | false =>
        rw [hbc] at c2
        refine V_step (E_call cl15 rfl (c2) rfl ?_) rfl
        rintro _ k2 ⟨rfl, n2⟩
        refine V_pure (P_pick_t rfl rfl) rfl rfl rfl ?_
        refine V_pure (P_move rfl) rfl rfl rfl ?_
        refine V_skip rfl rfl rfl ?_
        refine V_skip rfl rfl rfl ?_
        refine V_skip rfl rfl rfl ?_
        refine V_skip rfl rfl rfl ?_
        refine V_pure (P_pick_f rfl rfl) rfl rfl rfl ?_
        refine V_pure (P_move rfl) rfl rfl rfl ?_
        refine V_pure (P_move rfl) rfl rfl rfl ?_
        refine V_pure (P_move rfl) rfl rfl rfl ?_
        have d1 := Flows_ok k2 a b
        cases hab : flowsP a b with
        | false =>
          rw [hab] at d1
          refine V_step (E_call cl15 rfl (d1) rfl ?_) rfl
          rintro _ g1 ⟨rfl, m1⟩
          refine V_pure (P_move rfl) rfl rfl rfl ?_
          refine V_skip rfl rfl rfl ?_
          refine V_skip rfl rfl rfl ?_
          refine V_skip rfl rfl rfl ?_
          refine V_pure (P_pick_f rfl rfl) rfl rfl rfl ?_
          refine V_pure (P_move rfl) rfl rfl rfl ?_
          refine V_skip rfl rfl rfl ?_
          refine V_skip rfl rfl rfl ?_
          refine V_skip rfl rfl rfl ?_
          refine V_pure (P_pick_f rfl rfl) rfl rfl rfl ?_
          refine V_pure (P_pick_f rfl rfl) rfl rfl rfl ?_
          refine V_nil ?_
          exact ⟨(), ⟨rfl, rfl, trivial⟩, (l08.trans (n1.trans n2)).trans m1, Nat.zero_lt_one⟩
        | true =>
          rw [hab] at d1
          refine V_step (E_call cl15 rfl (d1) rfl ?_) rfl
          rintro _ g1 ⟨rfl, m1⟩
          refine V_pure (P_move rfl) rfl rfl rfl ?_
          refine V_pure (P_move rfl) rfl rfl rfl ?_
          refine V_pure (P_move rfl) rfl rfl rfl ?_
          have d2 := Flows_ok g1 b a
          cases hba : flowsP b a with
          | false =>
            rw [hba] at d2
            refine V_step (E_call cl15 rfl (d2) rfl ?_) rfl
            rintro _ g2 ⟨rfl, m2⟩
            refine V_pure (P_pick_t rfl rfl) rfl rfl rfl ?_
            refine V_pure (P_move rfl) rfl rfl rfl ?_
            refine V_skip rfl rfl rfl ?_
            refine V_skip rfl rfl rfl ?_
            refine V_skip rfl rfl rfl ?_
            refine V_pure (P_pick_f rfl rfl) rfl rfl rfl ?_
            refine V_pure (P_pick_f rfl rfl) rfl rfl rfl ?_
            refine V_nil ?_
            exact ⟨(), ⟨rfl, rfl, trivial⟩, (l08.trans (n1.trans n2)).trans (m1.trans m2), Nat.zero_lt_one⟩
          | true =>
            rw [hba] at d2
            have hEq := e7 hab hba
            refine V_step (E_call cl15 rfl (d2) rfl ?_) rfl
            rintro _ g2 ⟨rfl, m2⟩
            refine V_pure (P_pick_t rfl rfl) rfl rfl rfl ?_
            refine V_pure (P_move rfl) rfl rfl rfl ?_
            refine V_pure (P_move rfl) rfl rfl rfl ?_
            refine V_pure (P_move rfl) rfl rfl rfl ?_
            refine V_pure (df (P_neq rfl rfl) (by first | assumption | omega | decide | exact fun hx => hx (by assumption))) rfl rfl rfl ?_
            refine V_pure (P_pick_t rfl rfl) rfl rfl rfl ?_
            refine V_pure (P_pick_f rfl rfl) rfl rfl rfl ?_
            refine V_nil ?_
            exact ⟨(), ⟨rfl, rfl, trivial⟩, (l08.trans (n1.trans n2)).trans (m1.trans m2), Nat.zero_lt_one⟩
      | true =>
        rw [hbc] at c2
        refine V_step (E_call cl15 rfl (c2) rfl ?_) rfl
        rintro _ k2 ⟨rfl, n2⟩
        refine V_pure (P_pick_t rfl rfl) rfl rfl rfl ?_
        refine V_pure (P_move rfl) rfl rfl rfl ?_
        refine V_pure (P_move rfl) rfl rfl rfl ?_
        refine V_pure (P_move rfl) rfl rfl rfl ?_
        have c3 := Flows_ok k2 j c
        rw [e6 hac hbc] at c3
        refine V_step (E_call cl15 rfl (c3) rfl ?_) rfl
        rintro _ k3 ⟨rfl, n3⟩
        refine V_pure (P_not rfl) rfl rfl rfl ?_
        refine V_pure (P_pick_t rfl rfl) rfl rfl rfl ?_
        refine V_pure (P_move rfl) rfl rfl rfl ?_
        refine V_pure (P_move rfl) rfl rfl rfl ?_
        refine V_pure (P_move rfl) rfl rfl rfl ?_
        have d1 := Flows_ok k3 a b
        cases hab : flowsP a b with
        | false =>
          rw [hab] at d1
          refine V_step (E_call cl15 rfl (d1) rfl ?_) rfl
          rintro _ g1 ⟨rfl, m1⟩
          refine V_pure (P_move rfl) rfl rfl rfl ?_
          refine V_skip rfl rfl rfl ?_
          refine V_skip rfl rfl rfl ?_
          refine V_skip rfl rfl rfl ?_
          refine V_pure (P_pick_f rfl rfl) rfl rfl rfl ?_
          refine V_pure (P_move rfl) rfl rfl rfl ?_
          refine V_skip rfl rfl rfl ?_
          refine V_skip rfl rfl rfl ?_
          refine V_skip rfl rfl rfl ?_
          refine V_pure (P_pick_f rfl rfl) rfl rfl rfl ?_
          refine V_pure (P_pick_f rfl rfl) rfl rfl rfl ?_
          refine V_nil ?_
          exact ⟨(), ⟨rfl, rfl, trivial⟩, (l08.trans (n1.trans (n2.trans n3))).trans m1, Nat.zero_lt_one⟩
        | true =>
          rw [hab] at d1
          refine V_step (E_call cl15 rfl (d1) rfl ?_) rfl
          rintro _ g1 ⟨rfl, m1⟩
          refine V_pure (P_move rfl) rfl rfl rfl ?_
          refine V_pure (P_move rfl) rfl rfl rfl ?_
          refine V_pure (P_move rfl) rfl rfl rfl ?_
          have d2 := Flows_ok g1 b a
          cases hba : flowsP b a with
          | false =>
            rw [hba] at d2
            refine V_step (E_call cl15 rfl (d2) rfl ?_) rfl
            rintro _ g2 ⟨rfl, m2⟩
            refine V_pure (P_pick_t rfl rfl) rfl rfl rfl ?_
            refine V_pure (P_move rfl) rfl rfl rfl ?_
            refine V_skip rfl rfl rfl ?_
            refine V_skip rfl rfl rfl ?_
            refine V_skip rfl rfl rfl ?_
            refine V_pure (P_pick_f rfl rfl) rfl rfl rfl ?_
            refine V_pure (P_pick_f rfl rfl) rfl rfl rfl ?_
            refine V_nil ?_
            exact ⟨(), ⟨rfl, rfl, trivial⟩, (l08.trans (n1.trans (n2.trans n3))).trans (m1.trans m2), Nat.zero_lt_one⟩
          | true =>
            rw [hba] at d2
            have hEq := e7 hab hba
            refine V_step (E_call cl15 rfl (d2) rfl ?_) rfl
            rintro _ g2 ⟨rfl, m2⟩
            refine V_pure (P_pick_t rfl rfl) rfl rfl rfl ?_
            refine V_pure (P_move rfl) rfl rfl rfl ?_
            refine V_pure (P_move rfl) rfl rfl rfl ?_
            refine V_pure (P_move rfl) rfl rfl rfl ?_
            refine V_pure (df (P_neq rfl rfl) (by first | assumption | omega | decide | exact fun hx => hx (by assumption))) rfl rfl rfl ?_
            refine V_pure (P_pick_t rfl rfl) rfl rfl rfl ?_
            refine V_pure (P_pick_f rfl rfl) rfl rfl rfl ?_
            refine V_nil ?_
            exact ⟨(), ⟨rfl, rfl, trivial⟩, (l08.trans (n1.trans (n2.trans n3))).trans (m1.trans m2), Nat.zero_lt_one⟩
  · rintro _ h9 l9
    refine T_false rfl ?_
    refine T_skip ?_
    refine thenQ_normal ?_
    refine T_seq ?_
    refine T_region ?_
    refine V_pure (P_move rfl) rfl rfl rfl ?_
    have c3 := Flows_ok h9 0 a
    rw [e8] at c3
    refine V_step (E_call cl15 rfl (c3) rfl ?_) rfl
    rintro _ h10 ⟨rfl, l10⟩
    refine V_pure (P_move rfl) rfl rfl rfl ?_
    refine V_pure (P_move rfl) rfl rfl rfl ?_
    have c4 := Flows_ok h10 a 3
    rw [e9] at c4
    refine V_step (E_call cl15 rfl (c4) rfl ?_) rfl
    rintro _ h11 ⟨rfl, l11⟩
    refine V_pure (P_pick_t rfl rfl) rfl rfl rfl ?_
    refine V_pure (P_move rfl) rfl rfl rfl ?_
    refine V_step (E_call cl8 rfl ((wakes_ok h11)) rfl ?_) rfl
    rintro _ h12 ⟨rfl, l12⟩
    refine V_pure (P_pick_t rfl rfl) rfl rfl rfl ?_
    refine V_pure (P_assign rfl) rfl rfl rfl ?_
    refine V_nil ?_
    refine thenQ_normal ?_
    refine T_ret ?_
    refine retQ_ret1 rfl ?_
    exact ⟨rfl, l9.trans (l10.trans (l11.trans l12))⟩
end Go.Proofs.Ytigmehimficmlaa
