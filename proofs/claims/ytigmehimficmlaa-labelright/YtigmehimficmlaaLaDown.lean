/- A part of the proof: contracts of functions of the program. No condition. -/
import Derived.Test.YtigmehimficmlaaLaH
import Derived.Test.YtigmehimficmlaaLaS
namespace Go.Proofs.Ytigmehimficmlaa
open Go.Eng La

set_option maxHeartbeats 4000000 in
theorem down_core {A : Option Addr} {len c : Nat} {l : List EffT} (h : Heap) (x y cut : Int) (hx : -9223372036854775808 ≤ x ∧ x ≤ 9223372036854775807) (hy : -9223372036854775808 ≤ y ∧ y ≤ 9223372036854775807) (hz : -9223372036854775808 ≤ cut ∧ cut ≤ 9223372036854775807)
    (hl : EffsR (mp h) A len l) (hlc : len ≤ c) (hcm : c ≤ maxLen) :
    C Try.prog 6 [intV x, intV y, .slice A len c, intV cut].toArray h fun v h' => v = .bool true ∧ Le (mp h) (mp h') := by
  refine C_of [8] Try.func6 rfl rfl rfl ?_
  unfold intV
  unfold maxLen at hcm
  have bx1 := Int.tmod_lt_of_pos x (b := 4) (by decide)
  have bx2 := Int.lt_tmod_of_pos x (b := 4) (by decide)
  have by1 := Int.tmod_lt_of_pos y (b := 4) (by decide)
  have by2 := Int.lt_tmod_of_pos y (b := 4) (by decide)
  have bz1 := Int.tmod_lt_of_pos cut (b := (len : Int) + 1) (by omega)
  have bz2 := Int.lt_tmod_of_pos cut (b := (len : Int) + 1) (by omega)
  have ex := w8lbl x
  have ey := w8lbl y
  have ha := lbl_range x
  have hb := lbl_range y
  refine T_seq ?_
  refine T_region ?_
  refine V_pure (P_assign rfl) rfl rfl rfl ?_
  refine V_nil ?_
  refine thenQ_normal ?_
  refine T_seq ?_
  refine T_seq ?_
  refine T_region ?_
  refine V_pure (P_move rfl) rfl rfl rfl ?_
  refine V_step (E_call cl7 rfl ((great_ok hl h (Le.refl _))) rfl ?_) rfl
  rintro _ h1 ⟨⟨g, rfl, hg⟩, l1⟩
  cases g with
  | true =>
    refine V_nil ?_
    refine thenQ_normal ?_
    refine T_true rfl ?_
    refine T_seq ?_
    refine T_region ?_
    refine V_step (E_call cl8 rfl ((wakes_ok h1)) rfl ?_) rfl
    rintro _ h2 ⟨rfl, l2⟩
    refine V_pure (P_assign rfl) rfl rfl rfl ?_
    refine V_nil ?_
    refine thenQ_normal ?_
    refine T_ret ?_
    refine thenQ_ret ?_
    refine retQ_ret1 rfl ?_
    exact ⟨rfl, l1.trans l2⟩
  | false =>
    have hln := hg rfl
    clear hg
    refine V_nil ?_
    refine thenQ_normal ?_
    refine T_false rfl ?_
    refine T_skip ?_
    refine thenQ_normal ?_
    refine T_seq ?_
    refine T_region ?_
    refine V_pure (P_move rfl) rfl rfl rfl ?_
    refine V_pure (P_rem rfl rfl (by omega) rfl) rfl rfl rfl ?_
    refine V_pure (P_add rfl rfl (w64 (by omega) (by omega))) rfl rfl rfl ?_
    refine V_pure (P_rem rfl rfl (by omega) rfl) rfl rfl rfl ?_
    refine V_pure ((P_conv_int us3 ik29 rfl ex)) rfl rfl rfl ?_
    refine V_pure (P_assign rfl) rfl rfl rfl ?_
    refine V_nil ?_
    refine thenQ_normal ?_
    refine T_seq ?_
    refine T_region ?_
    refine V_pure (P_move rfl) rfl rfl rfl ?_
    refine V_pure (P_rem rfl rfl (by omega) rfl) rfl rfl rfl ?_
    refine V_pure (P_add rfl rfl (w64 (by omega) (by omega))) rfl rfl rfl ?_
    refine V_pure (P_rem rfl rfl (by omega) rfl) rfl rfl rfl ?_
    refine V_pure ((P_conv_int us3 ik29 rfl ey)) rfl rfl rfl ?_
    generalize lbl x = a at *
    generalize lbl y = b at *
    clear bx1 bx2 by1 by2 ex ey hx hy
    have hd : rightS b l = true → flowsP a b = true → rightS a l = true := fun h1 h2 => downS l ha hb h2 h1
    refine V_pure (P_assign rfl) rfl rfl rfl ?_
    refine V_nil ?_
    refine thenQ_normal ?_
    refine T_seq ?_
    refine T_region ?_
    refine V_pure (P_move rfl) rfl rfl rfl ?_
    refine V_pure (P_move rfl) rfl rfl rfl ?_
    refine V_step (E_call cl18 rfl ((Effects_ok hl b h1 l1)) rfl ?_) rfl
    rintro _ h2 ⟨rfl, l2⟩
    replace l2 := l1.trans l2
    have e7 := right_cut b l
    refine V_pure (P_assign rfl) rfl rfl rfl ?_
    refine V_nil ?_
    refine thenQ_normal ?_
    refine T_seq ?_
    refine T_seq ?_
    refine T_cut (fun _ : Unit => [(2, .slice A len c), (3, .int .i64 cut), (10, lab b), (11, .bool (rightS b l)), (40, .bool false)]) (fun _ h' => Le (mp h) (mp h')) ?_ ?_
    · cases hr : rightS b l with
      | false =>
        refine T_region ?_
        refine V_pure (P_move rfl) rfl rfl rfl ?_
        refine V_pure (P_move rfl) rfl rfl rfl ?_
        refine V_skip rfl rfl rfl ?_
        refine V_skip rfl rfl rfl ?_
        refine V_skip rfl rfl rfl ?_
        refine V_pure (P_pick_f rfl rfl) rfl rfl rfl ?_
        refine V_pure (P_move rfl) rfl rfl rfl ?_
        refine V_skip rfl rfl rfl ?_
        refine V_skip rfl rfl rfl ?_
        refine V_skip rfl rfl rfl ?_
        refine V_skip rfl rfl rfl ?_
        refine V_pure (P_pick_f rfl rfl) rfl rfl rfl ?_
        refine V_nil ?_
        exact ⟨(), ⟨rfl, rfl, rfl, rfl, rfl, trivial⟩, l2, Nat.zero_lt_one⟩
      | true =>
        refine T_region ?_
        refine V_pure (P_move rfl) rfl rfl rfl ?_
        refine V_pure (P_move rfl) rfl rfl rfl ?_
        refine V_pure (P_move rfl) rfl rfl rfl ?_
        refine V_pure (P_move rfl) rfl rfl rfl ?_
        have c1 := Flows_ok h2 a b
        cases hf : flowsP a b with
        | false =>
          rw [hf] at c1
          refine V_step (E_call cl15 rfl (c1) rfl ?_) rfl
          rintro _ h3 ⟨rfl, l3⟩
          refine V_pure (P_pick_t rfl rfl) rfl rfl rfl ?_
          refine V_pure (P_move rfl) rfl rfl rfl ?_
          refine V_skip rfl rfl rfl ?_
          refine V_skip rfl rfl rfl ?_
          refine V_skip rfl rfl rfl ?_
          refine V_skip rfl rfl rfl ?_
          refine V_pure (P_pick_f rfl rfl) rfl rfl rfl ?_
          refine V_nil ?_
          exact ⟨(), ⟨rfl, rfl, rfl, rfl, rfl, trivial⟩, l2.trans l3, Nat.zero_lt_one⟩
        | true =>
          rw [hf] at c1
          have hd' := hd hr hf
          refine V_step (E_call cl15 rfl (c1) rfl ?_) rfl
          rintro _ h3 ⟨rfl, l3⟩
          refine V_pure (P_pick_t rfl rfl) rfl rfl rfl ?_
          refine V_pure (P_move rfl) rfl rfl rfl ?_
          refine V_pure (P_move rfl) rfl rfl rfl ?_
          refine V_pure (P_move rfl) rfl rfl rfl ?_
          have c2 := Effects_ok (c := c) hl a h3 (l2.trans l3)
          rw [hd'] at c2
          refine V_step (E_call cl18 rfl (c2) rfl ?_) rfl
          rintro _ h4 ⟨rfl, l4⟩
          refine V_pure (P_not rfl) rfl rfl rfl ?_
          refine V_pure (P_pick_t rfl rfl) rfl rfl rfl ?_
          refine V_nil ?_
          exact ⟨(), ⟨rfl, rfl, rfl, rfl, rfl, trivial⟩, (l2.trans l3).trans l4, Nat.zero_lt_one⟩
    rintro _ h3 l3
    clear hd l1 l2
    have bz3 : ((cut.tmod (len + 1)) + (len + 1)).tmod (len + 1) < (len : Int) + 1 := Int.tmod_lt_of_pos _ (by omega)
    have bz4 : 0 ≤ ((cut.tmod (len + 1)) + (len + 1)).tmod ((len : Int) + 1) := Int.tmod_nonneg _ (by omega)
    refine T_false rfl ?_
    refine T_skip ?_
    refine thenQ_normal ?_
    refine T_seq ?_
    refine T_region ?_
    refine V_pure (P_move rfl) rfl rfl rfl ?_
    refine V_pure (P_len il31 rfl) rfl rfl rfl ?_
    refine V_pure (P_add rfl rfl (w64 (by omega) (by omega))) rfl rfl rfl ?_
    refine V_pure (P_assign rfl) rfl rfl rfl ?_
    refine V_nil ?_
    refine thenQ_normal ?_
    refine T_seq ?_
    refine T_region ?_
    refine V_pure (P_move rfl) rfl rfl rfl ?_
    refine V_pure (P_move rfl) rfl rfl rfl ?_
    refine V_pure (P_rem rfl rfl (by omega) rfl) rfl rfl rfl ?_
    refine V_pure (P_move rfl) rfl rfl rfl ?_
    refine V_pure (P_add rfl rfl (w64 (by omega) (by omega))) rfl rfl rfl ?_
    refine V_pure (P_move rfl) rfl rfl rfl ?_
    refine V_pure (P_rem rfl rfl (by omega) rfl) rfl rfl rfl ?_
    obtain ⟨k, hk⟩ := Int.eq_ofNat_of_zero_le bz4
    rw [hk] at bz3
    rw [hk]
    have hkl : k ≤ len := by omega
    clear hk bz4 bz1 bz2
    refine V_pure (P_assign rfl) rfl rfl rfl ?_
    refine V_nil ?_
    refine thenQ_normal ?_
    refine T_seq ?_
    refine T_region ?_
    refine V_pure (P_move rfl) rfl rfl rfl ?_
    refine V_pure (P_move rfl) rfl rfl rfl ?_
    refine V_pure (P_move rfl) rfl rfl rfl ?_
    refine V_pure (P_move rfl) rfl rfl rfl ?_
    refine V_pure ((P_slice_h k ez31 rfl rfl rfl (by omega))) rfl rfl rfl ?_
    rw [cutA_zero]
    have q1 := e7 k
    generalize rightS b l = w at *
    have k1 : EffsR (mp h) A k (l.take k) := by have := hl.cut 0 k (by omega) hlc; rwa [cutA_zero, List.drop_zero] at this
    have k2 : EffsR (mp h) (cutA A k c 14) (len - k) (l.drop k) := by
      have := hl.cut k (len - k) (by omega) hlc
      rwa [List.take_of_length_le (by rw [List.length_drop, hl.1]; omega)] at this
    have c1 := Effects_ok (c := c) k1 b h3 l3
    have e8 : rightS b [] = true := by rw [rightS]
    have k3 : EffsR (mp h) none 0 [] := EffsR.nil _
    cases hv : rightS b (l.take k) with
    | false =>
      rw [hv] at c1 q1
      rw [Bool.false_and] at q1
      subst q1
      refine V_step (E_call cl18 rfl (c1) rfl ?_) rfl
      rintro _ h4 ⟨rfl, l4⟩
      refine V_pure (P_move rfl) rfl rfl rfl ?_
      refine V_skip rfl rfl rfl ?_
      refine V_skip rfl rfl rfl ?_
      refine V_skip rfl rfl rfl ?_
      refine V_skip rfl rfl rfl ?_
      refine V_skip rfl rfl rfl ?_
      refine V_pure (P_pick_f rfl rfl) rfl rfl rfl ?_
      refine V_pure (P_beql bo4 rfl rfl) rfl rfl rfl ?_
      refine V_pure (P_move rfl) rfl rfl rfl ?_
      refine V_pure (P_move rfl) rfl rfl rfl ?_
      have c2 := Effects_ok (c := 0) k3 b h4 (l3.trans l4)
      rw [e8] at c2
      refine V_step (E_call cl18 rfl (c2) rfl ?_) rfl
      rintro _ h5 ⟨rfl, l5⟩
      refine V_pure (P_pick_t rfl rfl) rfl rfl rfl ?_
      refine V_pure (P_move rfl) rfl rfl rfl ?_
      refine V_step (E_call cl8 rfl ((wakes_ok h5)) rfl ?_) rfl
      rintro _ h6 ⟨rfl, l6⟩
      refine V_pure (P_pick_t rfl rfl) rfl rfl rfl ?_
      refine V_pure (P_assign rfl) rfl rfl rfl ?_
      refine V_nil ?_
      refine thenQ_normal ?_
      refine T_ret ?_
      refine retQ_ret1 rfl ?_
      exact ⟨rfl, (l3.trans l4).trans (l5.trans l6)⟩
    | true =>
      rw [hv] at c1 q1
      rw [Bool.true_and] at q1
      refine V_step (E_call cl18 rfl (c1) rfl ?_) rfl
      rintro _ h4 ⟨rfl, l4⟩
      refine V_pure (P_move rfl) rfl rfl rfl ?_
      refine V_pure (P_move rfl) rfl rfl rfl ?_
      refine V_pure (P_move rfl) rfl rfl rfl ?_
      refine V_pure (P_move rfl) rfl rfl rfl ?_
      refine V_pure ((P_slice_l k ez31 rfl rfl rfl (by omega))) rfl rfl rfl ?_
      have c2 := Effects_ok (c := c - k) k2 b h4 (l3.trans l4)
      rw [← q1] at c2
      refine V_step (E_call cl18 rfl (c2) rfl ?_) rfl
      rintro _ h5 ⟨rfl, l5⟩
      have c3 := Effects_ok (c := 0) k3 b h5 ((l3.trans l4).trans l5)
      rw [e8] at c3
      cases w with
      | false =>
        refine V_pure (P_pick_t rfl rfl) rfl rfl rfl ?_
        refine V_pure (P_beql bo4 rfl rfl) rfl rfl rfl ?_
        refine V_pure (P_move rfl) rfl rfl rfl ?_
        refine V_pure (P_move rfl) rfl rfl rfl ?_
        refine V_step (E_call cl18 rfl (c3) rfl ?_) rfl
        rintro _ h6 ⟨rfl, l6⟩
        refine V_pure (P_pick_t rfl rfl) rfl rfl rfl ?_
        refine V_pure (P_move rfl) rfl rfl rfl ?_
        refine V_step (E_call cl8 rfl ((wakes_ok h6)) rfl ?_) rfl
        rintro _ h7 ⟨rfl, l7⟩
        refine V_pure (P_pick_t rfl rfl) rfl rfl rfl ?_
        refine V_pure (P_assign rfl) rfl rfl rfl ?_
        refine V_nil ?_
        refine thenQ_normal ?_
        refine T_ret ?_
        refine retQ_ret1 rfl ?_
        exact ⟨rfl, ((l3.trans l4).trans (l5.trans l6)).trans l7⟩
      | true =>
        refine V_pure (P_pick_t rfl rfl) rfl rfl rfl ?_
        refine V_pure (P_beql bo4 rfl rfl) rfl rfl rfl ?_
        refine V_pure (P_move rfl) rfl rfl rfl ?_
        refine V_pure (P_move rfl) rfl rfl rfl ?_
        refine V_step (E_call cl18 rfl (c3) rfl ?_) rfl
        rintro _ h6 ⟨rfl, l6⟩
        refine V_pure (P_pick_t rfl rfl) rfl rfl rfl ?_
        refine V_pure (P_move rfl) rfl rfl rfl ?_
        refine V_step (E_call cl8 rfl ((wakes_ok h6)) rfl ?_) rfl
        rintro _ h7 ⟨rfl, l7⟩
        refine V_pure (P_pick_t rfl rfl) rfl rfl rfl ?_
        refine V_pure (P_assign rfl) rfl rfl rfl ?_
        refine V_nil ?_
        refine thenQ_normal ?_
        refine T_ret ?_
        refine retQ_ret1 rfl ?_
        exact ⟨rfl, ((l3.trans l4).trans (l5.trans l6)).trans l7⟩
end Go.Proofs.Ytigmehimficmlaa
