/- A part of the proof: contracts of functions of the program. No condition. -/
import Derived.Test.YtigmehimficmlaaLaH
import Derived.Test.YtigmehimficmlaaLaDownIn
import Derived.Test.YtigmehimficmlaaLaGreat
import Derived.Test.YtigmehimficmlaaEng
namespace Go.Proofs.Ytigmehimficmlaa
open Go.Eng La

set_option maxHeartbeats 4000000 in
theorem right_core {A B : Option Addr} {len c lb cb : Nat} {l : List EffT} {cs : List CardT} (h : Heap) (u : Int) (hl : EffsR (mp h) A len l) (hc : CardsR (mp h) B lb cs) (hlb : lb ≤ maxLen) :
    C Try.prog 4 [lab u, .slice A len c, .slice B lb cb].toArray h fun v h' => v = .bool true ∧ Le (mp h) (mp h') := by
  refine C_of [6] Try.func4 rfl rfl rfl ?_
  unfold maxLen at hlb
  refine T_seq ?_
  refine T_region ?_
  refine V_pure (P_assign rfl) rfl rfl rfl ?_
  refine V_nil ?_
  refine thenQ_normal ?_
  refine T_seq ?_
  refine T_seq ?_
  refine T_region ?_
  refine V_pure (P_move rfl) rfl rfl rfl ?_
  refine V_step (E_call cl7 rfl ((great_ok hl h (Le.refl _))) rfl ?_) rfl
  rintro _ h1 ⟨⟨g, rfl, _⟩, l1⟩
  have c1 := hc.mono l1
  cases g with
  | true =>
    refine V_pure (P_move rfl) rfl rfl rfl ?_
    refine V_skip rfl rfl rfl ?_
    refine V_skip rfl rfl rfl ?_
    refine V_skip rfl rfl rfl ?_
    refine V_pure (P_pick_t rfl rfl) rfl rfl rfl ?_
    refine V_nil ?_
    refine thenQ_normal ?_
    refine T_true rfl ?_
    refine T_seq ?_
    refine T_region ?_
    refine V_step (E_call cl8 rfl ((wakes_ok _)) rfl ?_) rfl
    rintro _ h2 ⟨rfl, l2⟩
    refine V_pure (P_assign rfl) rfl rfl rfl ?_
    refine V_nil ?_
    refine thenQ_normal ?_
    refine T_ret ?_
    refine thenQ_ret ?_
    refine retQ_ret1 rfl ?_
    exact ⟨rfl, l1.trans l2⟩
  | false =>
    refine V_pure (P_move rfl) rfl rfl rfl ?_
    refine V_pure (P_move rfl) rfl rfl rfl ?_
    refine V_pure (P_build zl44 pl44 rfl rfl) rfl rfl rfl ?_
    refine V_step (E_call cl17 rfl ((Great_ok _ c1 (by omega))) rfl ?_) rfl
    rintro _ h2 ⟨⟨g2, rfl⟩, l2⟩
    cases g2 with
    | true =>
      refine V_pure (P_pick_f rfl rfl) rfl rfl rfl ?_
      refine V_nil ?_
      refine thenQ_normal ?_
      refine T_true rfl ?_
      refine T_seq ?_
      refine T_region ?_
      refine V_step (E_call cl8 rfl ((wakes_ok _)) rfl ?_) rfl
      rintro _ h3 ⟨rfl, l3⟩
      refine V_pure (P_assign rfl) rfl rfl rfl ?_
      refine V_nil ?_
      refine thenQ_normal ?_
      refine T_ret ?_
      refine thenQ_ret ?_
      refine retQ_ret1 rfl ?_
      exact ⟨rfl, l1.trans (l2.trans l3)⟩
    | false =>
      have m0 := l1.trans l2
      refine V_pure (P_pick_f rfl rfl) rfl rfl rfl ?_
      refine V_nil ?_
      refine thenQ_normal ?_
      refine T_false rfl ?_
      refine T_skip ?_
      refine thenQ_normal ?_
      refine T_seq ?_
      refine T_region ?_
      refine V_pure (P_move rfl) rfl rfl rfl ?_
      refine V_pure (P_move rfl) rfl rfl rfl ?_
      refine V_step (E_call cl18 rfl ((Effects_ok hl u _ m0)) rfl ?_) rfl
      rintro _ h3 ⟨rfl, l3⟩
      refine V_pure (P_move rfl) rfl rfl rfl ?_
      refine V_pure (P_move rfl) rfl rfl rfl ?_
      refine V_step (E_call cl19 rfl ((EffectsR_ok (c := c) hl u _ (m0.trans l3))) rfl ?_) rfl
      rintro _ h4 ⟨rfl, l4⟩
      skip
      refine V_pure ((pv (P_beql bo4 rfl rfl) (beq_self_eq_true _))) rfl rfl rfl ?_
      have m4 := (m0.trans l3).trans l4
      refine V_pure (P_move rfl) rfl rfl rfl ?_
      refine V_pure (P_move rfl) rfl rfl rfl ?_
      refine V_step (E_call cl20 rfl ((Check_ok hc _ m4)) rfl ?_) rfl
      rintro _ h5 ⟨rfl, l5⟩
      refine V_pure (P_move rfl) rfl rfl rfl ?_
      refine V_step (E_call cl21 rfl ((CheckR_ok hc _ (m4.trans l5))) rfl ?_) rfl
      rintro _ h6 ⟨rfl, l6⟩
      skip
      refine V_pure ((dt (P_aggeql («as» := checkP cs) (bs := checkP cs) fk48 (checkP_len _) (checkP_len _) rfl rfl) rfl)) rfl rfl rfl ?_
      refine V_pure (P_pick_t rfl rfl) rfl rfl rfl ?_
      refine V_pure (P_move rfl) rfl rfl rfl ?_
      refine V_step (E_call cl8 rfl ((wakes_ok _)) rfl ?_) rfl
      rintro _ h7 ⟨rfl, l7⟩
      refine V_pure (P_pick_t rfl rfl) rfl rfl rfl ?_
      refine V_pure (P_assign rfl) rfl rfl rfl ?_
      refine V_nil ?_
      refine thenQ_normal ?_
      refine T_ret ?_
      refine retQ_ret1 rfl ?_
      exact ⟨rfl, ((m4.trans l5).trans l6).trans l7⟩
def Yc : CTy := ⟨Y, 4, 56, 40⟩
theorem Ycok : Yc.ok Try.prog = true := by kernel_rfl
theorem right_in {H : Type} {enc : TypeId × Value → H} {base base' : Nat} {spare spare' : Nat → Bool} {held held' : Bool} (W : World) (a0 : Int) (_w0 : (Lit.int .i8 a0).wf = true) (a1 : Option Addr) (len1 cap1 : Nat)
    {fuel : Nat} {x : DataW H × List MemPlace} (hf1 : DataW.trod enc Try.prog W base spare held fuel 31 [.slice a1 len1 cap1] = some x) (a2 : Option Addr) (len2 cap2 : Nat)
    {fuel' : Nat} {x' : DataW H × List MemPlace} (hf2 : DataW.trod enc Try.prog W base' spare' held' fuel' 40 [.slice a2 len2 cap2] = some x') :
    C Try.prog 4 #[.int .i8 a0, .slice a1 len1 cap1, .slice a2 len2 cap2] W.heap fun v h' => v = .bool true ∧ Le (mp W.heap) (mp h') := by
  obtain ⟨l, hl, _, _⟩ := effs_in Yok hf1
  obtain ⟨cs, hc, k1, k2⟩ := cards_in Ycok hf2
  exact right_core W.heap a0 hl hc (Nat.le_trans k1 k2)
end Go.Proofs.Ytigmehimficmlaa
