/- A part of the proof: contracts of functions of the program. No condition. -/
import Derived.Test.YtodogmfbafmcmaaFrD
namespace Go.Proofs.Ytodogmfbafmcmaa
open Go.Eng Fr

theorem nil_core (W : World) (a : Option Addr) (cap : Nat) (xs : List UInt8) (_ : Rd (mp W.heap) a (xs.map byteV)) (_ : xs.length ≤ cap) (_ : cap ≤ maxLen) :
    C Try.prog 3 [.slice a xs.length cap].toArray W.heap fun v h' => v = .bool true ∧ Le (mp W.heap) (mp h') := by
  generalize W.heap = h at *
  refine C_of [2] Try.func3 rfl rfl rfl ?_
  refine T_seq ?_
  refine T_region ?_
  refine V_pure (P_assign rfl) rfl rfl rfl ?_
  refine V_nil ?_
  refine thenQ_normal ?_
  refine T_seq ?_
  refine T_region ?_
  refine V_pure (P_assign rfl) rfl rfl rfl ?_
  refine V_nil ?_
  refine thenQ_normal ?_
  refine T_seq ?_
  refine T_region ?_
  refine V_pure (P_move rfl) rfl rfl rfl ?_
  refine V_step (E_call cl6 rfl ((Next_nil h)) rfl ?_) rfl
  rintro _ h ⟨rfl, rfl⟩
  refine V_pure (P_move rfl) rfl rfl rfl ?_
  refine V_pure (P_extract rfl rfl) rfl rfl rfl ?_
  refine V_pure (P_extract rfl rfl) rfl rfl rfl ?_
  refine V_pure (P_assign rfl) rfl rfl rfl ?_
  refine V_pure (P_assign rfl) rfl rfl rfl ?_
  refine V_nil ?_
  refine thenQ_normal ?_
  refine T_seq ?_
  refine T_region ?_
  refine V_pure (P_move rfl) rfl rfl rfl ?_
  refine V_pure (P_move rfl) rfl rfl rfl ?_
  refine V_step (E_call cl7 rfl ((Feed_nil h a _ _)) rfl ?_) rfl
  rintro _ h ⟨rfl, rfl⟩
  refine V_pure (dt (P_eql rfl rfl) (by first | assumption | rfl | omega | decide)) rfl rfl rfl ?_
  refine V_pure (P_move rfl) rfl rfl rfl ?_
  refine V_pure (P_move rfl) rfl rfl rfl ?_
  refine V_pure (P_len il22 rfl) rfl rfl rfl ?_
  refine V_pure (dt (P_eql rfl rfl) (by first | assumption | rfl | omega | decide)) rfl rfl rfl ?_
  refine V_pure (P_pick_t rfl rfl) rfl rfl rfl ?_
  refine V_pure (P_move rfl) rfl rfl rfl ?_
  refine V_pure (P_move rfl) rfl rfl rfl ?_
  refine V_pure (P_not rfl) rfl rfl rfl ?_
  refine V_pure (P_pick_t rfl rfl) rfl rfl rfl ?_
  refine V_pure (P_move rfl) rfl rfl rfl ?_
  refine V_pure (P_move rfl) rfl rfl rfl ?_
  refine V_step (E_call cl8 rfl ((Broken_nil h)) rfl ?_) rfl
  rintro _ h ⟨rfl, rfl⟩
  refine V_pure (P_not rfl) rfl rfl rfl ?_
  refine V_pure (P_pick_t rfl rfl) rfl rfl rfl ?_
  refine V_pure (P_move rfl) rfl rfl rfl ?_
  refine V_pure (P_move rfl) rfl rfl rfl ?_
  refine V_step (E_call cl9 rfl ((Held_nil h)) rfl ?_) rfl
  rintro _ h ⟨rfl, rfl⟩
  refine V_pure (dt (P_eql rfl rfl) (by first | assumption | rfl | omega | decide)) rfl rfl rfl ?_
  refine V_pure (P_pick_t rfl rfl) rfl rfl rfl ?_
  refine V_pure (P_move rfl) rfl rfl rfl ?_
  refine V_step (E_call cl10 rfl ((wakes_ok h)) rfl ?_) rfl
  rintro _ h2 ⟨rfl, hl⟩
  refine V_pure (P_pick_t rfl rfl) rfl rfl rfl ?_
  refine V_pure (P_assign rfl) rfl rfl rfl ?_
  refine V_nil ?_
  refine thenQ_normal ?_
  refine T_ret ?_
  refine retQ_ret1 rfl ?_
  exact ⟨rfl, hl⟩
end Go.Proofs.Ytodogmfbafmcmaa
