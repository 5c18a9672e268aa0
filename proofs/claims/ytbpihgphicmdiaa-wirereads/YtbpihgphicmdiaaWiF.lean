/- A part of the proof: contracts of functions of the program. No condition. -/
import Derived.Test.YtbpihgphicmdiaaWiE
namespace Go.Proofs.Ytbpihgphicmdiaa
open Go.Eng Wi
def known (k : Int) : Bool := decide (1 ≤ k ∧ k ≤ 8 ∨ 64 ≤ k ∧ k ≤ 67)
theorem Known_ok {m : Mp} (k : Int) : CS Try.prog 20 [.int .u8 k] m [] (Gives (.bool (known k))) := by
  refine CS_of [.tmp 2] Try.func20 rfl rfl rfl ?_
  by_cases h1 : 1 ≤ k
  · by_cases h2 : k ≤ 8
    · rw [show known k = true from decide_eq_true (by omega)]
      refine TS_seq ?_
      refine TS_region ?_
      refine VS_pure (P_assign rfl) rfl rfl rfl ?_
      refine VS_nil ?_
      refine QS_then ?_
      refine TS_seq ?_
      refine TS_region ?_
      refine VS_pure (P_move rfl) rfl rfl rfl ?_
      refine VS_pure (dt (P_geq rfl rfl) (by first | assumption | rfl | omega | decide)) rfl rfl rfl ?_
      refine VS_pure (P_move rfl) rfl rfl rfl ?_
      refine VS_pure (P_move rfl) rfl rfl rfl ?_
      refine VS_pure (dt (P_leq rfl rfl) (by first | assumption | rfl | omega | decide)) rfl rfl rfl ?_
      refine VS_pure (P_pick_t rfl rfl) rfl rfl rfl ?_
      refine VS_pure (P_move rfl) rfl rfl rfl ?_
      refine VS_skip rfl rfl rfl ?_
      refine VS_skip rfl rfl rfl ?_
      refine VS_skip rfl rfl rfl ?_
      refine VS_skip rfl rfl rfl ?_
      refine VS_skip rfl rfl rfl ?_
      refine VS_skip rfl rfl rfl ?_
      refine VS_pure (P_pick_t rfl rfl) rfl rfl rfl ?_
      refine VS_pure (P_assign rfl) rfl rfl rfl ?_
      refine VS_nil ?_
      refine QS_then ?_
      refine TS_ret ?_
      exact QS_ret [_] ⟨rfl, trivial⟩ [] (Pick.nil _) ⟨rfl, rfl⟩
    · by_cases h3 : 64 ≤ k
      · by_cases h4 : k ≤ 67
        · rw [show known k = true from decide_eq_true (by omega)]
          refine TS_seq ?_
          refine TS_region ?_
          refine VS_pure (P_assign rfl) rfl rfl rfl ?_
          refine VS_nil ?_
          refine QS_then ?_
          refine TS_seq ?_
          refine TS_region ?_
          refine VS_pure (P_move rfl) rfl rfl rfl ?_
          refine VS_pure (dt (P_geq rfl rfl) (by first | assumption | rfl | omega | decide)) rfl rfl rfl ?_
          refine VS_pure (P_move rfl) rfl rfl rfl ?_
          refine VS_pure (P_move rfl) rfl rfl rfl ?_
          refine VS_pure (df (P_leq rfl rfl) (by first | assumption | omega | decide | exact fun hx => hx (by assumption))) rfl rfl rfl ?_
          refine VS_pure (P_pick_t rfl rfl) rfl rfl rfl ?_
          refine VS_pure (P_move rfl) rfl rfl rfl ?_
          refine VS_pure (P_move rfl) rfl rfl rfl ?_
          refine VS_pure (dt (P_geq rfl rfl) (by first | assumption | rfl | omega | decide)) rfl rfl rfl ?_
          refine VS_pure (P_move rfl) rfl rfl rfl ?_
          refine VS_pure (P_move rfl) rfl rfl rfl ?_
          refine VS_pure (dt (P_leq rfl rfl) (by first | assumption | rfl | omega | decide)) rfl rfl rfl ?_
          refine VS_pure (P_pick_t rfl rfl) rfl rfl rfl ?_
          refine VS_pure (P_pick_f rfl rfl) rfl rfl rfl ?_
          refine VS_pure (P_assign rfl) rfl rfl rfl ?_
          refine VS_nil ?_
          refine QS_then ?_
          refine TS_ret ?_
          exact QS_ret [_] ⟨rfl, trivial⟩ [] (Pick.nil _) ⟨rfl, rfl⟩
        · rw [show known k = false from decide_eq_false (by omega)]
          refine TS_seq ?_
          refine TS_region ?_
          refine VS_pure (P_assign rfl) rfl rfl rfl ?_
          refine VS_nil ?_
          refine QS_then ?_
          refine TS_seq ?_
          refine TS_region ?_
          refine VS_pure (P_move rfl) rfl rfl rfl ?_
          refine VS_pure (dt (P_geq rfl rfl) (by first | assumption | rfl | omega | decide)) rfl rfl rfl ?_
          refine VS_pure (P_move rfl) rfl rfl rfl ?_
          refine VS_pure (P_move rfl) rfl rfl rfl ?_
          refine VS_pure (df (P_leq rfl rfl) (by first | assumption | omega | decide | exact fun hx => hx (by assumption))) rfl rfl rfl ?_
          refine VS_pure (P_pick_t rfl rfl) rfl rfl rfl ?_
          refine VS_pure (P_move rfl) rfl rfl rfl ?_
          refine VS_pure (P_move rfl) rfl rfl rfl ?_
          refine VS_pure (dt (P_geq rfl rfl) (by first | assumption | rfl | omega | decide)) rfl rfl rfl ?_
          refine VS_pure (P_move rfl) rfl rfl rfl ?_
          refine VS_pure (P_move rfl) rfl rfl rfl ?_
          refine VS_pure (df (P_leq rfl rfl) (by first | assumption | omega | decide | exact fun hx => hx (by assumption))) rfl rfl rfl ?_
          refine VS_pure (P_pick_t rfl rfl) rfl rfl rfl ?_
          refine VS_pure (P_pick_f rfl rfl) rfl rfl rfl ?_
          refine VS_pure (P_assign rfl) rfl rfl rfl ?_
          refine VS_nil ?_
          refine QS_then ?_
          refine TS_ret ?_
          exact QS_ret [_] ⟨rfl, trivial⟩ [] (Pick.nil _) ⟨rfl, rfl⟩
      · rw [show known k = false from decide_eq_false (by omega)]
        refine TS_seq ?_
        refine TS_region ?_
        refine VS_pure (P_assign rfl) rfl rfl rfl ?_
        refine VS_nil ?_
        refine QS_then ?_
        refine TS_seq ?_
        refine TS_region ?_
        refine VS_pure (P_move rfl) rfl rfl rfl ?_
        refine VS_pure (dt (P_geq rfl rfl) (by first | assumption | rfl | omega | decide)) rfl rfl rfl ?_
        refine VS_pure (P_move rfl) rfl rfl rfl ?_
        refine VS_pure (P_move rfl) rfl rfl rfl ?_
        refine VS_pure (df (P_leq rfl rfl) (by first | assumption | omega | decide | exact fun hx => hx (by assumption))) rfl rfl rfl ?_
        refine VS_pure (P_pick_t rfl rfl) rfl rfl rfl ?_
        refine VS_pure (P_move rfl) rfl rfl rfl ?_
        refine VS_pure (P_move rfl) rfl rfl rfl ?_
        refine VS_pure (df (P_geq rfl rfl) (by first | assumption | omega | decide | exact fun hx => hx (by assumption))) rfl rfl rfl ?_
        refine VS_pure (P_move rfl) rfl rfl rfl ?_
        refine VS_skip rfl rfl rfl ?_
        refine VS_skip rfl rfl rfl ?_
        refine VS_pure (P_pick_f rfl rfl) rfl rfl rfl ?_
        refine VS_pure (P_pick_f rfl rfl) rfl rfl rfl ?_
        refine VS_pure (P_assign rfl) rfl rfl rfl ?_
        refine VS_nil ?_
        refine QS_then ?_
        refine TS_ret ?_
        exact QS_ret [_] ⟨rfl, trivial⟩ [] (Pick.nil _) ⟨rfl, rfl⟩
  · rw [show known k = false from decide_eq_false (by omega)]
    have h3 : ¬ 64 ≤ k := by omega
    refine TS_seq ?_
    refine TS_region ?_
    refine VS_pure (P_assign rfl) rfl rfl rfl ?_
    refine VS_nil ?_
    refine QS_then ?_
    refine TS_seq ?_
    refine TS_region ?_
    refine VS_pure (P_move rfl) rfl rfl rfl ?_
    refine VS_pure (df (P_geq rfl rfl) (by first | assumption | omega | decide | exact fun hx => hx (by assumption))) rfl rfl rfl ?_
    refine VS_pure (P_move rfl) rfl rfl rfl ?_
    refine VS_skip rfl rfl rfl ?_
    refine VS_skip rfl rfl rfl ?_
    refine VS_pure (P_pick_f rfl rfl) rfl rfl rfl ?_
    refine VS_pure (P_move rfl) rfl rfl rfl ?_
    refine VS_pure (P_move rfl) rfl rfl rfl ?_
    refine VS_pure (df (P_geq rfl rfl) (by first | assumption | omega | decide | exact fun hx => hx (by assumption))) rfl rfl rfl ?_
    refine VS_pure (P_move rfl) rfl rfl rfl ?_
    refine VS_skip rfl rfl rfl ?_
    refine VS_skip rfl rfl rfl ?_
    refine VS_pure (P_pick_f rfl rfl) rfl rfl rfl ?_
    refine VS_pure (P_pick_f rfl rfl) rfl rfl rfl ?_
    refine VS_pure (P_assign rfl) rfl rfl rfl ?_
    refine VS_nil ?_
    refine QS_then ?_
    refine TS_ret ?_
    exact QS_ret [_] ⟨rfl, trivial⟩ [] (Pick.nil _) ⟨rfl, rfl⟩
def acn0 : Acn := ⟨0, 0, 0, 0, [], []⟩
end Go.Proofs.Ytbpihgphicmdiaa
