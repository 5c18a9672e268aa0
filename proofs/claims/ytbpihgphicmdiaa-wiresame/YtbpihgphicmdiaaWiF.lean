/- A part of the proof: contracts of functions of the program. No condition. -/
import Derived.Test.YtbpihgphicmdiaaWiE
namespace Go.Proofs.Ytbpihgphicmdiaa
open Go.Eng Wi
def known (k : Int) : Bool := decide (1 ≤ k ∧ k ≤ 8 ∨ 64 ≤ k ∧ k ≤ 67)
theorem Known_ok {m : Mp} (k : Int) : CS Try.prog 20 [.int .u8 k] m [] (Gives (.bool (known k))) := by
  refine CS_of [.tmp 2] Try.func20 rfl rfl rfl ?_
  by_cases h1 : 1 ≤ k
  · by_cases h2 : k ≤ 8
    · rw [show known k = true from decide_eq_true (by omega)]
      refine TS_seq ?_
      refine TS_region ?_
      refine VS_pure (P_assign rfl) rfl rfl rfl ?_
      refine VS_nil ?_
      refine QS_then ?_
      refine TS_seq ?_
      refine TS_region ?_
      refine VS_pure (P_move rfl) rfl rfl rfl ?_
      refine VS_pure (dt (P_geq rfl rfl) (by first | assumption | rfl | omega | decide)) rfl rfl rfl ?_
      refine VS_pure (P_move rfl) rfl rfl rfl ?_
      refine VS_pure (P_move rfl) rfl rfl rfl ?_
      refine VS_pure (dt (P_leq rfl rfl) (by first | assumption | rfl | omega | decide)) rfl rfl rfl ?_
      refine VS_pure (P_pick_t rfl rfl) rfl rfl rfl ?_
      refine VS_pure (P_move rfl) rfl rfl rfl ?_
      refine VS_skip rfl rfl rfl ?_
      refine VS_skip rfl rfl rfl ?_
      refine VS_skip rfl rfl rfl ?_
      refine VS_skip rfl rfl rfl ?_
      refine VS_skip rfl rfl rfl ?_
      refine VS_skip rfl rfl rfl ?_
      refine VS_pure (P_pick_t rfl rfl) rfl rfl rfl ?_
      refine VS_pure (P_assign rfl) rfl rfl rfl ?_
      refine VS_nil ?_
      refine QS_then ?_
      refine TS_ret ?_
      exact QS_ret [_] ⟨rfl, trivial⟩ [] (Pick.nil _) ⟨rfl, rfl⟩
    · by_cases h3 : 64 ≤ k
      · by_cases h4 : k ≤ 67
        · rw [show known k = true from decide_eq_true (by omega)]
          refine TS_seq ?_
          refine TS_region ?_
          refine VS_pure (P_assign rfl) rfl rfl rfl ?_
          refine VS_nil ?_
          refine QS_then ?_
          refine TS_seq ?_
          refine TS_region ?_
          refine VS_pure (P_move rfl) rfl rfl rfl ?_
          refine VS_pure (dt (P_geq rfl rfl) (by first | assumption | rfl | omega | decide)) rfl rfl rfl ?_
          refine VS_pure (P_move rfl) rfl rfl rfl ?_
          refine VS_pure (P_move rfl) rfl rfl rfl ?_
          refine VS_pure (df (P_leq rfl rfl) (by first | assumption | omega | decide | exact fun hx => hx (by assumption))) rfl rfl rfl ?_
          refine VS_pure (P_pick_t rfl rfl) rfl rfl rfl ?_
          refine VS_pure (P_move rfl) rfl rfl rfl ?_
          refine VS_pure (P_move rfl) rfl rfl rfl ?_
          refine VS_pure (dt (P_geq rfl rfl) (by first | assumption | rfl | omega | decide)) rfl rfl rfl ?_
          refine VS_pure (P_move rfl) rfl rfl rfl ?_
          refine VS_pure (P_move rfl) rfl rfl rfl ?_
          refine VS_pure (dt (P_leq rfl rfl) (by first | assumption | rfl | omega | decide)) rfl rfl rfl ?_
          refine VS_pure (P_pick_t rfl rfl) rfl rfl rfl ?_
          refine VS_pure (P_pick_f rfl rfl) rfl rfl rfl ?_
          refine VS_pure (P_assign rfl) rfl rfl rfl ?_
          refine VS_nil ?_
          refine QS_then ?_
          refine TS_ret ?_
          exact QS_ret [_] ⟨rfl, trivial⟩ [] (Pick.nil _) ⟨rfl, rfl⟩
        · rw [show known k = false from decide_eq_false (by omega)]
          refine TS_seq ?_
          refine TS_region ?_
          refine VS_pure (P_assign rfl) rfl rfl rfl ?_
          refine VS_nil ?_
          refine QS_then ?_
          refine TS_seq ?_
          refine TS_region ?_
          refine VS_pure (P_move rfl) rfl rfl rfl ?_
          refine VS_pure (dt (P_geq rfl rfl) (by first | assumption | rfl | omega | decide)) rfl rfl rfl ?_
          refine VS_pure (P_move rfl) rfl rfl rfl ?_
          refine VS_pure (P_move rfl) rfl rfl rfl ?_
          refine VS_pure (df (P_leq rfl rfl) (by first | assumption | omega | decide | exact fun hx => hx (by assumption))) rfl rfl rfl ?_
          refine VS_pure (P_pick_t rfl rfl) rfl rfl rfl ?_
          refine VS_pure (P_move rfl) rfl rfl rfl ?_
          refine VS_pure (P_move rfl) rfl rfl rfl ?_
          refine VS_pure (dt (P_geq rfl rfl) (by first | assumption | rfl | omega | decide)) rfl rfl rfl ?_
          refine VS_pure (P_move rfl) rfl rfl rfl ?_
          refine VS_pure (P_move rfl) rfl rfl rfl ?_
          refine VS_pure (df (P_leq rfl rfl) (by first | assumption | omega | decide | exact fun hx => hx (by assumption))) rfl rfl rfl ?_
          refine VS_pure (P_pick_t rfl rfl) rfl rfl rfl ?_
          refine VS_pure (P_pick_f rfl rfl) rfl rfl rfl ?_
          refine VS_pure (P_assign rfl) rfl rfl rfl ?_
          refine VS_nil ?_
          refine QS_then ?_
          refine TS_ret ?_
          exact QS_ret [_] ⟨rfl, trivial⟩ [] (Pick.nil _) ⟨rfl, rfl⟩
      · rw [show known k = false from decide_eq_false (by omega)]
        refine TS_seq ?_
        refine TS_region ?_
        refine VS_pure (P_assign rfl) rfl rfl rfl ?_
        refine VS_nil ?_
        refine QS_then ?_
        refine TS_seq ?_
        refine TS_region ?_
        refine VS_pure (P_move rfl) rfl rfl rfl ?_
        refine VS_pure (dt (P_geq rfl rfl) (by first | assumption | rfl | omega | decide)) rfl rfl rfl ?_
        refine VS_pure (P_move rfl) rfl rfl rfl ?_
        refine VS_pure (P_move rfl) rfl rfl rfl ?_
        refine VS_pure (df (P_leq rfl rfl) (by first | assumption | omega | decide | exact fun hx => hx (by assumption))) rfl rfl rfl ?_
        refine VS_pure (P_pick_t rfl rfl) rfl rfl rfl ?_
        refine VS_pure (P_move rfl) rfl rfl rfl ?_
        refine VS_pure (P_move rfl) rfl rfl rfl ?_
        refine VS_pure (df (P_geq rfl rfl) (by first | assumption | omega | decide | exact fun hx => hx (by assumption))) rfl rfl rfl ?_
        refine VS_pure (P_move rfl) rfl rfl rfl ?_
        refine VS_skip rfl rfl rfl ?_
        refine VS_skip rfl rfl rfl ?_
        refine VS_pure (P_pick_f rfl rfl) rfl rfl rfl ?_
        refine VS_pure (P_pick_f rfl rfl) rfl rfl rfl ?_
        refine VS_pure (P_assign rfl) rfl rfl rfl ?_
        refine VS_nil ?_
        refine QS_then ?_
        refine TS_ret ?_
        exact QS_ret [_] ⟨rfl, trivial⟩ [] (Pick.nil _) ⟨rfl, rfl⟩
  · rw [show known k = false from decide_eq_false (by omega)]
    have h3 : ¬ 64 ≤ k := by omega
    refine TS_seq ?_
    refine TS_region ?_
    refine VS_pure (P_assign rfl) rfl rfl rfl ?_
    refine VS_nil ?_
    refine QS_then ?_
    refine TS_seq ?_
    refine TS_region ?_
    refine VS_pure (P_move rfl) rfl rfl rfl ?_
    refine VS_pure (df (P_geq rfl rfl) (by first | assumption | omega | decide | exact fun hx => hx (by assumption))) rfl rfl rfl ?_
    refine VS_pure (P_move rfl) rfl rfl rfl ?_
    refine VS_skip rfl rfl rfl ?_
    refine VS_skip rfl rfl rfl ?_
    refine VS_pure (P_pick_f rfl rfl) rfl rfl rfl ?_
    refine VS_pure (P_move rfl) rfl rfl rfl ?_
    refine VS_pure (P_move rfl) rfl rfl rfl ?_
    refine VS_pure (df (P_geq rfl rfl) (by first | assumption | omega | decide | exact fun hx => hx (by assumption))) rfl rfl rfl ?_
    refine VS_pure (P_move rfl) rfl rfl rfl ?_
    refine VS_skip rfl rfl rfl ?_
    refine VS_skip rfl rfl rfl ?_
    refine VS_pure (P_pick_f rfl rfl) rfl rfl rfl ?_
    refine VS_pure (P_pick_f rfl rfl) rfl rfl rfl ?_
    refine VS_pure (P_assign rfl) rfl rfl rfl ?_
    refine VS_nil ?_
    refine QS_then ?_
    refine TS_ret ?_
    exact QS_ret [_] ⟨rfl, trivial⟩ [] (Pick.nil _) ⟨rfl, rfl⟩
def acn0 : Acn := ⟨0, 0, 0, 0, [], []⟩
theorem zero_ok {m : Mp} {lx : List Value} {x : Acn} (hx : ActR m lx x) : CS Try.prog 21 [.agg lx.toArray] m [] (Gives (.bool (decide (x = acn0)))) := by
  obtain ⟨v, v2, rfl, ⟨a, c, rfl, ra, la⟩, ⟨b, e, rfl, rb, lb⟩⟩ := hx
  refine CS_of [.tmp 2] Try.func21 rfl rfl rfl ?_
  have ne : ∀ {p : Prop}, (x = acn0 → p) → ¬ p → x ≠ acn0 := fun h hn e => hn (h e)
  have h1 : x.ids.length ≤ 9223372036854775807 := la
  have h2 : x.pairs.length ≤ 9223372036854775807 := lb
  by_cases g1 : x.op = 0
  · skip
    by_cases g2 : x.side = 0
    · skip
      by_cases g3 : x.place = 0
      · skip
        by_cases g4 : x.target = 0
        · skip
          by_cases g5 : x.ids.length = 0
          · skip
            by_cases g6 : x.pairs.length = 0
            · skip
              have hz : x = acn0 := by
                have g5' := List.length_eq_zero_iff.1 g5
                have g6' := List.length_eq_zero_iff.1 g6
                cases x
                simp_all [acn0]
              rw [decide_eq_true hz]
              refine TS_seq ?_
              refine TS_region ?_
              refine VS_step (S_box rfl rfl (fun b1 => ?_)) rfl
              refine VS_pure (P_assign rfl) rfl rfl rfl ?_
              refine VS_nil ?_
              refine QS_then ?_
              refine TS_seq ?_
              refine TS_region ?_
              refine VS_pure (P_fieldAddr0 fo28_0 rfl) rfl rfl rfl ?_
              refine VS_read (S_loadB sg24 rfl (.here) rfl) rfl rfl rfl ?_
              refine VS_pure (dt (P_eql rfl rfl) (by first | assumption | rfl | omega | decide)) rfl rfl rfl ?_
              refine VS_pure (P_move rfl) rfl rfl rfl ?_
              refine VS_pure (P_fieldAddr0 fo28_1 rfl) rfl rfl rfl ?_
              refine VS_read (S_loadB sg3 rfl (.here) rfl) rfl rfl rfl ?_
              refine VS_pure (dt (P_eql rfl rfl) (by first | assumption | rfl | omega | decide)) rfl rfl rfl ?_
              refine VS_pure (P_pick_t rfl rfl) rfl rfl rfl ?_
              refine VS_pure (P_move rfl) rfl rfl rfl ?_
              refine VS_pure (P_fieldAddr0 fo28_2 rfl) rfl rfl rfl ?_
              refine VS_read (S_loadB sg3 rfl (.here) rfl) rfl rfl rfl ?_
              refine VS_pure (dt (P_eql rfl rfl) (by first | assumption | rfl | omega | decide)) rfl rfl rfl ?_
              refine VS_pure (P_pick_t rfl rfl) rfl rfl rfl ?_
              refine VS_pure (P_move rfl) rfl rfl rfl ?_
              refine VS_pure (P_fieldAddr0 fo28_3 rfl) rfl rfl rfl ?_
              refine VS_read (S_loadB sg3 rfl (.here) rfl) rfl rfl rfl ?_
              refine VS_pure (dt (P_eql rfl rfl) (by first | assumption | rfl | omega | decide)) rfl rfl rfl ?_
              refine VS_pure (P_pick_t rfl rfl) rfl rfl rfl ?_
              refine VS_pure (P_move rfl) rfl rfl rfl ?_
              refine VS_pure (P_fieldAddr0 fo28_4 rfl) rfl rfl rfl ?_
              refine VS_read (S_loadB sg25 rfl (.here) rfl) rfl rfl rfl ?_
              refine VS_pure (P_len il25 rfl) rfl rfl rfl ?_
              refine VS_pure (dt (P_eql rfl rfl) (by first | assumption | rfl | omega | decide)) rfl rfl rfl ?_
              refine VS_pure (P_pick_t rfl rfl) rfl rfl rfl ?_
              refine VS_pure (P_move rfl) rfl rfl rfl ?_
              refine VS_pure (P_fieldAddr0 fo28_5 rfl) rfl rfl rfl ?_
              refine VS_read (S_loadB sg26 rfl (.here) rfl) rfl rfl rfl ?_
              refine VS_pure (P_len il26 rfl) rfl rfl rfl ?_
              refine VS_pure (dt (P_eql rfl rfl) (by first | assumption | rfl | omega | decide)) rfl rfl rfl ?_
              refine VS_pure (P_pick_t rfl rfl) rfl rfl rfl ?_
              refine VS_pure (P_assign rfl) rfl rfl rfl ?_
              refine VS_nil ?_
              refine QS_then ?_
              refine TS_ret ?_
              exact QS_ret [_] ⟨rfl, trivial⟩ [] (Pick.nil _) ⟨rfl, rfl⟩
            · rw [decide_eq_false (ne (fun h => by rw [h]; rfl) g6)]
              refine TS_seq ?_
              refine TS_region ?_
              refine VS_step (S_box rfl rfl (fun b1 => ?_)) rfl
              refine VS_pure (P_assign rfl) rfl rfl rfl ?_
              refine VS_nil ?_
              refine QS_then ?_
              refine TS_seq ?_
              refine TS_region ?_
              refine VS_pure (P_fieldAddr0 fo28_0 rfl) rfl rfl rfl ?_
              refine VS_read (S_loadB sg24 rfl (.here) rfl) rfl rfl rfl ?_
              refine VS_pure (dt (P_eql rfl rfl) (by first | assumption | rfl | omega | decide)) rfl rfl rfl ?_
              refine VS_pure (P_move rfl) rfl rfl rfl ?_
              refine VS_pure (P_fieldAddr0 fo28_1 rfl) rfl rfl rfl ?_
              refine VS_read (S_loadB sg3 rfl (.here) rfl) rfl rfl rfl ?_
              refine VS_pure (dt (P_eql rfl rfl) (by first | assumption | rfl | omega | decide)) rfl rfl rfl ?_
              refine VS_pure (P_pick_t rfl rfl) rfl rfl rfl ?_
              refine VS_pure (P_move rfl) rfl rfl rfl ?_
              refine VS_pure (P_fieldAddr0 fo28_2 rfl) rfl rfl rfl ?_
              refine VS_read (S_loadB sg3 rfl (.here) rfl) rfl rfl rfl ?_
              refine VS_pure (dt (P_eql rfl rfl) (by first | assumption | rfl | omega | decide)) rfl rfl rfl ?_
              refine VS_pure (P_pick_t rfl rfl) rfl rfl rfl ?_
              refine VS_pure (P_move rfl) rfl rfl rfl ?_
              refine VS_pure (P_fieldAddr0 fo28_3 rfl) rfl rfl rfl ?_
              refine VS_read (S_loadB sg3 rfl (.here) rfl) rfl rfl rfl ?_
              refine VS_pure (dt (P_eql rfl rfl) (by first | assumption | rfl | omega | decide)) rfl rfl rfl ?_
              refine VS_pure (P_pick_t rfl rfl) rfl rfl rfl ?_
              refine VS_pure (P_move rfl) rfl rfl rfl ?_
              refine VS_pure (P_fieldAddr0 fo28_4 rfl) rfl rfl rfl ?_
              refine VS_read (S_loadB sg25 rfl (.here) rfl) rfl rfl rfl ?_
              refine VS_pure (P_len il25 rfl) rfl rfl rfl ?_
              refine VS_pure (dt (P_eql rfl rfl) (by first | assumption | rfl | omega | decide)) rfl rfl rfl ?_
              refine VS_pure (P_pick_t rfl rfl) rfl rfl rfl ?_
              refine VS_pure (P_move rfl) rfl rfl rfl ?_
              refine VS_pure (P_fieldAddr0 fo28_5 rfl) rfl rfl rfl ?_
              refine VS_read (S_loadB sg26 rfl (.here) rfl) rfl rfl rfl ?_
              refine VS_pure (P_len il26 rfl) rfl rfl rfl ?_
              refine VS_pure (df (P_eql rfl rfl) (by first | assumption | omega | decide | exact fun hx => hx (by assumption))) rfl rfl rfl ?_
              refine VS_pure (P_pick_t rfl rfl) rfl rfl rfl ?_
              refine VS_pure (P_assign rfl) rfl rfl rfl ?_
              refine VS_nil ?_
              refine QS_then ?_
              refine TS_ret ?_
              exact QS_ret [_] ⟨rfl, trivial⟩ [] (Pick.nil _) ⟨rfl, rfl⟩
          · rw [decide_eq_false (ne (fun h => by rw [h]; rfl) g5)]
            refine TS_seq ?_
            refine TS_region ?_
            refine VS_step (S_box rfl rfl (fun b1 => ?_)) rfl
            refine VS_pure (P_assign rfl) rfl rfl rfl ?_
            refine VS_nil ?_
            refine QS_then ?_
            refine TS_seq ?_
            refine TS_region ?_
            refine VS_pure (P_fieldAddr0 fo28_0 rfl) rfl rfl rfl ?_
            refine VS_read (S_loadB sg24 rfl (.here) rfl) rfl rfl rfl ?_
            refine VS_pure (dt (P_eql rfl rfl) (by first | assumption | rfl | omega | decide)) rfl rfl rfl ?_
            refine VS_pure (P_move rfl) rfl rfl rfl ?_
            refine VS_pure (P_fieldAddr0 fo28_1 rfl) rfl rfl rfl ?_
            refine VS_read (S_loadB sg3 rfl (.here) rfl) rfl rfl rfl ?_
            refine VS_pure (dt (P_eql rfl rfl) (by first | assumption | rfl | omega | decide)) rfl rfl rfl ?_
            refine VS_pure (P_pick_t rfl rfl) rfl rfl rfl ?_
            refine VS_pure (P_move rfl) rfl rfl rfl ?_
            refine VS_pure (P_fieldAddr0 fo28_2 rfl) rfl rfl rfl ?_
            refine VS_read (S_loadB sg3 rfl (.here) rfl) rfl rfl rfl ?_
            refine VS_pure (dt (P_eql rfl rfl) (by first | assumption | rfl | omega | decide)) rfl rfl rfl ?_
            refine VS_pure (P_pick_t rfl rfl) rfl rfl rfl ?_
            refine VS_pure (P_move rfl) rfl rfl rfl ?_
            refine VS_pure (P_fieldAddr0 fo28_3 rfl) rfl rfl rfl ?_
            refine VS_read (S_loadB sg3 rfl (.here) rfl) rfl rfl rfl ?_
            refine VS_pure (dt (P_eql rfl rfl) (by first | assumption | rfl | omega | decide)) rfl rfl rfl ?_
            refine VS_pure (P_pick_t rfl rfl) rfl rfl rfl ?_
            refine VS_pure (P_move rfl) rfl rfl rfl ?_
            refine VS_pure (P_fieldAddr0 fo28_4 rfl) rfl rfl rfl ?_
            refine VS_read (S_loadB sg25 rfl (.here) rfl) rfl rfl rfl ?_
            refine VS_pure (P_len il25 rfl) rfl rfl rfl ?_
            refine VS_pure (df (P_eql rfl rfl) (by first | assumption | omega | decide | exact fun hx => hx (by assumption))) rfl rfl rfl ?_
            refine VS_pure (P_pick_t rfl rfl) rfl rfl rfl ?_
            refine VS_pure (P_move rfl) rfl rfl rfl ?_
            refine VS_skip rfl rfl rfl ?_
            refine VS_skip rfl rfl rfl ?_
            refine VS_skip rfl rfl rfl ?_
            refine VS_skip rfl rfl rfl ?_
            refine VS_pure (P_pick_f rfl rfl) rfl rfl rfl ?_
            refine VS_pure (P_assign rfl) rfl rfl rfl ?_
            refine VS_nil ?_
            refine QS_then ?_
            refine TS_ret ?_
            exact QS_ret [_] ⟨rfl, trivial⟩ [] (Pick.nil _) ⟨rfl, rfl⟩
        · rw [decide_eq_false (ne (fun h => by rw [h]; rfl) g4)]
          refine TS_seq ?_
          refine TS_region ?_
          refine VS_step (S_box rfl rfl (fun b1 => ?_)) rfl
          refine VS_pure (P_assign rfl) rfl rfl rfl ?_
          refine VS_nil ?_
          refine QS_then ?_
          refine TS_seq ?_
          refine TS_region ?_
          refine VS_pure (P_fieldAddr0 fo28_0 rfl) rfl rfl rfl ?_
          refine VS_read (S_loadB sg24 rfl (.here) rfl) rfl rfl rfl ?_
          refine VS_pure (dt (P_eql rfl rfl) (by first | assumption | rfl | omega | decide)) rfl rfl rfl ?_
          refine VS_pure (P_move rfl) rfl rfl rfl ?_
          refine VS_pure (P_fieldAddr0 fo28_1 rfl) rfl rfl rfl ?_
          refine VS_read (S_loadB sg3 rfl (.here) rfl) rfl rfl rfl ?_
          refine VS_pure (dt (P_eql rfl rfl) (by first | assumption | rfl | omega | decide)) rfl rfl rfl ?_
          refine VS_pure (P_pick_t rfl rfl) rfl rfl rfl ?_
          refine VS_pure (P_move rfl) rfl rfl rfl ?_
          refine VS_pure (P_fieldAddr0 fo28_2 rfl) rfl rfl rfl ?_
          refine VS_read (S_loadB sg3 rfl (.here) rfl) rfl rfl rfl ?_
          refine VS_pure (dt (P_eql rfl rfl) (by first | assumption | rfl | omega | decide)) rfl rfl rfl ?_
          refine VS_pure (P_pick_t rfl rfl) rfl rfl rfl ?_
          refine VS_pure (P_move rfl) rfl rfl rfl ?_
          refine VS_pure (P_fieldAddr0 fo28_3 rfl) rfl rfl rfl ?_
          refine VS_read (S_loadB sg3 rfl (.here) rfl) rfl rfl rfl ?_
          refine VS_pure (df (P_eql rfl rfl) (by first | assumption | omega | decide | exact fun hx => hx (by assumption))) rfl rfl rfl ?_
          refine VS_pure (P_pick_t rfl rfl) rfl rfl rfl ?_
          refine VS_pure (P_move rfl) rfl rfl rfl ?_
          refine VS_skip rfl rfl rfl ?_
          refine VS_skip rfl rfl rfl ?_
          refine VS_skip rfl rfl rfl ?_
          refine VS_skip rfl rfl rfl ?_
          refine VS_pure (P_pick_f rfl rfl) rfl rfl rfl ?_
          refine VS_pure (P_move rfl) rfl rfl rfl ?_
          refine VS_skip rfl rfl rfl ?_
          refine VS_skip rfl rfl rfl ?_
          refine VS_skip rfl rfl rfl ?_
          refine VS_skip rfl rfl rfl ?_
          refine VS_pure (P_pick_f rfl rfl) rfl rfl rfl ?_
          refine VS_pure (P_assign rfl) rfl rfl rfl ?_
          refine VS_nil ?_
          refine QS_then ?_
          refine TS_ret ?_
          exact QS_ret [_] ⟨rfl, trivial⟩ [] (Pick.nil _) ⟨rfl, rfl⟩
      · rw [decide_eq_false (ne (fun h => by rw [h]; rfl) g3)]
        refine TS_seq ?_
        refine TS_region ?_
        refine VS_step (S_box rfl rfl (fun b1 => ?_)) rfl
        refine VS_pure (P_assign rfl) rfl rfl rfl ?_
        refine VS_nil ?_
        refine QS_then ?_
        refine TS_seq ?_
        refine TS_region ?_
        refine VS_pure (P_fieldAddr0 fo28_0 rfl) rfl rfl rfl ?_
        refine VS_read (S_loadB sg24 rfl (.here) rfl) rfl rfl rfl ?_
        refine VS_pure (dt (P_eql rfl rfl) (by first | assumption | rfl | omega | decide)) rfl rfl rfl ?_
        refine VS_pure (P_move rfl) rfl rfl rfl ?_
        refine VS_pure (P_fieldAddr0 fo28_1 rfl) rfl rfl rfl ?_
        refine VS_read (S_loadB sg3 rfl (.here) rfl) rfl rfl rfl ?_
        refine VS_pure (dt (P_eql rfl rfl) (by first | assumption | rfl | omega | decide)) rfl rfl rfl ?_
        refine VS_pure (P_pick_t rfl rfl) rfl rfl rfl ?_
        refine VS_pure (P_move rfl) rfl rfl rfl ?_
        refine VS_pure (P_fieldAddr0 fo28_2 rfl) rfl rfl rfl ?_
        refine VS_read (S_loadB sg3 rfl (.here) rfl) rfl rfl rfl ?_
        refine VS_pure (df (P_eql rfl rfl) (by first | assumption | omega | decide | exact fun hx => hx (by assumption))) rfl rfl rfl ?_
        refine VS_pure (P_pick_t rfl rfl) rfl rfl rfl ?_
        refine VS_pure (P_move rfl) rfl rfl rfl ?_
        refine VS_skip rfl rfl rfl ?_
        refine VS_skip rfl rfl rfl ?_
        refine VS_skip rfl rfl rfl ?_
        refine VS_pure (P_pick_f rfl rfl) rfl rfl rfl ?_
        refine VS_pure (P_move rfl) rfl rfl rfl ?_
        refine VS_skip rfl rfl rfl ?_
        refine VS_skip rfl rfl rfl ?_
        refine VS_skip rfl rfl rfl ?_
        refine VS_skip rfl rfl rfl ?_
        refine VS_pure (P_pick_f rfl rfl) rfl rfl rfl ?_
        refine VS_pure (P_move rfl) rfl rfl rfl ?_
        refine VS_skip rfl rfl rfl ?_
        refine VS_skip rfl rfl rfl ?_
        refine VS_skip rfl rfl rfl ?_
        refine VS_skip rfl rfl rfl ?_
        refine VS_pure (P_pick_f rfl rfl) rfl rfl rfl ?_
        refine VS_pure (P_assign rfl) rfl rfl rfl ?_
        refine VS_nil ?_
        refine QS_then ?_
        refine TS_ret ?_
        exact QS_ret [_] ⟨rfl, trivial⟩ [] (Pick.nil _) ⟨rfl, rfl⟩
    · rw [decide_eq_false (ne (fun h => by rw [h]; rfl) g2)]
      refine TS_seq ?_
      refine TS_region ?_
      refine VS_step (S_box rfl rfl (fun b1 => ?_)) rfl
      refine VS_pure (P_assign rfl) rfl rfl rfl ?_
      refine VS_nil ?_
      refine QS_then ?_
      refine TS_seq ?_
      refine TS_region ?_
      refine VS_pure (P_fieldAddr0 fo28_0 rfl) rfl rfl rfl ?_
      refine VS_read (S_loadB sg24 rfl (.here) rfl) rfl rfl rfl ?_
      refine VS_pure (dt (P_eql rfl rfl) (by first | assumption | rfl | omega | decide)) rfl rfl rfl ?_
      refine VS_pure (P_move rfl) rfl rfl rfl ?_
      refine VS_pure (P_fieldAddr0 fo28_1 rfl) rfl rfl rfl ?_
      refine VS_read (S_loadB sg3 rfl (.here) rfl) rfl rfl rfl ?_
      refine VS_pure (df (P_eql rfl rfl) (by first | assumption | omega | decide | exact fun hx => hx (by assumption))) rfl rfl rfl ?_
      refine VS_pure (P_pick_t rfl rfl) rfl rfl rfl ?_
      refine VS_pure (P_move rfl) rfl rfl rfl ?_
      refine VS_skip rfl rfl rfl ?_
      refine VS_skip rfl rfl rfl ?_
      refine VS_skip rfl rfl rfl ?_
      refine VS_pure (P_pick_f rfl rfl) rfl rfl rfl ?_
      refine VS_pure (P_move rfl) rfl rfl rfl ?_
      refine VS_skip rfl rfl rfl ?_
      refine VS_skip rfl rfl rfl ?_
      refine VS_skip rfl rfl rfl ?_
      refine VS_pure (P_pick_f rfl rfl) rfl rfl rfl ?_
      refine VS_pure (P_move rfl) rfl rfl rfl ?_
      refine VS_skip rfl rfl rfl ?_
      refine VS_skip rfl rfl rfl ?_
      refine VS_skip rfl rfl rfl ?_
      refine VS_skip rfl rfl rfl ?_
      refine VS_pure (P_pick_f rfl rfl) rfl rfl rfl ?_
      refine VS_pure (P_move rfl) rfl rfl rfl ?_
      refine VS_skip rfl rfl rfl ?_
      refine VS_skip rfl rfl rfl ?_
      refine VS_skip rfl rfl rfl ?_
      refine VS_skip rfl rfl rfl ?_
      refine VS_pure (P_pick_f rfl rfl) rfl rfl rfl ?_
      refine VS_pure (P_assign rfl) rfl rfl rfl ?_
      refine VS_nil ?_
      refine QS_then ?_
      refine TS_ret ?_
      exact QS_ret [_] ⟨rfl, trivial⟩ [] (Pick.nil _) ⟨rfl, rfl⟩
  · rw [decide_eq_false (ne (fun h => by rw [h]; rfl) g1)]
    refine TS_seq ?_
    refine TS_region ?_
    refine VS_step (S_box rfl rfl (fun b1 => ?_)) rfl
    refine VS_pure (P_assign rfl) rfl rfl rfl ?_
    refine VS_nil ?_
    refine QS_then ?_
    refine TS_seq ?_
    refine TS_region ?_
    refine VS_pure (P_fieldAddr0 fo28_0 rfl) rfl rfl rfl ?_
    refine VS_read (S_loadB sg24 rfl (.here) rfl) rfl rfl rfl ?_
    refine VS_pure (df (P_eql rfl rfl) (by first | assumption | omega | decide | exact fun hx => hx (by assumption))) rfl rfl rfl ?_
    refine VS_pure (P_move rfl) rfl rfl rfl ?_
    refine VS_skip rfl rfl rfl ?_
    refine VS_skip rfl rfl rfl ?_
    refine VS_skip rfl rfl rfl ?_
    refine VS_pure (P_pick_f rfl rfl) rfl rfl rfl ?_
    refine VS_pure (P_move rfl) rfl rfl rfl ?_
    refine VS_skip rfl rfl rfl ?_
    refine VS_skip rfl rfl rfl ?_
    refine VS_skip rfl rfl rfl ?_
    refine VS_pure (P_pick_f rfl rfl) rfl rfl rfl ?_
    refine VS_pure (P_move rfl) rfl rfl rfl ?_
    refine VS_skip rfl rfl rfl ?_
    refine VS_skip rfl rfl rfl ?_
    refine VS_skip rfl rfl rfl ?_
    refine VS_pure (P_pick_f rfl rfl) rfl rfl rfl ?_
    refine VS_pure (P_move rfl) rfl rfl rfl ?_
    refine VS_skip rfl rfl rfl ?_
    refine VS_skip rfl rfl rfl ?_
    refine VS_skip rfl rfl rfl ?_
    refine VS_skip rfl rfl rfl ?_
    refine VS_pure (P_pick_f rfl rfl) rfl rfl rfl ?_
    refine VS_pure (P_move rfl) rfl rfl rfl ?_
    refine VS_skip rfl rfl rfl ?_
    refine VS_skip rfl rfl rfl ?_
    refine VS_skip rfl rfl rfl ?_
    refine VS_skip rfl rfl rfl ?_
    refine VS_pure (P_pick_f rfl rfl) rfl rfl rfl ?_
    refine VS_pure (P_assign rfl) rfl rfl rfl ?_
    refine VS_nil ?_
    refine QS_then ?_
    refine TS_ret ?_
    exact QS_ret [_] ⟨rfl, trivial⟩ [] (Pick.nil _) ⟨rfl, rfl⟩
end Go.Proofs.Ytbpihgphicmdiaa
