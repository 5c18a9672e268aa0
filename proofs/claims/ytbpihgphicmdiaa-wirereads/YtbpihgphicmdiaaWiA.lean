/- A part of the proof: contracts of functions of the program. No condition. -/
import Derived.Test.YtbpihgphicmdiaaFacts
import Derived.Test.YtbpihgphicmdiaaRows
import Derived.Test.YtbpihgphicmdiaaWiP
namespace Go.Proofs.Ytbpihgphicmdiaa
open Go.Eng Wi
abbrev Gives (w : Value) : Value → List Ent → Prop := fun v L' => v = w ∧ L' = []
theorem row_ok {m : Mp} {v w : Value} {xs ys : List Int} (hx : SlI m v xs) (hy : SlI m w ys) : CS Try.prog 55 [v, w] m [] (Gives (.bool (decide (xs = ys)))) := by
  obtain ⟨a, c, rfl, ra, la⟩ := hx
  obtain ⟨b, e, rfl, rb, lb⟩ := hy
  refine CS_of [.tmp 4] Try.func55 rfl rfl rfl ?_
  have hmx : xs.length ≤ 9223372036854775807 := la
  by_cases hl : xs.length = ys.length
  · refine TS_seq ?_
    refine TS_region ?_
    refine VS_pure (P_assign rfl) rfl rfl rfl ?_
    refine VS_nil ?_
    refine QS_then ?_
    refine TS_seq ?_
    refine TS_seq ?_
    refine TS_region ?_
    refine VS_pure (P_move rfl) rfl rfl rfl ?_
    refine VS_pure (P_len il25 rfl) rfl rfl rfl ?_
    refine VS_pure (P_move rfl) rfl rfl rfl ?_
    refine VS_pure (P_len il25 rfl) rfl rfl rfl ?_
    refine VS_pure (df (P_neq rfl rfl) (by first | assumption | omega | decide | exact fun hx => hx (by assumption))) rfl rfl rfl ?_
    refine VS_nil ?_
    refine QS_then ?_
    refine TS_false rfl ?_
    refine TS_skip ?_
    refine QS_then ?_
    refine TS_seq ?_
    refine TS_seq ?_
    refine TS_region ?_
    refine VS_pure (P_assign rfl) rfl rfl rfl ?_
    refine VS_nil ?_
    refine QS_then ?_
    refine TS_block ?_
    refine TS_loop (fun i : Nat => [(0, .slice a xs.length c), (1, .slice b ys.length e), (5, .int .i64 (i : Nat))]) (fun _ => []) (fun i => i ≤ xs.length ∧ xs.take i = ys.take i) (fun i => xs.length - i) 0 ⟨rfl, rfl, rfl, trivial⟩ (Pick.nil _) ⟨Nat.zero_le _, rfl⟩ ?_
    rintro i ⟨hi, ht⟩
    by_cases hlt : i < xs.length
    · have hlt2 : i < ys.length := by omega
      have ha := ra.isSome (by simp; omega)
      have hb := rb.isSome (by simp; omega)
      have g1 := Rd_get ra hlt
      have g2 := Rd_get rb hlt2
      unfold iV at g1 g2
      by_cases hq : xs[i] = ys[i]
      · refine TS_seq ?_
        refine TS_seq ?_
        refine TS_region ?_
        refine VS_pure (P_move rfl) rfl rfl rfl ?_
        refine VS_pure (P_move rfl) rfl rfl rfl ?_
        refine VS_pure (P_len il25 rfl) rfl rfl rfl ?_
        refine VS_pure (dt (P_lss rfl rfl) (by first | assumption | rfl | omega | decide)) rfl rfl rfl ?_
        refine VS_nil ?_
        refine QS_then ?_
        refine TS_true rfl ?_
        refine TS_skip ?_
        refine QS_then ?_
        refine TS_seq ?_
        refine TS_block ?_
        refine TS_seq ?_
        refine TS_draw (.step 0 .pure (.step 1 .pure (.step 2 .pure (.step 4 .pure (.step 5 .pure (.step 6 .pure (.step 3 .read (.step 7 .read (.step 8 .pure (.done)))))))))) mixed (by kernel_rfl) (fun _ _ _ _ hq => hq) ?_
        refine VTS_pure rfl (P_move rfl) rfl rfl rfl ?_
        refine VTS_pure rfl (P_move rfl) rfl rfl rfl ?_
        refine VTS_pure rfl (P_indexAddr1N ez25 rfl rfl ha (by omega)) rfl rfl rfl ?_
        refine VTS_pure rfl (P_move rfl) rfl rfl rfl ?_
        refine VTS_pure rfl (P_move rfl) rfl rfl rfl ?_
        refine VTS_pure rfl (P_indexAddr1N ez25 rfl rfl hb (by omega)) rfl rfl rfl ?_
        refine VTS_read rfl (S_load sg3 rfl g1) rfl rfl rfl ?_
        refine VTS_read rfl (S_load sg3 rfl g2) rfl rfl rfl ?_
        refine VTS_pure rfl (df (P_neq rfl rfl) (by first | assumption | omega | decide | exact fun hx => hx (by assumption))) rfl rfl rfl ?_
        refine VTS_nil ?_
        refine QS_then ?_
        refine TS_false rfl ?_
        refine TS_skip ?_
        refine QS_block ?_
        refine QS_then ?_
        refine TS_region ?_
        refine VS_pure (P_move rfl) rfl rfl rfl ?_
        refine VS_pure (P_add rfl rfl (w64 (by omega) (by omega))) rfl rfl rfl ?_
        refine VS_pure (P_assign rfl) rfl rfl rfl ?_
        refine VS_nil ?_
        exact QS_round (i + 1) ⟨rfl, rfl, rfl, trivial⟩ (Pick.nil _) ⟨hlt, take_step ht hlt hlt2 hq⟩ (by omega)
      · have hne : xs ≠ ys := fun h => hq (by subst h; rfl)
        rw [decide_eq_false hne]
        refine TS_seq ?_
        refine TS_seq ?_
        refine TS_region ?_
        refine VS_pure (P_move rfl) rfl rfl rfl ?_
        refine VS_pure (P_move rfl) rfl rfl rfl ?_
        refine VS_pure (P_len il25 rfl) rfl rfl rfl ?_
        refine VS_pure (dt (P_lss rfl rfl) (by first | assumption | rfl | omega | decide)) rfl rfl rfl ?_
        refine VS_nil ?_
        refine QS_then ?_
        refine TS_true rfl ?_
        refine TS_skip ?_
        refine QS_then ?_
        refine TS_seq ?_
        refine TS_block ?_
        refine TS_seq ?_
        refine TS_draw (.step 0 .pure (.step 1 .pure (.step 2 .pure (.step 4 .pure (.step 5 .pure (.step 6 .pure (.step 3 .read (.step 7 .read (.step 8 .pure (.done)))))))))) mixed (by kernel_rfl) (fun _ _ _ _ hq => hq) ?_
        refine VTS_pure rfl (P_move rfl) rfl rfl rfl ?_
        refine VTS_pure rfl (P_move rfl) rfl rfl rfl ?_
        refine VTS_pure rfl (P_indexAddr1N ez25 rfl rfl ha (by omega)) rfl rfl rfl ?_
        refine VTS_pure rfl (P_move rfl) rfl rfl rfl ?_
        refine VTS_pure rfl (P_move rfl) rfl rfl rfl ?_
        refine VTS_pure rfl (P_indexAddr1N ez25 rfl rfl hb (by omega)) rfl rfl rfl ?_
        refine VTS_read rfl (S_load sg3 rfl g1) rfl rfl rfl ?_
        refine VTS_read rfl (S_load sg3 rfl g2) rfl rfl rfl ?_
        refine VTS_pure rfl (dt (P_neq rfl rfl) (by first | assumption | rfl | omega | decide)) rfl rfl rfl ?_
        refine VTS_nil ?_
        refine QS_then ?_
        refine TS_true rfl ?_
        refine TS_seq ?_
        refine TS_region ?_
        refine VS_pure (P_assign rfl) rfl rfl rfl ?_
        refine VS_nil ?_
        refine QS_then ?_
        refine TS_ret ?_
        refine QS_block_ret ?_
        refine QS_then_ret ?_
        refine QS_round_ret ?_
        refine QS_block_ret ?_
        refine QS_then_ret ?_
        exact QS_ret [_] ⟨rfl, trivial⟩ [] (Pick.nil _) ⟨rfl, rfl⟩
    · rw [decide_eq_true (take_all ht (by omega) hl)]
      refine TS_seq ?_
      refine TS_seq ?_
      refine TS_region ?_
      refine VS_pure (P_move rfl) rfl rfl rfl ?_
      refine VS_pure (P_move rfl) rfl rfl rfl ?_
      refine VS_pure (P_len il25 rfl) rfl rfl rfl ?_
      refine VS_pure (df (P_lss rfl rfl) (by first | assumption | omega | decide | exact fun hx => hx (by assumption))) rfl rfl rfl ?_
      refine VS_nil ?_
      refine QS_then ?_
      refine TS_false rfl ?_
      refine TS_exit ?_
      refine QS_then_exit ?_
      refine QS_round_exit ?_
      refine QS_block_here ?_
      refine QS_then ?_
      refine TS_seq ?_
      refine TS_region ?_
      refine VS_pure (P_assign rfl) rfl rfl rfl ?_
      refine VS_nil ?_
      refine QS_then ?_
      refine TS_ret ?_
      exact QS_ret [_] ⟨rfl, trivial⟩ [] (Pick.nil _) ⟨rfl, rfl⟩
  · have hne : xs ≠ ys := fun h => hl (by rw [h])
    rw [decide_eq_false hne]
    refine TS_seq ?_
    refine TS_region ?_
    refine VS_pure (P_assign rfl) rfl rfl rfl ?_
    refine VS_nil ?_
    refine QS_then ?_
    refine TS_seq ?_
    refine TS_seq ?_
    refine TS_region ?_
    refine VS_pure (P_move rfl) rfl rfl rfl ?_
    refine VS_pure (P_len il25 rfl) rfl rfl rfl ?_
    refine VS_pure (P_move rfl) rfl rfl rfl ?_
    refine VS_pure (P_len il25 rfl) rfl rfl rfl ?_
    refine VS_pure (dt (P_neq rfl rfl) (by first | assumption | rfl | omega | decide)) rfl rfl rfl ?_
    refine VS_nil ?_
    refine QS_then ?_
    refine TS_true rfl ?_
    refine TS_seq ?_
    refine TS_region ?_
    refine VS_pure (P_assign rfl) rfl rfl rfl ?_
    refine VS_nil ?_
    refine QS_then ?_
    refine TS_ret ?_
    refine QS_then_ret ?_
    exact QS_ret [_] ⟨rfl, trivial⟩ [] (Pick.nil _) ⟨rfl, rfl⟩

theorem Evt_ne {x y : Evt} (h : x ≠ y) (h1 : x.kind = y.kind) (h2 : x.side = y.side) (h3 : x.card = y.card) (h4 : x.id = y.id) (h5 : x.other = y.other) (h6 : x.n = y.n) : x.cards ≠ y.cards := fun h7 => h (by cases x; cases y; simp_all)
set_option maxHeartbeats 4000000 in
theorem SameEvent_ok {m : Mp} {lx ly : List Value} {x y : Evt} (hx : EvR m lx x) (hy : EvR m ly y) : CS Try.prog 56 [.agg lx.toArray, .agg ly.toArray] m [] (Gives (.bool (decide (x = y)))) := by
  obtain ⟨v, rfl, sx⟩ := hx
  obtain ⟨w, rfl, sy⟩ := hy
  refine CS_of [.tmp 4] Try.func56 rfl rfl rfl ?_
  have F : ∀ m', Le m m' → CS Try.prog 55 [v, w] m' [] (Gives (.bool (decide (x.cards = y.cards)))) := fun m' hm => row_ok (sx.mono hm) (sy.mono hm)
  by_cases hxy : x = y
  · rw [decide_eq_true hxy]
    subst hxy
    rw [decide_eq_true rfl] at F
    refine TS_seq ?_
    refine TS_region ?_
    refine VS_step (S_box rfl rfl (fun b1 => ?_)) rfl
    refine VS_step (S_box rfl rfl (fun b2 => ?_)) rfl
    refine VS_pure (P_assign rfl) rfl rfl rfl ?_
    refine VS_nil ?_
    refine QS_then ?_
    refine TS_seq ?_
    refine TS_region ?_
    refine VS_pure (P_fieldAddr0 fo55_0 rfl) rfl rfl rfl ?_
    refine VS_read (S_loadB sg24 rfl (.there (.here)) rfl) rfl rfl rfl ?_
    refine VS_pure (P_fieldAddr0 fo55_0 rfl) rfl rfl rfl ?_
    refine VS_read (S_loadB sg24 rfl (.here) rfl) rfl rfl rfl ?_
    refine VS_pure (dt (P_eql rfl rfl) (by first | assumption | rfl | omega | decide)) rfl rfl rfl ?_
    refine VS_pure (P_move rfl) rfl rfl rfl ?_
    refine VS_pure (P_fieldAddr0 fo55_1 rfl) rfl rfl rfl ?_
    refine VS_read (S_loadB sg3 rfl (.there (.here)) rfl) rfl rfl rfl ?_
    refine VS_pure (P_fieldAddr0 fo55_1 rfl) rfl rfl rfl ?_
    refine VS_read (S_loadB sg3 rfl (.here) rfl) rfl rfl rfl ?_
    refine VS_pure (dt (P_eql rfl rfl) (by first | assumption | rfl | omega | decide)) rfl rfl rfl ?_
    refine VS_pure (P_pick_t rfl rfl) rfl rfl rfl ?_
    refine VS_pure (P_move rfl) rfl rfl rfl ?_
    refine VS_pure (P_fieldAddr0 fo55_2 rfl) rfl rfl rfl ?_
    refine VS_read (S_loadB sg3 rfl (.there (.here)) rfl) rfl rfl rfl ?_
    refine VS_pure (P_fieldAddr0 fo55_2 rfl) rfl rfl rfl ?_
    refine VS_read (S_loadB sg3 rfl (.here) rfl) rfl rfl rfl ?_
    refine VS_pure (dt (P_eql rfl rfl) (by first | assumption | rfl | omega | decide)) rfl rfl rfl ?_
    refine VS_pure (P_pick_t rfl rfl) rfl rfl rfl ?_
    refine VS_pure (P_move rfl) rfl rfl rfl ?_
    refine VS_pure (P_fieldAddr0 fo55_3 rfl) rfl rfl rfl ?_
    refine VS_read (S_loadB sg3 rfl (.there (.here)) rfl) rfl rfl rfl ?_
    refine VS_pure (P_fieldAddr0 fo55_3 rfl) rfl rfl rfl ?_
    refine VS_read (S_loadB sg3 rfl (.here) rfl) rfl rfl rfl ?_
    refine VS_pure (dt (P_eql rfl rfl) (by first | assumption | rfl | omega | decide)) rfl rfl rfl ?_
    refine VS_pure (P_pick_t rfl rfl) rfl rfl rfl ?_
    refine VS_pure (P_move rfl) rfl rfl rfl ?_
    refine VS_pure (P_fieldAddr0 fo55_4 rfl) rfl rfl rfl ?_
    refine VS_read (S_loadB sg3 rfl (.there (.here)) rfl) rfl rfl rfl ?_
    refine VS_pure (P_fieldAddr0 fo55_4 rfl) rfl rfl rfl ?_
    refine VS_read (S_loadB sg3 rfl (.here) rfl) rfl rfl rfl ?_
    refine VS_pure (dt (P_eql rfl rfl) (by first | assumption | rfl | omega | decide)) rfl rfl rfl ?_
    refine VS_pure (P_pick_t rfl rfl) rfl rfl rfl ?_
    refine VS_pure (P_move rfl) rfl rfl rfl ?_
    refine VS_pure (P_fieldAddr0 fo55_5 rfl) rfl rfl rfl ?_
    refine VS_read (S_loadB sg3 rfl (.there (.here)) rfl) rfl rfl rfl ?_
    refine VS_pure (P_fieldAddr0 fo55_5 rfl) rfl rfl rfl ?_
    refine VS_read (S_loadB sg3 rfl (.here) rfl) rfl rfl rfl ?_
    refine VS_pure (dt (P_eql rfl rfl) (by first | assumption | rfl | omega | decide)) rfl rfl rfl ?_
    refine VS_pure (P_pick_t rfl rfl) rfl rfl rfl ?_
    refine VS_pure (P_move rfl) rfl rfl rfl ?_
    refine VS_pure (P_fieldAddr0 fo55_6 rfl) rfl rfl rfl ?_
    refine VS_read (S_loadB sg25 rfl (.there (.here)) rfl) rfl rfl rfl ?_
    refine VS_pure (P_fieldAddr0 fo55_6 rfl) rfl rfl rfl ?_
    refine VS_read (S_loadB sg25 rfl (.here) rfl) rfl rfl rfl ?_
    refine VS_step (S_callR cl55 rfl (fun m' hm he => (F _ hm)) rfl ?_) rfl
    rintro _ rfl
    refine VS_pure (P_pick_t rfl rfl) rfl rfl rfl ?_
    refine VS_pure (P_assign rfl) rfl rfl rfl ?_
    refine VS_nil ?_
    refine QS_then ?_
    refine TS_ret ?_
    exact QS_ret [_] ⟨rfl, trivial⟩ [] (Pick.nil _) ⟨rfl, rfl⟩
  · rw [decide_eq_false hxy]
    by_cases g1 : x.kind = y.kind
    · skip
      by_cases g2 : x.side = y.side
      · skip
        by_cases g3 : x.card = y.card
        · skip
          by_cases g4 : x.id = y.id
          · skip
            by_cases g5 : x.other = y.other
            · skip
              by_cases g6 : x.n = y.n
              · skip
                have g7 := Evt_ne hxy g1 g2 g3 g4 g5 g6
                rw [decide_eq_false g7] at F
                refine TS_seq ?_
                refine TS_region ?_
                refine VS_step (S_box rfl rfl (fun b1 => ?_)) rfl
                refine VS_step (S_box rfl rfl (fun b2 => ?_)) rfl
                refine VS_pure (P_assign rfl) rfl rfl rfl ?_
                refine VS_nil ?_
                refine QS_then ?_
                refine TS_seq ?_
                refine TS_region ?_
                refine VS_pure (P_fieldAddr0 fo55_0 rfl) rfl rfl rfl ?_
                refine VS_read (S_loadB sg24 rfl (.there (.here)) rfl) rfl rfl rfl ?_
                refine VS_pure (P_fieldAddr0 fo55_0 rfl) rfl rfl rfl ?_
                refine VS_read (S_loadB sg24 rfl (.here) rfl) rfl rfl rfl ?_
                refine VS_pure (dt (P_eql rfl rfl) (by first | assumption | rfl | omega | decide)) rfl rfl rfl ?_
                refine VS_pure (P_move rfl) rfl rfl rfl ?_
                refine VS_pure (P_fieldAddr0 fo55_1 rfl) rfl rfl rfl ?_
                refine VS_read (S_loadB sg3 rfl (.there (.here)) rfl) rfl rfl rfl ?_
                refine VS_pure (P_fieldAddr0 fo55_1 rfl) rfl rfl rfl ?_
                refine VS_read (S_loadB sg3 rfl (.here) rfl) rfl rfl rfl ?_
                refine VS_pure (dt (P_eql rfl rfl) (by first | assumption | rfl | omega | decide)) rfl rfl rfl ?_
                refine VS_pure (P_pick_t rfl rfl) rfl rfl rfl ?_
                refine VS_pure (P_move rfl) rfl rfl rfl ?_
                refine VS_pure (P_fieldAddr0 fo55_2 rfl) rfl rfl rfl ?_
                refine VS_read (S_loadB sg3 rfl (.there (.here)) rfl) rfl rfl rfl ?_
                refine VS_pure (P_fieldAddr0 fo55_2 rfl) rfl rfl rfl ?_
                refine VS_read (S_loadB sg3 rfl (.here) rfl) rfl rfl rfl ?_
                refine VS_pure (dt (P_eql rfl rfl) (by first | assumption | rfl | omega | decide)) rfl rfl rfl ?_
                refine VS_pure (P_pick_t rfl rfl) rfl rfl rfl ?_
                refine VS_pure (P_move rfl) rfl rfl rfl ?_
                refine VS_pure (P_fieldAddr0 fo55_3 rfl) rfl rfl rfl ?_
                refine VS_read (S_loadB sg3 rfl (.there (.here)) rfl) rfl rfl rfl ?_
                refine VS_pure (P_fieldAddr0 fo55_3 rfl) rfl rfl rfl ?_
                refine VS_read (S_loadB sg3 rfl (.here) rfl) rfl rfl rfl ?_
                refine VS_pure (dt (P_eql rfl rfl) (by first | assumption | rfl | omega | decide)) rfl rfl rfl ?_
                refine VS_pure (P_pick_t rfl rfl) rfl rfl rfl ?_
                refine VS_pure (P_move rfl) rfl rfl rfl ?_
                refine VS_pure (P_fieldAddr0 fo55_4 rfl) rfl rfl rfl ?_
                refine VS_read (S_loadB sg3 rfl (.there (.here)) rfl) rfl rfl rfl ?_
                refine VS_pure (P_fieldAddr0 fo55_4 rfl) rfl rfl rfl ?_
                refine VS_read (S_loadB sg3 rfl (.here) rfl) rfl rfl rfl ?_
                refine VS_pure (dt (P_eql rfl rfl) (by first | assumption | rfl | omega | decide)) rfl rfl rfl ?_
                refine VS_pure (P_pick_t rfl rfl) rfl rfl rfl ?_
                refine VS_pure (P_move rfl) rfl rfl rfl ?_
                refine VS_pure (P_fieldAddr0 fo55_5 rfl) rfl rfl rfl ?_
                refine VS_read (S_loadB sg3 rfl (.there (.here)) rfl) rfl rfl rfl ?_
                refine VS_pure (P_fieldAddr0 fo55_5 rfl) rfl rfl rfl ?_
                refine VS_read (S_loadB sg3 rfl (.here) rfl) rfl rfl rfl ?_
                refine VS_pure (dt (P_eql rfl rfl) (by first | assumption | rfl | omega | decide)) rfl rfl rfl ?_
                refine VS_pure (P_pick_t rfl rfl) rfl rfl rfl ?_
                refine VS_pure (P_move rfl) rfl rfl rfl ?_
                refine VS_pure (P_fieldAddr0 fo55_6 rfl) rfl rfl rfl ?_
                refine VS_read (S_loadB sg25 rfl (.there (.here)) rfl) rfl rfl rfl ?_
                refine VS_pure (P_fieldAddr0 fo55_6 rfl) rfl rfl rfl ?_
                refine VS_read (S_loadB sg25 rfl (.here) rfl) rfl rfl rfl ?_
                refine VS_step (S_callR cl55 rfl (fun m' hm he => (F _ hm)) rfl ?_) rfl
                rintro _ rfl
                refine VS_pure (P_pick_t rfl rfl) rfl rfl rfl ?_
                refine VS_pure (P_assign rfl) rfl rfl rfl ?_
                refine VS_nil ?_
                refine QS_then ?_
                refine TS_ret ?_
                exact QS_ret [_] ⟨rfl, trivial⟩ [] (Pick.nil _) ⟨rfl, rfl⟩
              · refine TS_seq ?_
                refine TS_region ?_
                refine VS_step (S_box rfl rfl (fun b1 => ?_)) rfl
                refine VS_step (S_box rfl rfl (fun b2 => ?_)) rfl
                refine VS_pure (P_assign rfl) rfl rfl rfl ?_
                refine VS_nil ?_
                refine QS_then ?_
                refine TS_seq ?_
                refine TS_region ?_
                refine VS_pure (P_fieldAddr0 fo55_0 rfl) rfl rfl rfl ?_
                refine VS_read (S_loadB sg24 rfl (.there (.here)) rfl) rfl rfl rfl ?_
                refine VS_pure (P_fieldAddr0 fo55_0 rfl) rfl rfl rfl ?_
                refine VS_read (S_loadB sg24 rfl (.here) rfl) rfl rfl rfl ?_
                refine VS_pure (dt (P_eql rfl rfl) (by first | assumption | rfl | omega | decide)) rfl rfl rfl ?_
                refine VS_pure (P_move rfl) rfl rfl rfl ?_
                refine VS_pure (P_fieldAddr0 fo55_1 rfl) rfl rfl rfl ?_
                refine VS_read (S_loadB sg3 rfl (.there (.here)) rfl) rfl rfl rfl ?_
                refine VS_pure (P_fieldAddr0 fo55_1 rfl) rfl rfl rfl ?_
                refine VS_read (S_loadB sg3 rfl (.here) rfl) rfl rfl rfl ?_
                refine VS_pure (dt (P_eql rfl rfl) (by first | assumption | rfl | omega | decide)) rfl rfl rfl ?_
                refine VS_pure (P_pick_t rfl rfl) rfl rfl rfl ?_
                refine VS_pure (P_move rfl) rfl rfl rfl ?_
                refine VS_pure (P_fieldAddr0 fo55_2 rfl) rfl rfl rfl ?_
                refine VS_read (S_loadB sg3 rfl (.there (.here)) rfl) rfl rfl rfl ?_
                refine VS_pure (P_fieldAddr0 fo55_2 rfl) rfl rfl rfl ?_
                refine VS_read (S_loadB sg3 rfl (.here) rfl) rfl rfl rfl ?_
                refine VS_pure (dt (P_eql rfl rfl) (by first | assumption | rfl | omega | decide)) rfl rfl rfl ?_
                refine VS_pure (P_pick_t rfl rfl) rfl rfl rfl ?_
                refine VS_pure (P_move rfl) rfl rfl rfl ?_
                refine VS_pure (P_fieldAddr0 fo55_3 rfl) rfl rfl rfl ?_
                refine VS_read (S_loadB sg3 rfl (.there (.here)) rfl) rfl rfl rfl ?_
                refine VS_pure (P_fieldAddr0 fo55_3 rfl) rfl rfl rfl ?_
                refine VS_read (S_loadB sg3 rfl (.here) rfl) rfl rfl rfl ?_
                refine VS_pure (dt (P_eql rfl rfl) (by first | assumption | rfl | omega | decide)) rfl rfl rfl ?_
                refine VS_pure (P_pick_t rfl rfl) rfl rfl rfl ?_
                refine VS_pure (P_move rfl) rfl rfl rfl ?_
                refine VS_pure (P_fieldAddr0 fo55_4 rfl) rfl rfl rfl ?_
                refine VS_read (S_loadB sg3 rfl (.there (.here)) rfl) rfl rfl rfl ?_
                refine VS_pure (P_fieldAddr0 fo55_4 rfl) rfl rfl rfl ?_
                refine VS_read (S_loadB sg3 rfl (.here) rfl) rfl rfl rfl ?_
                refine VS_pure (dt (P_eql rfl rfl) (by first | assumption | rfl | omega | decide)) rfl rfl rfl ?_
                refine VS_pure (P_pick_t rfl rfl) rfl rfl rfl ?_
                refine VS_pure (P_move rfl) rfl rfl rfl ?_
                refine VS_pure (P_fieldAddr0 fo55_5 rfl) rfl rfl rfl ?_
                refine VS_read (S_loadB sg3 rfl (.there (.here)) rfl) rfl rfl rfl ?_
                refine VS_pure (P_fieldAddr0 fo55_5 rfl) rfl rfl rfl ?_
                refine VS_read (S_loadB sg3 rfl (.here) rfl) rfl rfl rfl ?_
                refine VS_pure (df (P_eql rfl rfl) (by first | assumption | omega | decide | exact fun hx => hx (by assumption))) rfl rfl rfl ?_
                refine VS_pure (P_pick_t rfl rfl) rfl rfl rfl ?_
                refine VS_pure (P_move rfl) rfl rfl rfl ?_
                refine VS_skip rfl rfl rfl ?_
                refine VS_skip rfl rfl rfl ?_
                refine VS_skip rfl rfl rfl ?_
                refine VS_skip rfl rfl rfl ?_
                refine VS_skip rfl rfl rfl ?_
                refine VS_pure (P_pick_f rfl rfl) rfl rfl rfl ?_
                refine VS_pure (P_assign rfl) rfl rfl rfl ?_
                refine VS_nil ?_
                refine QS_then ?_
                refine TS_ret ?_
                exact QS_ret [_] ⟨rfl, trivial⟩ [] (Pick.nil _) ⟨rfl, rfl⟩
            · refine TS_seq ?_
              refine TS_region ?_
              refine VS_step (S_box rfl rfl (fun b1 => ?_)) rfl
              refine VS_step (S_box rfl rfl (fun b2 => ?_)) rfl
              refine VS_pure (P_assign rfl) rfl rfl rfl ?_
              refine VS_nil ?_
              refine QS_then ?_
              refine TS_seq ?_
              refine TS_region ?_
              refine VS_pure (P_fieldAddr0 fo55_0 rfl) rfl rfl rfl ?_
              refine VS_read (S_loadB sg24 rfl (.there (.here)) rfl) rfl rfl rfl ?_
              refine VS_pure (P_fieldAddr0 fo55_0 rfl) rfl rfl rfl ?_
              refine VS_read (S_loadB sg24 rfl (.here) rfl) rfl rfl rfl ?_
              refine VS_pure (dt (P_eql rfl rfl) (by first | assumption | rfl | omega | decide)) rfl rfl rfl ?_
              refine VS_pure (P_move rfl) rfl rfl rfl ?_
              refine VS_pure (P_fieldAddr0 fo55_1 rfl) rfl rfl rfl ?_
              refine VS_read (S_loadB sg3 rfl (.there (.here)) rfl) rfl rfl rfl ?_
              refine VS_pure (P_fieldAddr0 fo55_1 rfl) rfl rfl rfl ?_
              refine VS_read (S_loadB sg3 rfl (.here) rfl) rfl rfl rfl ?_
              refine VS_pure (dt (P_eql rfl rfl) (by first | assumption | rfl | omega | decide)) rfl rfl rfl ?_
              refine VS_pure (P_pick_t rfl rfl) rfl rfl rfl ?_
              refine VS_pure (P_move rfl) rfl rfl rfl ?_
              refine VS_pure (P_fieldAddr0 fo55_2 rfl) rfl rfl rfl ?_
              refine VS_read (S_loadB sg3 rfl (.there (.here)) rfl) rfl rfl rfl ?_
              refine VS_pure (P_fieldAddr0 fo55_2 rfl) rfl rfl rfl ?_
              refine VS_read (S_loadB sg3 rfl (.here) rfl) rfl rfl rfl ?_
              refine VS_pure (dt (P_eql rfl rfl) (by first | assumption | rfl | omega | decide)) rfl rfl rfl ?_
              refine VS_pure (P_pick_t rfl rfl) rfl rfl rfl ?_
              refine VS_pure (P_move rfl) rfl rfl rfl ?_
              refine VS_pure (P_fieldAddr0 fo55_3 rfl) rfl rfl rfl ?_
              refine VS_read (S_loadB sg3 rfl (.there (.here)) rfl) rfl rfl rfl ?_
              refine VS_pure (P_fieldAddr0 fo55_3 rfl) rfl rfl rfl ?_
              refine VS_read (S_loadB sg3 rfl (.here) rfl) rfl rfl rfl ?_
              refine VS_pure (dt (P_eql rfl rfl) (by first | assumption | rfl | omega | decide)) rfl rfl rfl ?_
              refine VS_pure (P_pick_t rfl rfl) rfl rfl rfl ?_
              refine VS_pure (P_move rfl) rfl rfl rfl ?_
              refine VS_pure (P_fieldAddr0 fo55_4 rfl) rfl rfl rfl ?_
              refine VS_read (S_loadB sg3 rfl (.there (.here)) rfl) rfl rfl rfl ?_
              refine VS_pure (P_fieldAddr0 fo55_4 rfl) rfl rfl rfl ?_
              refine VS_read (S_loadB sg3 rfl (.here) rfl) rfl rfl rfl ?_
              refine VS_pure (df (P_eql rfl rfl) (by first | assumption | omega | decide | exact fun hx => hx (by assumption))) rfl rfl rfl ?_
              refine VS_pure (P_pick_t rfl rfl) rfl rfl rfl ?_
              refine VS_pure (P_move rfl) rfl rfl rfl ?_
              refine VS_skip rfl rfl rfl ?_
              refine VS_skip rfl rfl rfl ?_
              refine VS_skip rfl rfl rfl ?_
              refine VS_skip rfl rfl rfl ?_
              refine VS_skip rfl rfl rfl ?_
              refine VS_pure (P_pick_f rfl rfl) rfl rfl rfl ?_
              refine VS_pure (P_move rfl) rfl rfl rfl ?_
              refine VS_skip rfl rfl rfl ?_
              refine VS_skip rfl rfl rfl ?_
              refine VS_skip rfl rfl rfl ?_
              refine VS_skip rfl rfl rfl ?_
              refine VS_skip rfl rfl rfl ?_
              refine VS_pure (P_pick_f rfl rfl) rfl rfl rfl ?_
              refine VS_pure (P_assign rfl) rfl rfl rfl ?_
              refine VS_nil ?_
              refine QS_then ?_
              refine TS_ret ?_
              exact QS_ret [_] ⟨rfl, trivial⟩ [] (Pick.nil _) ⟨rfl, rfl⟩
          · refine TS_seq ?_
            refine TS_region ?_
            refine VS_step (S_box rfl rfl (fun b1 => ?_)) rfl
            refine VS_step (S_box rfl rfl (fun b2 => ?_)) rfl
            refine VS_pure (P_assign rfl) rfl rfl rfl ?_
            refine VS_nil ?_
            refine QS_then ?_
            refine TS_seq ?_
            refine TS_region ?_
            refine VS_pure (P_fieldAddr0 fo55_0 rfl) rfl rfl rfl ?_
            refine VS_read (S_loadB sg24 rfl (.there (.here)) rfl) rfl rfl rfl ?_
            refine VS_pure (P_fieldAddr0 fo55_0 rfl) rfl rfl rfl ?_
            refine VS_read (S_loadB sg24 rfl (.here) rfl) rfl rfl rfl ?_
            refine VS_pure (dt (P_eql rfl rfl) (by first | assumption | rfl | omega | decide)) rfl rfl rfl ?_
            refine VS_pure (P_move rfl) rfl rfl rfl ?_
            refine VS_pure (P_fieldAddr0 fo55_1 rfl) rfl rfl rfl ?_
            refine VS_read (S_loadB sg3 rfl (.there (.here)) rfl) rfl rfl rfl ?_
            refine VS_pure (P_fieldAddr0 fo55_1 rfl) rfl rfl rfl ?_
            refine VS_read (S_loadB sg3 rfl (.here) rfl) rfl rfl rfl ?_
            refine VS_pure (dt (P_eql rfl rfl) (by first | assumption | rfl | omega | decide)) rfl rfl rfl ?_
            refine VS_pure (P_pick_t rfl rfl) rfl rfl rfl ?_
            refine VS_pure (P_move rfl) rfl rfl rfl ?_
            refine VS_pure (P_fieldAddr0 fo55_2 rfl) rfl rfl rfl ?_
            refine VS_read (S_loadB sg3 rfl (.there (.here)) rfl) rfl rfl rfl ?_
            refine VS_pure (P_fieldAddr0 fo55_2 rfl) rfl rfl rfl ?_
            refine VS_read (S_loadB sg3 rfl (.here) rfl) rfl rfl rfl ?_
            refine VS_pure (dt (P_eql rfl rfl) (by first | assumption | rfl | omega | decide)) rfl rfl rfl ?_
            refine VS_pure (P_pick_t rfl rfl) rfl rfl rfl ?_
            refine VS_pure (P_move rfl) rfl rfl rfl ?_
            refine VS_pure (P_fieldAddr0 fo55_3 rfl) rfl rfl rfl ?_
            refine VS_read (S_loadB sg3 rfl (.there (.here)) rfl) rfl rfl rfl ?_
            refine VS_pure (P_fieldAddr0 fo55_3 rfl) rfl rfl rfl ?_
            refine VS_read (S_loadB sg3 rfl (.here) rfl) rfl rfl rfl ?_
            refine VS_pure (df (P_eql rfl rfl) (by first | assumption | omega | decide | exact fun hx => hx (by assumption))) rfl rfl rfl ?_
            refine VS_pure (P_pick_t rfl rfl) rfl rfl rfl ?_
            refine VS_pure (P_move rfl) rfl rfl rfl ?_
            refine VS_skip rfl rfl rfl ?_
            refine VS_skip rfl rfl rfl ?_
            refine VS_skip rfl rfl rfl ?_
            refine VS_skip rfl rfl rfl ?_
            refine VS_skip rfl rfl rfl ?_
            refine VS_pure (P_pick_f rfl rfl) rfl rfl rfl ?_
            refine VS_pure (P_move rfl) rfl rfl rfl ?_
            refine VS_skip rfl rfl rfl ?_
            refine VS_skip rfl rfl rfl ?_
            refine VS_skip rfl rfl rfl ?_
            refine VS_skip rfl rfl rfl ?_
            refine VS_skip rfl rfl rfl ?_
            refine VS_pure (P_pick_f rfl rfl) rfl rfl rfl ?_
            refine VS_pure (P_move rfl) rfl rfl rfl ?_
            refine VS_skip rfl rfl rfl ?_
            refine VS_skip rfl rfl rfl ?_
            refine VS_skip rfl rfl rfl ?_
            refine VS_skip rfl rfl rfl ?_
            refine VS_skip rfl rfl rfl ?_
            refine VS_pure (P_pick_f rfl rfl) rfl rfl rfl ?_
            refine VS_pure (P_assign rfl) rfl rfl rfl ?_
            refine VS_nil ?_
            refine QS_then ?_
            refine TS_ret ?_
            exact QS_ret [_] ⟨rfl, trivial⟩ [] (Pick.nil _) ⟨rfl, rfl⟩
        · refine TS_seq ?_
          refine TS_region ?_
          refine VS_step (S_box rfl rfl (fun b1 => ?_)) rfl
          refine VS_step (S_box rfl rfl (fun b2 => ?_)) rfl
          refine VS_pure (P_assign rfl) rfl rfl rfl ?_
          refine VS_nil ?_
          refine QS_then ?_
          refine TS_seq ?_
          refine TS_region ?_
          refine VS_pure (P_fieldAddr0 fo55_0 rfl) rfl rfl rfl ?_
          refine VS_read (S_loadB sg24 rfl (.there (.here)) rfl) rfl rfl rfl ?_
          refine VS_pure (P_fieldAddr0 fo55_0 rfl) rfl rfl rfl ?_
          refine VS_read (S_loadB sg24 rfl (.here) rfl) rfl rfl rfl ?_
          refine VS_pure (dt (P_eql rfl rfl) (by first | assumption | rfl | omega | decide)) rfl rfl rfl ?_
          refine VS_pure (P_move rfl) rfl rfl rfl ?_
          refine VS_pure (P_fieldAddr0 fo55_1 rfl) rfl rfl rfl ?_
          refine VS_read (S_loadB sg3 rfl (.there (.here)) rfl) rfl rfl rfl ?_
          refine VS_pure (P_fieldAddr0 fo55_1 rfl) rfl rfl rfl ?_
          refine VS_read (S_loadB sg3 rfl (.here) rfl) rfl rfl rfl ?_
          refine VS_pure (dt (P_eql rfl rfl) (by first | assumption | rfl | omega | decide)) rfl rfl rfl ?_
          refine VS_pure (P_pick_t rfl rfl) rfl rfl rfl ?_
          refine VS_pure (P_move rfl) rfl rfl rfl ?_
          refine VS_pure (P_fieldAddr0 fo55_2 rfl) rfl rfl rfl ?_
          refine VS_read (S_loadB sg3 rfl (.there (.here)) rfl) rfl rfl rfl ?_
          refine VS_pure (P_fieldAddr0 fo55_2 rfl) rfl rfl rfl ?_
          refine VS_read (S_loadB sg3 rfl (.here) rfl) rfl rfl rfl ?_
          refine VS_pure (df (P_eql rfl rfl) (by first | assumption | omega | decide | exact fun hx => hx (by assumption))) rfl rfl rfl ?_
          refine VS_pure (P_pick_t rfl rfl) rfl rfl rfl ?_
          refine VS_pure (P_move rfl) rfl rfl rfl ?_
          refine VS_skip rfl rfl rfl ?_
          refine VS_skip rfl rfl rfl ?_
          refine VS_skip rfl rfl rfl ?_
          refine VS_skip rfl rfl rfl ?_
          refine VS_skip rfl rfl rfl ?_
          refine VS_pure (P_pick_f rfl rfl) rfl rfl rfl ?_
          refine VS_pure (P_move rfl) rfl rfl rfl ?_
          refine VS_skip rfl rfl rfl ?_
          refine VS_skip rfl rfl rfl ?_
          refine VS_skip rfl rfl rfl ?_
          refine VS_skip rfl rfl rfl ?_
          refine VS_skip rfl rfl rfl ?_
          refine VS_pure (P_pick_f rfl rfl) rfl rfl rfl ?_
          refine VS_pure (P_move rfl) rfl rfl rfl ?_
          refine VS_skip rfl rfl rfl ?_
          refine VS_skip rfl rfl rfl ?_
          refine VS_skip rfl rfl rfl ?_
          refine VS_skip rfl rfl rfl ?_
          refine VS_skip rfl rfl rfl ?_
          refine VS_pure (P_pick_f rfl rfl) rfl rfl rfl ?_
          refine VS_pure (P_move rfl) rfl rfl rfl ?_
          refine VS_skip rfl rfl rfl ?_
          refine VS_skip rfl rfl rfl ?_
          refine VS_skip rfl rfl rfl ?_
          refine VS_skip rfl rfl rfl ?_
          refine VS_skip rfl rfl rfl ?_
          refine VS_pure (P_pick_f rfl rfl) rfl rfl rfl ?_
          refine VS_pure (P_assign rfl) rfl rfl rfl ?_
          refine VS_nil ?_
          refine QS_then ?_
          refine TS_ret ?_
          exact QS_ret [_] ⟨rfl, trivial⟩ [] (Pick.nil _) ⟨rfl, rfl⟩
      · refine TS_seq ?_
        refine TS_region ?_
        refine VS_step (S_box rfl rfl (fun b1 => ?_)) rfl
        refine VS_step (S_box rfl rfl (fun b2 => ?_)) rfl
        refine VS_pure (P_assign rfl) rfl rfl rfl ?_
        refine VS_nil ?_
        refine QS_then ?_
        refine TS_seq ?_
        refine TS_region ?_
        refine VS_pure (P_fieldAddr0 fo55_0 rfl) rfl rfl rfl ?_
        refine VS_read (S_loadB sg24 rfl (.there (.here)) rfl) rfl rfl rfl ?_
        refine VS_pure (P_fieldAddr0 fo55_0 rfl) rfl rfl rfl ?_
        refine VS_read (S_loadB sg24 rfl (.here) rfl) rfl rfl rfl ?_
        refine VS_pure (dt (P_eql rfl rfl) (by first | assumption | rfl | omega | decide)) rfl rfl rfl ?_
        refine VS_pure (P_move rfl) rfl rfl rfl ?_
        refine VS_pure (P_fieldAddr0 fo55_1 rfl) rfl rfl rfl ?_
        refine VS_read (S_loadB sg3 rfl (.there (.here)) rfl) rfl rfl rfl ?_
        refine VS_pure (P_fieldAddr0 fo55_1 rfl) rfl rfl rfl ?_
        refine VS_read (S_loadB sg3 rfl (.here) rfl) rfl rfl rfl ?_
        refine VS_pure (df (P_eql rfl rfl) (by first | assumption | omega | decide | exact fun hx => hx (by assumption))) rfl rfl rfl ?_
        refine VS_pure (P_pick_t rfl rfl) rfl rfl rfl ?_
        refine VS_pure (P_move rfl) rfl rfl rfl ?_
        refine VS_skip rfl rfl rfl ?_
        refine VS_skip rfl rfl rfl ?_
        refine VS_skip rfl rfl rfl ?_
        refine VS_skip rfl rfl rfl ?_
        refine VS_skip rfl rfl rfl ?_
        refine VS_pure (P_pick_f rfl rfl) rfl rfl rfl ?_
        refine VS_pure (P_move rfl) rfl rfl rfl ?_
        refine VS_skip rfl rfl rfl ?_
        refine VS_skip rfl rfl rfl ?_
        refine VS_skip rfl rfl rfl ?_
        refine VS_skip rfl rfl rfl ?_
        refine VS_skip rfl rfl rfl ?_
        refine VS_pure (P_pick_f rfl rfl) rfl rfl rfl ?_
        refine VS_pure (P_move rfl) rfl rfl rfl ?_
        refine VS_skip rfl rfl rfl ?_
        refine VS_skip rfl rfl rfl ?_
        refine VS_skip rfl rfl rfl ?_
        refine VS_skip rfl rfl rfl ?_
        refine VS_skip rfl rfl rfl ?_
        refine VS_pure (P_pick_f rfl rfl) rfl rfl rfl ?_
        refine VS_pure (P_move rfl) rfl rfl rfl ?_
        refine VS_skip rfl rfl rfl ?_
        refine VS_skip rfl rfl rfl ?_
        refine VS_skip rfl rfl rfl ?_
        refine VS_skip rfl rfl rfl ?_
        refine VS_skip rfl rfl rfl ?_
        refine VS_pure (P_pick_f rfl rfl) rfl rfl rfl ?_
        refine VS_pure (P_move rfl) rfl rfl rfl ?_
        refine VS_skip rfl rfl rfl ?_
        refine VS_skip rfl rfl rfl ?_
        refine VS_skip rfl rfl rfl ?_
        refine VS_skip rfl rfl rfl ?_
        refine VS_skip rfl rfl rfl ?_
        refine VS_pure (P_pick_f rfl rfl) rfl rfl rfl ?_
        refine VS_pure (P_assign rfl) rfl rfl rfl ?_
        refine VS_nil ?_
        refine QS_then ?_
        refine TS_ret ?_
        exact QS_ret [_] ⟨rfl, trivial⟩ [] (Pick.nil _) ⟨rfl, rfl⟩
    · refine TS_seq ?_
      refine TS_region ?_
      refine VS_step (S_box rfl rfl (fun b1 => ?_)) rfl
      refine VS_step (S_box rfl rfl (fun b2 => ?_)) rfl
      refine VS_pure (P_assign rfl) rfl rfl rfl ?_
      refine VS_nil ?_
      refine QS_then ?_
      refine TS_seq ?_
      refine TS_region ?_
      refine VS_pure (P_fieldAddr0 fo55_0 rfl) rfl rfl rfl ?_
      refine VS_read (S_loadB sg24 rfl (.there (.here)) rfl) rfl rfl rfl ?_
      refine VS_pure (P_fieldAddr0 fo55_0 rfl) rfl rfl rfl ?_
      refine VS_read (S_loadB sg24 rfl (.here) rfl) rfl rfl rfl ?_
      refine VS_pure (df (P_eql rfl rfl) (by first | assumption | omega | decide | exact fun hx => hx (by assumption))) rfl rfl rfl ?_
      refine VS_pure (P_move rfl) rfl rfl rfl ?_
      refine VS_skip rfl rfl rfl ?_
      refine VS_skip rfl rfl rfl ?_
      refine VS_skip rfl rfl rfl ?_
      refine VS_skip rfl rfl rfl ?_
      refine VS_skip rfl rfl rfl ?_
      refine VS_pure (P_pick_f rfl rfl) rfl rfl rfl ?_
      refine VS_pure (P_move rfl) rfl rfl rfl ?_
      refine VS_skip rfl rfl rfl ?_
      refine VS_skip rfl rfl rfl ?_
      refine VS_skip rfl rfl rfl ?_
      refine VS_skip rfl rfl rfl ?_
      refine VS_skip rfl rfl rfl ?_
      refine VS_pure (P_pick_f rfl rfl) rfl rfl rfl ?_
      refine VS_pure (P_move rfl) rfl rfl rfl ?_
      refine VS_skip rfl rfl rfl ?_
      refine VS_skip rfl rfl rfl ?_
      refine VS_skip rfl rfl rfl ?_
      refine VS_skip rfl rfl rfl ?_
      refine VS_skip rfl rfl rfl ?_
      refine VS_pure (P_pick_f rfl rfl) rfl rfl rfl ?_
      refine VS_pure (P_move rfl) rfl rfl rfl ?_
      refine VS_skip rfl rfl rfl ?_
      refine VS_skip rfl rfl rfl ?_
      refine VS_skip rfl rfl rfl ?_
      refine VS_skip rfl rfl rfl ?_
      refine VS_skip rfl rfl rfl ?_
      refine VS_pure (P_pick_f rfl rfl) rfl rfl rfl ?_
      refine VS_pure (P_move rfl) rfl rfl rfl ?_
      refine VS_skip rfl rfl rfl ?_
      refine VS_skip rfl rfl rfl ?_
      refine VS_skip rfl rfl rfl ?_
      refine VS_skip rfl rfl rfl ?_
      refine VS_skip rfl rfl rfl ?_
      refine VS_pure (P_pick_f rfl rfl) rfl rfl rfl ?_
      refine VS_pure (P_move rfl) rfl rfl rfl ?_
      refine VS_skip rfl rfl rfl ?_
      refine VS_skip rfl rfl rfl ?_
      refine VS_skip rfl rfl rfl ?_
      refine VS_skip rfl rfl rfl ?_
      refine VS_skip rfl rfl rfl ?_
      refine VS_pure (P_pick_f rfl rfl) rfl rfl rfl ?_
      refine VS_pure (P_assign rfl) rfl rfl rfl ?_
      refine VS_nil ?_
      refine QS_then ?_
      refine TS_ret ?_
      exact QS_ret [_] ⟨rfl, trivial⟩ [] (Pick.nil _) ⟨rfl, rfl⟩
theorem SlE_at {m : Mp} {a : Option Addr} {vs : List (List Value)} {es : List Evt} (hr : Rd m a vs.flatten) (hl : vs.length = es.length) (hg : ∀ (i : Nat) (l : List Value) (e : Evt), vs[i]? = some l → es[i]? = some e → EvR m l e) {i : Nat} (hi : i < es.length) :
    ∃ l, EvR m l es[i] ∧ At m ((sa a).add (i * 7)) l ∧ a.isSome = true := by
  have hiv : i < vs.length := by omega
  have h7 : ∀ (j : Nat) l, vs[j]? = some l → l.length = 7 := fun j l hj => by
    have hje : j < es.length := by have := (List.getElem?_eq_some_iff.1 hj).1; omega
    obtain ⟨v, rfl, _⟩ := hg j l es[j] hj (List.getElem?_eq_getElem hje)
    rfl
  refine ⟨vs[i], hg i _ _ (List.getElem?_eq_getElem hiv) (List.getElem?_eq_getElem hi), ?_⟩
  have hfl : ∀ (us : List (List Value)) (k : Nat), (∀ l ∈ us, l.length = 7) → (h : k < us.length) → (us.flatten.drop (k * 7)).take 7 = us[k] := by
    intro us
    induction us with
    | nil => intro k _ h; simp at h
    | cons u r ih =>
      intro k hu h
      have hu7 : u.length = 7 := hu u (by simp)
      cases k with
      | zero => simp [hu7]
      | succ k =>
        have := ih k (fun l hl => hu l (by simp [hl])) (by simpa using h)
        rw [List.flatten_cons, show (k + 1) * 7 = u.length + k * 7 by omega, ← List.drop_drop, List.drop_left, this]
        rfl
  have h8 := hfl vs i (fun l hl => by obtain ⟨j, hj, rfl⟩ := List.mem_iff_getElem.1 hl; exact h7 j _ (List.getElem?_eq_getElem hj)) hiv
  have hpos : 0 < vs.flatten.length := by
    have h9 := congrArg List.length h8
    rw [h7 i _ (List.getElem?_eq_getElem hiv), List.length_take, List.length_drop] at h9
    omega
  have := hr.elem (i * 7) 7
  rw [h8] at this
  exact ⟨this, hr.isSome hpos⟩
set_option maxHeartbeats 4000000 in
theorem SameEvents_ok {m : Mp} {v w : Value} {xs ys : List Evt} (hx : SlE m v xs) (hy : SlE m w ys) : CS Try.prog 32 [v, w] m [] (Gives (.bool (decide (xs = ys)))) := by
  obtain ⟨a, c, vs, rfl, ra, la, ma, ga⟩ := hx
  obtain ⟨b, e, us, rfl, rb, lb, mb, gb⟩ := hy
  refine CS_of [.tmp 4] Try.func32 rfl rfl rfl ?_
  have hmx : xs.length ≤ 9223372036854775807 := ma
  by_cases hl : xs.length = ys.length
  · refine TS_seq ?_
    refine TS_region ?_
    refine VS_pure (P_assign rfl) rfl rfl rfl ?_
    refine VS_nil ?_
    refine QS_then ?_
    refine TS_seq ?_
    refine TS_seq ?_
    refine TS_region ?_
    refine VS_pure (P_move rfl) rfl rfl rfl ?_
    refine VS_pure (P_len il30 rfl) rfl rfl rfl ?_
    refine VS_pure (P_move rfl) rfl rfl rfl ?_
    refine VS_pure (P_len il30 rfl) rfl rfl rfl ?_
    refine VS_pure (df (P_neq rfl rfl) (by first | assumption | omega | decide | exact fun hx => hx (by assumption))) rfl rfl rfl ?_
    refine VS_nil ?_
    refine QS_then ?_
    refine TS_false rfl ?_
    refine TS_skip ?_
    refine QS_then ?_
    refine TS_seq ?_
    refine TS_seq ?_
    refine TS_region ?_
    refine VS_pure (P_assign rfl) rfl rfl rfl ?_
    refine VS_nil ?_
    refine QS_then ?_
    refine TS_block ?_
    refine TS_loop (fun i : Nat => [(0, .slice a xs.length c), (1, .slice b ys.length e), (5, .int .i64 (i : Nat))]) (fun _ => []) (fun i => i ≤ xs.length ∧ xs.take i = ys.take i) (fun i => xs.length - i) 0 ⟨rfl, rfl, rfl, trivial⟩ (Pick.nil _) ⟨Nat.zero_le _, rfl⟩ ?_
    rintro i ⟨hi, ht⟩
    by_cases hlt : i < xs.length
    · have hlt2 : i < ys.length := by omega
      obtain ⟨l1, e1, t1, ha⟩ := SlE_at ra la ga hlt
      obtain ⟨l2, e2, t2, hb⟩ := SlE_at rb lb gb hlt2
      have q1 := e1
      have q2 := e2
      obtain ⟨v1, rfl, _⟩ := q1
      obtain ⟨v2, rfl, _⟩ := q2
      have F : ∀ m', Le m m' → _ := fun m' hm => SameEvent_ok (e1.mono hm) (e2.mono hm)
      by_cases hq : xs[i] = ys[i]
      · rw [decide_eq_true hq] at F
        refine TS_seq ?_
        refine TS_seq ?_
        refine TS_region ?_
        refine VS_pure (P_move rfl) rfl rfl rfl ?_
        refine VS_pure (P_move rfl) rfl rfl rfl ?_
        refine VS_pure (P_len il30 rfl) rfl rfl rfl ?_
        refine VS_pure (dt (P_lss rfl rfl) (by first | assumption | rfl | omega | decide)) rfl rfl rfl ?_
        refine VS_nil ?_
        refine QS_then ?_
        refine TS_true rfl ?_
        refine TS_skip ?_
        refine QS_then ?_
        refine TS_seq ?_
        refine TS_block ?_
        refine TS_seq ?_
        refine TS_draw (.step 0 .pure (.step 1 .pure (.step 2 .pure (.step 4 .pure (.step 5 .pure (.step 6 .pure (.step 3 .read (.step 7 .read (.step 8 .kept (.step 9 .pure (.done))))))))))) mixed (by kernel_rfl) (fun _ _ _ _ hq => hq) ?_
        refine VTS_pure rfl (P_move rfl) rfl rfl rfl ?_
        refine VTS_pure rfl (P_move rfl) rfl rfl rfl ?_
        refine VTS_pure rfl (P_indexAddrN ez30 rfl rfl ha (by omega)) rfl rfl rfl ?_
        refine VTS_pure rfl (P_move rfl) rfl rfl rfl ?_
        refine VTS_pure rfl (P_move rfl) rfl rfl rfl ?_
        refine VTS_pure rfl (P_indexAddrN ez30 rfl rfl hb (by omega)) rfl rfl rfl ?_
        refine VTS_read rfl (S_loadAt ag55 rfl rfl t1) rfl rfl rfl ?_
        refine VTS_read rfl (S_loadAt ag55 rfl rfl t2) rfl rfl rfl ?_
        refine VTS_kept rfl (S_callR cl56 rfl (fun m' hm he => (F _ hm)) rfl ?_) rfl
        rintro _ rfl
        refine VTS_pure rfl (P_not rfl) rfl rfl rfl ?_
        refine VTS_nil ?_
        refine QS_then ?_
        refine TS_false rfl ?_
        refine TS_skip ?_
        refine QS_block ?_
        refine QS_then ?_
        refine TS_region ?_
        refine VS_pure (P_move rfl) rfl rfl rfl ?_
        refine VS_pure (P_add rfl rfl (w64 (by omega) (by omega))) rfl rfl rfl ?_
        refine VS_pure (P_assign rfl) rfl rfl rfl ?_
        refine VS_nil ?_
        exact QS_round (i + 1) ⟨rfl, rfl, rfl, trivial⟩ (Pick.nil _) ⟨hlt, take_step ht hlt hlt2 hq⟩ (by omega)
      · have hne : xs ≠ ys := fun h => hq (by subst h; rfl)
        rw [decide_eq_false hne]
        rw [decide_eq_false hq] at F
        refine TS_seq ?_
        refine TS_seq ?_
        refine TS_region ?_
        refine VS_pure (P_move rfl) rfl rfl rfl ?_
        refine VS_pure (P_move rfl) rfl rfl rfl ?_
        refine VS_pure (P_len il30 rfl) rfl rfl rfl ?_
        refine VS_pure (dt (P_lss rfl rfl) (by first | assumption | rfl | omega | decide)) rfl rfl rfl ?_
        refine VS_nil ?_
        refine QS_then ?_
        refine TS_true rfl ?_
        refine TS_skip ?_
        refine QS_then ?_
        refine TS_seq ?_
        refine TS_block ?_
        refine TS_seq ?_
        refine TS_draw (.step 0 .pure (.step 1 .pure (.step 2 .pure (.step 4 .pure (.step 5 .pure (.step 6 .pure (.step 3 .read (.step 7 .read (.step 8 .kept (.step 9 .pure (.done))))))))))) mixed (by kernel_rfl) (fun _ _ _ _ hq => hq) ?_
        refine VTS_pure rfl (P_move rfl) rfl rfl rfl ?_
        refine VTS_pure rfl (P_move rfl) rfl rfl rfl ?_
        refine VTS_pure rfl (P_indexAddrN ez30 rfl rfl ha (by omega)) rfl rfl rfl ?_
        refine VTS_pure rfl (P_move rfl) rfl rfl rfl ?_
        refine VTS_pure rfl (P_move rfl) rfl rfl rfl ?_
        refine VTS_pure rfl (P_indexAddrN ez30 rfl rfl hb (by omega)) rfl rfl rfl ?_
        refine VTS_read rfl (S_loadAt ag55 rfl rfl t1) rfl rfl rfl ?_
        refine VTS_read rfl (S_loadAt ag55 rfl rfl t2) rfl rfl rfl ?_
        refine VTS_kept rfl (S_callR cl56 rfl (fun m' hm he => (F _ hm)) rfl ?_) rfl
        rintro _ rfl
        refine VTS_pure rfl (P_not rfl) rfl rfl rfl ?_
        refine VTS_nil ?_
        refine QS_then ?_
        refine TS_true rfl ?_
        refine TS_seq ?_
        refine TS_region ?_
        refine VS_pure (P_assign rfl) rfl rfl rfl ?_
        refine VS_nil ?_
        refine QS_then ?_
        refine TS_ret ?_
        refine QS_block_ret ?_
        refine QS_then_ret ?_
        refine QS_round_ret ?_
        refine QS_block_ret ?_
        refine QS_then_ret ?_
        exact QS_ret [_] ⟨rfl, trivial⟩ [] (Pick.nil _) ⟨rfl, rfl⟩
    · rw [decide_eq_true (take_all ht (by omega) hl)]
      refine TS_seq ?_
      refine TS_seq ?_
      refine TS_region ?_
      refine VS_pure (P_move rfl) rfl rfl rfl ?_
      refine VS_pure (P_move rfl) rfl rfl rfl ?_
      refine VS_pure (P_len il30 rfl) rfl rfl rfl ?_
      refine VS_pure (df (P_lss rfl rfl) (by first | assumption | omega | decide | exact fun hx => hx (by assumption))) rfl rfl rfl ?_
      refine VS_nil ?_
      refine QS_then ?_
      refine TS_false rfl ?_
      refine TS_exit ?_
      refine QS_then_exit ?_
      refine QS_round_exit ?_
      refine QS_block_here ?_
      refine QS_then ?_
      refine TS_seq ?_
      refine TS_region ?_
      refine VS_pure (P_assign rfl) rfl rfl rfl ?_
      refine VS_nil ?_
      refine QS_then ?_
      refine TS_ret ?_
      exact QS_ret [_] ⟨rfl, trivial⟩ [] (Pick.nil _) ⟨rfl, rfl⟩
  · have hne : xs ≠ ys := fun h => hl (by rw [h])
    rw [decide_eq_false hne]
    refine TS_seq ?_
    refine TS_region ?_
    refine VS_pure (P_assign rfl) rfl rfl rfl ?_
    refine VS_nil ?_
    refine QS_then ?_
    refine TS_seq ?_
    refine TS_seq ?_
    refine TS_region ?_
    refine VS_pure (P_move rfl) rfl rfl rfl ?_
    refine VS_pure (P_len il30 rfl) rfl rfl rfl ?_
    refine VS_pure (P_move rfl) rfl rfl rfl ?_
    refine VS_pure (P_len il30 rfl) rfl rfl rfl ?_
    refine VS_pure (dt (P_neq rfl rfl) (by first | assumption | rfl | omega | decide)) rfl rfl rfl ?_
    refine VS_nil ?_
    refine QS_then ?_
    refine TS_true rfl ?_
    refine TS_seq ?_
    refine TS_region ?_
    refine VS_pure (P_assign rfl) rfl rfl rfl ?_
    refine VS_nil ?_
    refine QS_then ?_
    refine TS_ret ?_
    refine QS_then_ret ?_
    exact QS_ret [_] ⟨rfl, trivial⟩ [] (Pick.nil _) ⟨rfl, rfl⟩
end Go.Proofs.Ytbpihgphicmdiaa
