/- A part of the proof: contracts of functions of the program. No condition. -/
import Derived.Test.YtbpihgphicmdiaaWiB
namespace Go.Proofs.Ytbpihgphicmdiaa
open Go.Eng Wi
set_option maxHeartbeats 8000000 in
theorem SameL_ok {m : Mp} {lx ly : List Value} {x y : Ltr} (hx : LtR m lx x) (hy : LtR m ly y) : CS Try.prog 14 [.agg lx.toArray, .agg ly.toArray] m [] (Gives (.bool (decide (x = y)))) := by
  obtain ⟨vb, vc, vi, vp, ve, rfl, xb, xc, xi, xp, xe⟩ := hx
  obtain ⟨wb, wc, wi, wp, we, rfl, yb, yc, yi, yp, ye⟩ := hy
  obtain ⟨a1, c1, rfl, r1, k1⟩ := xb
  obtain ⟨a2, c2, rfl, r2, k2⟩ := xc
  obtain ⟨e1, d1, rfl, s1, j1⟩ := yb
  obtain ⟨e2, d2, rfl, s2, j2⟩ := yc
  refine CS_of [.tmp 4] Try.func14 rfl rfl rfl ?_
  have F1 : ∀ m', Le m m' → CS Try.prog 31 [.agg [.int .i8 x.act.op, iV x.act.side, iV x.act.place, iV x.act.target, vi, vp].toArray, .agg [.int .i8 y.act.op, iV y.act.side, iV y.act.place, iV y.act.target, wi, wp].toArray] m' [] (Gives (.bool (decide (x.act = y.act)))) := fun m' hm => SameAction_ok ⟨_, _, rfl, xi.mono hm, xp.mono hm⟩ ⟨_, _, rfl, yi.mono hm, yp.mono hm⟩
  have F2 : ∀ m', Le m m' → CS Try.prog 32 [ve, we] m' [] (Gives (.bool (decide (x.evs = y.evs)))) := fun m' hm => SameEvents_ok (xe.mono hm) (ye.mono hm)
  have hma : x.cards.length ≤ 9223372036854775807 := k2
  have ne : ∀ {p : Prop}, (x = y → p) → ¬ p → x ≠ y := fun h hn e => hn (h e)
  by_cases g1 : x.kind = y.kind
  · skip
    by_cases g2 : x.table = y.table
    · skip
      by_cases g3 : x.text = y.text
      · skip
        by_cases g4 : x.bytes = y.bytes
        · skip
          by_cases g5 : x.to_ = y.to_
          · skip
            by_cases g6 : x.e = y.e
            · skip
              by_cases g7 : x.cards.length = y.cards.length
              · refine TS_seq ?_
                refine TS_region ?_
                refine VS_step (S_box rfl rfl (fun b1 => ?_)) rfl
                refine VS_step (S_box rfl rfl (fun b2 => ?_)) rfl
                refine VS_pure (P_assign rfl) rfl rfl rfl ?_
                refine VS_nil ?_
                refine QS_then ?_
                refine TS_seq ?_
                refine TS_seq ?_
                refine TS_region ?_
                refine VS_pure (P_fieldAddr0 fo32_0 rfl) rfl rfl rfl ?_
                refine VS_read (S_loadB sg5 rfl (.there (.here)) rfl) rfl rfl rfl ?_
                refine VS_pure (P_fieldAddr0 fo32_0 rfl) rfl rfl rfl ?_
                refine VS_read (S_loadB sg5 rfl (.here) rfl) rfl rfl rfl ?_
                refine VS_pure (df (P_neq rfl rfl) (by first | assumption | omega | decide | exact fun hx => hx (by assumption))) rfl rfl rfl ?_
                refine VS_pure (P_move rfl) rfl rfl rfl ?_
                refine VS_pure (P_fieldAddr0 fo32_1 rfl) rfl rfl rfl ?_
                refine VS_read (S_loadB sg3 rfl (.there (.here)) rfl) rfl rfl rfl ?_
                refine VS_pure (P_fieldAddr0 fo32_1 rfl) rfl rfl rfl ?_
                refine VS_read (S_loadB sg3 rfl (.here) rfl) rfl rfl rfl ?_
                refine VS_pure (df (P_neq rfl rfl) (by first | assumption | omega | decide | exact fun hx => hx (by assumption))) rfl rfl rfl ?_
                refine VS_pure (P_pick_f rfl rfl) rfl rfl rfl ?_
                refine VS_pure (P_move rfl) rfl rfl rfl ?_
                refine VS_pure (P_fieldAddr0 fo32_2 rfl) rfl rfl rfl ?_
                refine VS_read (S_loadB sg9 rfl (.there (.here)) rfl) rfl rfl rfl ?_
                refine VS_pure (P_fieldAddr0 fo32_2 rfl) rfl rfl rfl ?_
                refine VS_read (S_loadB sg9 rfl (.here) rfl) rfl rfl rfl ?_
                refine VS_pure (df (P_sneq rfl rfl) (by first | assumption | omega | decide | exact fun hx => hx (by assumption))) rfl rfl rfl ?_
                refine VS_pure (P_pick_f rfl rfl) rfl rfl rfl ?_
                refine VS_pure (P_move rfl) rfl rfl rfl ?_
                refine VS_pure (P_fieldAddr0 fo32_3 rfl) rfl rfl rfl ?_
                refine VS_read (S_loadB sg22 rfl (.there (.here)) rfl) rfl rfl rfl ?_
                refine VS_read (S_bstr bt22 st9 rfl (by first | rfl | omega) r1) rfl rfl rfl ?_
                refine VS_pure (P_fieldAddr0 fo32_3 rfl) rfl rfl rfl ?_
                refine VS_read (S_loadB sg22 rfl (.here) rfl) rfl rfl rfl ?_
                refine VS_read (S_bstr bt22 st9 rfl (by first | rfl | omega) s1) rfl rfl rfl ?_
                refine VS_pure (df (P_sneq rfl rfl) (by first | assumption | omega | decide | exact fun hx => hx (by assumption))) rfl rfl rfl ?_
                refine VS_pure (P_pick_f rfl rfl) rfl rfl rfl ?_
                refine VS_pure (P_move rfl) rfl rfl rfl ?_
                refine VS_pure (P_fieldAddr0 fo32_6 rfl) rfl rfl rfl ?_
                refine VS_read (S_loadB sg5 rfl (.there (.here)) rfl) rfl rfl rfl ?_
                refine VS_pure (P_fieldAddr0 fo32_6 rfl) rfl rfl rfl ?_
                refine VS_read (S_loadB sg5 rfl (.here) rfl) rfl rfl rfl ?_
                refine VS_pure (df (P_neq rfl rfl) (by first | assumption | omega | decide | exact fun hx => hx (by assumption))) rfl rfl rfl ?_
                refine VS_pure (P_pick_f rfl rfl) rfl rfl rfl ?_
                refine VS_pure (P_move rfl) rfl rfl rfl ?_
                refine VS_pure (P_fieldAddr0 fo32_7 rfl) rfl rfl rfl ?_
                refine VS_read (S_loadB sg29 rfl (.there (.here)) rfl) rfl rfl rfl ?_
                refine VS_pure (P_fieldAddr0 fo32_7 rfl) rfl rfl rfl ?_
                refine VS_read (S_loadB sg29 rfl (.here) rfl) rfl rfl rfl ?_
                refine VS_pure (df (P_neq rfl rfl) (by first | assumption | omega | decide | exact fun hx => hx (by assumption))) rfl rfl rfl ?_
                refine VS_pure (P_pick_f rfl rfl) rfl rfl rfl ?_
                refine VS_pure (P_move rfl) rfl rfl rfl ?_
                refine VS_pure (P_fieldAddr0 fo32_4 rfl) rfl rfl rfl ?_
                refine VS_read (S_loadB sg23 rfl (.there (.here)) rfl) rfl rfl rfl ?_
                refine VS_pure (P_len il23 rfl) rfl rfl rfl ?_
                refine VS_pure (P_fieldAddr0 fo32_4 rfl) rfl rfl rfl ?_
                refine VS_read (S_loadB sg23 rfl (.here) rfl) rfl rfl rfl ?_
                refine VS_pure (P_len il23 rfl) rfl rfl rfl ?_
                refine VS_pure (df (P_neq rfl rfl) (by first | assumption | omega | decide | exact fun hx => hx (by assumption))) rfl rfl rfl ?_
                refine VS_pure (P_pick_f rfl rfl) rfl rfl rfl ?_
                refine VS_nil ?_
                refine QS_then ?_
                refine TS_false rfl ?_
                refine TS_skip ?_
                refine QS_then ?_
                refine TS_seq ?_
                refine TS_seq ?_
                refine TS_region ?_
                refine VS_pure (P_assign rfl) rfl rfl rfl ?_
                refine VS_nil ?_
                refine QS_then ?_
                refine TS_block ?_
                refine TS_loop (fun i : Nat => [(2, .pointer (some ⟨b1, 0, none⟩)), (3, .pointer (some ⟨b2, 0, none⟩)), (5, .int .i64 (i : Nat))]) (fun _ => [cel b2 [.int .u8 y.kind, iV y.table, sV y.text, .slice e1 y.bytes.length d1, .slice e2 y.cards.length d2, .int .i8 y.act.op, iV y.act.side, iV y.act.place, iV y.act.target, wi, wp, .int .u8 y.to_, iV y.e, we] 32, cel b1 [.int .u8 x.kind, iV x.table, sV x.text, .slice a1 x.bytes.length c1, .slice a2 x.cards.length c2, .int .i8 x.act.op, iV x.act.side, iV x.act.place, iV x.act.target, vi, vp, .int .u8 x.to_, iV x.e, ve] 32]) (fun i => i ≤ x.cards.length ∧ x.cards.take i = y.cards.take i) (fun i => x.cards.length - i) 0 ⟨rfl, rfl, rfl, trivial⟩ (Pick.refl _) ⟨Nat.zero_le _, rfl⟩ ?_
                rintro i ⟨hi, ht⟩
                by_cases hlt : i < x.cards.length
                · have hlt2 : i < y.cards.length := by omega
                  have ha := r2.isSome (by simp; omega)
                  have hb := s2.isSome (by simp; omega)
                  have t1 := Rd_get r2 hlt
                  have t2 := Rd_get s2 hlt2
                  unfold sV at t1 t2
                  by_cases hq : x.cards[i] = y.cards[i]
                  · refine TS_seq ?_
                    refine TS_seq ?_
                    refine TS_region ?_
                    refine VS_pure (P_move rfl) rfl rfl rfl ?_
                    refine VS_pure (P_fieldAddr0 fo32_4 rfl) rfl rfl rfl ?_
                    refine VS_read (S_loadB sg23 rfl (.there (.here)) rfl) rfl rfl rfl ?_
                    refine VS_pure (P_len il23 rfl) rfl rfl rfl ?_
                    refine VS_pure (dt (P_lss rfl rfl) (by first | assumption | rfl | omega | decide)) rfl rfl rfl ?_
                    refine VS_nil ?_
                    refine QS_then ?_
                    refine TS_true rfl ?_
                    refine TS_skip ?_
                    refine QS_then ?_
                    refine TS_seq ?_
                    refine TS_block ?_
                    refine TS_seq ?_
                    refine TS_draw (.step 0 .pure (.step 2 .pure (.step 5 .pure (.step 7 .pure (.step 1 .read (.step 3 .pure (.step 4 .read (.step 6 .read (.step 8 .pure (.step 9 .read (.step 10 .pure (.done)))))))))))) mixed (by kernel_rfl) (fun _ _ _ _ hq => hq) ?_
                    refine VTS_pure rfl (P_fieldAddr0 fo32_4 rfl) rfl rfl rfl ?_
                    refine VTS_pure rfl (P_move rfl) rfl rfl rfl ?_
                    refine VTS_pure rfl (P_fieldAddr0 fo32_4 rfl) rfl rfl rfl ?_
                    refine VTS_pure rfl (P_move rfl) rfl rfl rfl ?_
                    refine VTS_read rfl (S_loadB sg23 rfl (.there (.here)) rfl) rfl rfl rfl ?_
                    refine VTS_pure rfl (P_indexAddr1N ez23 rfl rfl ha (by omega)) rfl rfl rfl ?_
                    refine VTS_read rfl (S_load sg9 rfl t1) rfl rfl rfl ?_
                    refine VTS_read rfl (S_loadB sg23 rfl (.here) rfl) rfl rfl rfl ?_
                    refine VTS_pure rfl (P_indexAddr1N ez23 rfl rfl hb (by omega)) rfl rfl rfl ?_
                    refine VTS_read rfl (S_load sg9 rfl t2) rfl rfl rfl ?_
                    refine VTS_pure rfl (df (P_sneq rfl rfl) (by first | assumption | omega | decide | exact fun hx => hx (by assumption))) rfl rfl rfl ?_
                    refine VTS_nil ?_
                    refine QS_then ?_
                    refine TS_false rfl ?_
                    refine TS_skip ?_
                    refine QS_block ?_
                    refine QS_then ?_
                    refine TS_region ?_
                    refine VS_pure (P_move rfl) rfl rfl rfl ?_
                    refine VS_pure (P_add rfl rfl (w64 (by omega) (by omega))) rfl rfl rfl ?_
                    refine VS_pure (P_assign rfl) rfl rfl rfl ?_
                    refine VS_nil ?_
                    exact QS_round (i + 1) ⟨rfl, rfl, rfl, trivial⟩ (Pick.refl _) ⟨hlt, take_step ht hlt hlt2 hq⟩ (by omega)
                  · rw [decide_eq_false (ne (fun h => by subst h; rfl) hq)]
                    refine TS_seq ?_
                    refine TS_seq ?_
                    refine TS_region ?_
                    refine VS_pure (P_move rfl) rfl rfl rfl ?_
                    refine VS_pure (P_fieldAddr0 fo32_4 rfl) rfl rfl rfl ?_
                    refine VS_read (S_loadB sg23 rfl (.there (.here)) rfl) rfl rfl rfl ?_
                    refine VS_pure (P_len il23 rfl) rfl rfl rfl ?_
                    refine VS_pure (dt (P_lss rfl rfl) (by first | assumption | rfl | omega | decide)) rfl rfl rfl ?_
                    refine VS_nil ?_
                    refine QS_then ?_
                    refine TS_true rfl ?_
                    refine TS_skip ?_
                    refine QS_then ?_
                    refine TS_seq ?_
                    refine TS_block ?_
                    refine TS_seq ?_
                    refine TS_draw (.step 0 .pure (.step 2 .pure (.step 5 .pure (.step 7 .pure (.step 1 .read (.step 3 .pure (.step 4 .read (.step 6 .read (.step 8 .pure (.step 9 .read (.step 10 .pure (.done)))))))))))) mixed (by kernel_rfl) (fun _ _ _ _ hq => hq) ?_
                    refine VTS_pure rfl (P_fieldAddr0 fo32_4 rfl) rfl rfl rfl ?_
                    refine VTS_pure rfl (P_move rfl) rfl rfl rfl ?_
                    refine VTS_pure rfl (P_fieldAddr0 fo32_4 rfl) rfl rfl rfl ?_
                    refine VTS_pure rfl (P_move rfl) rfl rfl rfl ?_
                    refine VTS_read rfl (S_loadB sg23 rfl (.there (.here)) rfl) rfl rfl rfl ?_
                    refine VTS_pure rfl (P_indexAddr1N ez23 rfl rfl ha (by omega)) rfl rfl rfl ?_
                    refine VTS_read rfl (S_load sg9 rfl t1) rfl rfl rfl ?_
                    refine VTS_read rfl (S_loadB sg23 rfl (.here) rfl) rfl rfl rfl ?_
                    refine VTS_pure rfl (P_indexAddr1N ez23 rfl rfl hb (by omega)) rfl rfl rfl ?_
                    refine VTS_read rfl (S_load sg9 rfl t2) rfl rfl rfl ?_
                    refine VTS_pure rfl (dt (P_sneq rfl rfl) (by first | assumption | rfl | omega | decide)) rfl rfl rfl ?_
                    refine VTS_nil ?_
                    refine QS_then ?_
                    refine TS_true rfl ?_
                    refine TS_seq ?_
                    refine TS_region ?_
                    refine VS_pure (P_assign rfl) rfl rfl rfl ?_
                    refine VS_nil ?_
                    refine QS_then ?_
                    refine TS_ret ?_
                    refine QS_block_ret ?_
                    refine QS_then_ret ?_
                    refine QS_round_ret ?_
                    refine QS_block_ret ?_
                    refine QS_then_ret ?_
                    exact QS_ret [_] ⟨rfl, trivial⟩ [] (Pick.nil _) ⟨rfl, rfl⟩
                · have hc := take_all ht (by omega) g7
                  by_cases g8 : x.act = y.act
                  · rw [decide_eq_true g8] at F1
                    have hiff : decide (x = y) = decide (x.evs = y.evs) := decide_eq_decide.2 ⟨fun h => by rw [h], fun h => by cases x; cases y; simp_all⟩
                    rw [hiff]
                    refine TS_seq ?_
                    refine TS_seq ?_
                    refine TS_region ?_
                    refine VS_pure (P_move rfl) rfl rfl rfl ?_
                    refine VS_pure (P_fieldAddr0 fo32_4 rfl) rfl rfl rfl ?_
                    refine VS_read (S_loadB sg23 rfl (.there (.here)) rfl) rfl rfl rfl ?_
                    refine VS_pure (P_len il23 rfl) rfl rfl rfl ?_
                    refine VS_pure (df (P_lss rfl rfl) (by first | assumption | omega | decide | exact fun hx => hx (by assumption))) rfl rfl rfl ?_
                    refine VS_nil ?_
                    refine QS_then ?_
                    refine TS_false rfl ?_
                    refine TS_exit ?_
                    refine QS_then_exit ?_
                    refine QS_round_exit ?_
                    refine QS_block_here ?_
                    refine QS_then ?_
                    refine TS_seq ?_
                    refine TS_region ?_
                    refine VS_pure (P_fieldAddr0 fo32_5 rfl) rfl rfl rfl ?_
                    refine VS_read (S_loadBO ag28 rfl (.there (.here)) rfl) rfl rfl rfl ?_
                    refine VS_pure (P_fieldAddr0 fo32_5 rfl) rfl rfl rfl ?_
                    refine VS_read (S_loadBO ag28 rfl (.here) rfl) rfl rfl rfl ?_
                    refine VS_step (S_callR cl31 rfl (fun m' hm he => (F1 _ hm)) rfl ?_) rfl
                    rintro _ rfl
                    refine VS_pure (P_move rfl) rfl rfl rfl ?_
                    refine VS_pure (P_fieldAddr0 fo32_8 rfl) rfl rfl rfl ?_
                    refine VS_read (S_loadB sg30 rfl (.there (.here)) rfl) rfl rfl rfl ?_
                    refine VS_pure (P_fieldAddr0 fo32_8 rfl) rfl rfl rfl ?_
                    refine VS_read (S_loadB sg30 rfl (.here) rfl) rfl rfl rfl ?_
                    refine VS_step (S_callR cl32 rfl (fun m' hm he => (F2 _ hm)) rfl ?_) rfl
                    rintro _ rfl
                    refine VS_pure (P_pick_t rfl rfl) rfl rfl rfl ?_
                    refine VS_pure (P_assign rfl) rfl rfl rfl ?_
                    refine VS_nil ?_
                    refine QS_then ?_
                    refine TS_ret ?_
                    exact QS_ret [_] ⟨rfl, trivial⟩ [] (Pick.nil _) ⟨rfl, rfl⟩
                  · rw [decide_eq_false (ne (fun h => by rw [h]) g8)]
                    rw [decide_eq_false g8] at F1
                    refine TS_seq ?_
                    refine TS_seq ?_
                    refine TS_region ?_
                    refine VS_pure (P_move rfl) rfl rfl rfl ?_
                    refine VS_pure (P_fieldAddr0 fo32_4 rfl) rfl rfl rfl ?_
                    refine VS_read (S_loadB sg23 rfl (.there (.here)) rfl) rfl rfl rfl ?_
                    refine VS_pure (P_len il23 rfl) rfl rfl rfl ?_
                    refine VS_pure (df (P_lss rfl rfl) (by first | assumption | omega | decide | exact fun hx => hx (by assumption))) rfl rfl rfl ?_
                    refine VS_nil ?_
                    refine QS_then ?_
                    refine TS_false rfl ?_
                    refine TS_exit ?_
                    refine QS_then_exit ?_
                    refine QS_round_exit ?_
                    refine QS_block_here ?_
                    refine QS_then ?_
                    refine TS_seq ?_
                    refine TS_region ?_
                    refine VS_pure (P_fieldAddr0 fo32_5 rfl) rfl rfl rfl ?_
                    refine VS_read (S_loadBO ag28 rfl (.there (.here)) rfl) rfl rfl rfl ?_
                    refine VS_pure (P_fieldAddr0 fo32_5 rfl) rfl rfl rfl ?_
                    refine VS_read (S_loadBO ag28 rfl (.here) rfl) rfl rfl rfl ?_
                    refine VS_step (S_callR cl31 rfl (fun m' hm he => (F1 _ hm)) rfl ?_) rfl
                    rintro _ rfl
                    refine VS_pure (P_move rfl) rfl rfl rfl ?_
                    refine VS_skip rfl rfl rfl ?_
                    refine VS_skip rfl rfl rfl ?_
                    refine VS_skip rfl rfl rfl ?_
                    refine VS_skip rfl rfl rfl ?_
                    refine VS_skip rfl rfl rfl ?_
                    refine VS_pure (P_pick_f rfl rfl) rfl rfl rfl ?_
                    refine VS_pure (P_assign rfl) rfl rfl rfl ?_
                    refine VS_nil ?_
                    refine QS_then ?_
                    refine TS_ret ?_
                    exact QS_ret [_] ⟨rfl, trivial⟩ [] (Pick.nil _) ⟨rfl, rfl⟩
              · rw [decide_eq_false (ne (fun h => by rw [h]) g7)]
                refine TS_seq ?_
                refine TS_region ?_
                refine VS_step (S_box rfl rfl (fun b1 => ?_)) rfl
                refine VS_step (S_box rfl rfl (fun b2 => ?_)) rfl
                refine VS_pure (P_assign rfl) rfl rfl rfl ?_
                refine VS_nil ?_
                refine QS_then ?_
                refine TS_seq ?_
                refine TS_seq ?_
                refine TS_region ?_
                refine VS_pure (P_fieldAddr0 fo32_0 rfl) rfl rfl rfl ?_
                refine VS_read (S_loadB sg5 rfl (.there (.here)) rfl) rfl rfl rfl ?_
                refine VS_pure (P_fieldAddr0 fo32_0 rfl) rfl rfl rfl ?_
                refine VS_read (S_loadB sg5 rfl (.here) rfl) rfl rfl rfl ?_
                refine VS_pure (df (P_neq rfl rfl) (by first | assumption | omega | decide | exact fun hx => hx (by assumption))) rfl rfl rfl ?_
                refine VS_pure (P_move rfl) rfl rfl rfl ?_
                refine VS_pure (P_fieldAddr0 fo32_1 rfl) rfl rfl rfl ?_
                refine VS_read (S_loadB sg3 rfl (.there (.here)) rfl) rfl rfl rfl ?_
                refine VS_pure (P_fieldAddr0 fo32_1 rfl) rfl rfl rfl ?_
                refine VS_read (S_loadB sg3 rfl (.here) rfl) rfl rfl rfl ?_
                refine VS_pure (df (P_neq rfl rfl) (by first | assumption | omega | decide | exact fun hx => hx (by assumption))) rfl rfl rfl ?_
                refine VS_pure (P_pick_f rfl rfl) rfl rfl rfl ?_
                refine VS_pure (P_move rfl) rfl rfl rfl ?_
                refine VS_pure (P_fieldAddr0 fo32_2 rfl) rfl rfl rfl ?_
                refine VS_read (S_loadB sg9 rfl (.there (.here)) rfl) rfl rfl rfl ?_
                refine VS_pure (P_fieldAddr0 fo32_2 rfl) rfl rfl rfl ?_
                refine VS_read (S_loadB sg9 rfl (.here) rfl) rfl rfl rfl ?_
                refine VS_pure (df (P_sneq rfl rfl) (by first | assumption | omega | decide | exact fun hx => hx (by assumption))) rfl rfl rfl ?_
                refine VS_pure (P_pick_f rfl rfl) rfl rfl rfl ?_
                refine VS_pure (P_move rfl) rfl rfl rfl ?_
                refine VS_pure (P_fieldAddr0 fo32_3 rfl) rfl rfl rfl ?_
                refine VS_read (S_loadB sg22 rfl (.there (.here)) rfl) rfl rfl rfl ?_
                refine VS_read (S_bstr bt22 st9 rfl (by first | rfl | omega) r1) rfl rfl rfl ?_
                refine VS_pure (P_fieldAddr0 fo32_3 rfl) rfl rfl rfl ?_
                refine VS_read (S_loadB sg22 rfl (.here) rfl) rfl rfl rfl ?_
                refine VS_read (S_bstr bt22 st9 rfl (by first | rfl | omega) s1) rfl rfl rfl ?_
                refine VS_pure (df (P_sneq rfl rfl) (by first | assumption | omega | decide | exact fun hx => hx (by assumption))) rfl rfl rfl ?_
                refine VS_pure (P_pick_f rfl rfl) rfl rfl rfl ?_
                refine VS_pure (P_move rfl) rfl rfl rfl ?_
                refine VS_pure (P_fieldAddr0 fo32_6 rfl) rfl rfl rfl ?_
                refine VS_read (S_loadB sg5 rfl (.there (.here)) rfl) rfl rfl rfl ?_
                refine VS_pure (P_fieldAddr0 fo32_6 rfl) rfl rfl rfl ?_
                refine VS_read (S_loadB sg5 rfl (.here) rfl) rfl rfl rfl ?_
                refine VS_pure (df (P_neq rfl rfl) (by first | assumption | omega | decide | exact fun hx => hx (by assumption))) rfl rfl rfl ?_
                refine VS_pure (P_pick_f rfl rfl) rfl rfl rfl ?_
                refine VS_pure (P_move rfl) rfl rfl rfl ?_
                refine VS_pure (P_fieldAddr0 fo32_7 rfl) rfl rfl rfl ?_
                refine VS_read (S_loadB sg29 rfl (.there (.here)) rfl) rfl rfl rfl ?_
                refine VS_pure (P_fieldAddr0 fo32_7 rfl) rfl rfl rfl ?_
                refine VS_read (S_loadB sg29 rfl (.here) rfl) rfl rfl rfl ?_
                refine VS_pure (df (P_neq rfl rfl) (by first | assumption | omega | decide | exact fun hx => hx (by assumption))) rfl rfl rfl ?_
                refine VS_pure (P_pick_f rfl rfl) rfl rfl rfl ?_
                refine VS_pure (P_move rfl) rfl rfl rfl ?_
                refine VS_pure (P_fieldAddr0 fo32_4 rfl) rfl rfl rfl ?_
                refine VS_read (S_loadB sg23 rfl (.there (.here)) rfl) rfl rfl rfl ?_
                refine VS_pure (P_len il23 rfl) rfl rfl rfl ?_
                refine VS_pure (P_fieldAddr0 fo32_4 rfl) rfl rfl rfl ?_
                refine VS_read (S_loadB sg23 rfl (.here) rfl) rfl rfl rfl ?_
                refine VS_pure (P_len il23 rfl) rfl rfl rfl ?_
                refine VS_pure (dt (P_neq rfl rfl) (by first | assumption | rfl | omega | decide)) rfl rfl rfl ?_
                refine VS_pure (P_pick_f rfl rfl) rfl rfl rfl ?_
                refine VS_nil ?_
                refine QS_then ?_
                refine TS_true rfl ?_
                refine TS_seq ?_
                refine TS_region ?_
                refine VS_pure (P_assign rfl) rfl rfl rfl ?_
                refine VS_nil ?_
                refine QS_then ?_
                refine TS_ret ?_
                refine QS_then_ret ?_
                exact QS_ret [_] ⟨rfl, trivial⟩ [] (Pick.nil _) ⟨rfl, rfl⟩
            · rw [decide_eq_false (ne (fun h => by rw [h]) g6)]
              refine TS_seq ?_
              refine TS_region ?_
              refine VS_step (S_box rfl rfl (fun b1 => ?_)) rfl
              refine VS_step (S_box rfl rfl (fun b2 => ?_)) rfl
              refine VS_pure (P_assign rfl) rfl rfl rfl ?_
              refine VS_nil ?_
              refine QS_then ?_
              refine TS_seq ?_
              refine TS_seq ?_
              refine TS_region ?_
              refine VS_pure (P_fieldAddr0 fo32_0 rfl) rfl rfl rfl ?_
              refine VS_read (S_loadB sg5 rfl (.there (.here)) rfl) rfl rfl rfl ?_
              refine VS_pure (P_fieldAddr0 fo32_0 rfl) rfl rfl rfl ?_
              refine VS_read (S_loadB sg5 rfl (.here) rfl) rfl rfl rfl ?_
              refine VS_pure (df (P_neq rfl rfl) (by first | assumption | omega | decide | exact fun hx => hx (by assumption))) rfl rfl rfl ?_
              refine VS_pure (P_move rfl) rfl rfl rfl ?_
              refine VS_pure (P_fieldAddr0 fo32_1 rfl) rfl rfl rfl ?_
              refine VS_read (S_loadB sg3 rfl (.there (.here)) rfl) rfl rfl rfl ?_
              refine VS_pure (P_fieldAddr0 fo32_1 rfl) rfl rfl rfl ?_
              refine VS_read (S_loadB sg3 rfl (.here) rfl) rfl rfl rfl ?_
              refine VS_pure (df (P_neq rfl rfl) (by first | assumption | omega | decide | exact fun hx => hx (by assumption))) rfl rfl rfl ?_
              refine VS_pure (P_pick_f rfl rfl) rfl rfl rfl ?_
              refine VS_pure (P_move rfl) rfl rfl rfl ?_
              refine VS_pure (P_fieldAddr0 fo32_2 rfl) rfl rfl rfl ?_
              refine VS_read (S_loadB sg9 rfl (.there (.here)) rfl) rfl rfl rfl ?_
              refine VS_pure (P_fieldAddr0 fo32_2 rfl) rfl rfl rfl ?_
              refine VS_read (S_loadB sg9 rfl (.here) rfl) rfl rfl rfl ?_
              refine VS_pure (df (P_sneq rfl rfl) (by first | assumption | omega | decide | exact fun hx => hx (by assumption))) rfl rfl rfl ?_
              refine VS_pure (P_pick_f rfl rfl) rfl rfl rfl ?_
              refine VS_pure (P_move rfl) rfl rfl rfl ?_
              refine VS_pure (P_fieldAddr0 fo32_3 rfl) rfl rfl rfl ?_
              refine VS_read (S_loadB sg22 rfl (.there (.here)) rfl) rfl rfl rfl ?_
              refine VS_read (S_bstr bt22 st9 rfl (by first | rfl | omega) r1) rfl rfl rfl ?_
              refine VS_pure (P_fieldAddr0 fo32_3 rfl) rfl rfl rfl ?_
              refine VS_read (S_loadB sg22 rfl (.here) rfl) rfl rfl rfl ?_
              refine VS_read (S_bstr bt22 st9 rfl (by first | rfl | omega) s1) rfl rfl rfl ?_
              refine VS_pure (df (P_sneq rfl rfl) (by first | assumption | omega | decide | exact fun hx => hx (by assumption))) rfl rfl rfl ?_
              refine VS_pure (P_pick_f rfl rfl) rfl rfl rfl ?_
              refine VS_pure (P_move rfl) rfl rfl rfl ?_
              refine VS_pure (P_fieldAddr0 fo32_6 rfl) rfl rfl rfl ?_
              refine VS_read (S_loadB sg5 rfl (.there (.here)) rfl) rfl rfl rfl ?_
              refine VS_pure (P_fieldAddr0 fo32_6 rfl) rfl rfl rfl ?_
              refine VS_read (S_loadB sg5 rfl (.here) rfl) rfl rfl rfl ?_
              refine VS_pure (df (P_neq rfl rfl) (by first | assumption | omega | decide | exact fun hx => hx (by assumption))) rfl rfl rfl ?_
              refine VS_pure (P_pick_f rfl rfl) rfl rfl rfl ?_
              refine VS_pure (P_move rfl) rfl rfl rfl ?_
              refine VS_pure (P_fieldAddr0 fo32_7 rfl) rfl rfl rfl ?_
              refine VS_read (S_loadB sg29 rfl (.there (.here)) rfl) rfl rfl rfl ?_
              refine VS_pure (P_fieldAddr0 fo32_7 rfl) rfl rfl rfl ?_
              refine VS_read (S_loadB sg29 rfl (.here) rfl) rfl rfl rfl ?_
              refine VS_pure (dt (P_neq rfl rfl) (by first | assumption | rfl | omega | decide)) rfl rfl rfl ?_
              refine VS_pure (P_pick_f rfl rfl) rfl rfl rfl ?_
              refine VS_pure (P_move rfl) rfl rfl rfl ?_
              refine VS_skip rfl rfl rfl ?_
              refine VS_skip rfl rfl rfl ?_
              refine VS_skip rfl rfl rfl ?_
              refine VS_skip rfl rfl rfl ?_
              refine VS_skip rfl rfl rfl ?_
              refine VS_skip rfl rfl rfl ?_
              refine VS_skip rfl rfl rfl ?_
              refine VS_pure (P_pick_t rfl rfl) rfl rfl rfl ?_
              refine VS_nil ?_
              refine QS_then ?_
              refine TS_true rfl ?_
              refine TS_seq ?_
              refine TS_region ?_
              refine VS_pure (P_assign rfl) rfl rfl rfl ?_
              refine VS_nil ?_
              refine QS_then ?_
              refine TS_ret ?_
              refine QS_then_ret ?_
              exact QS_ret [_] ⟨rfl, trivial⟩ [] (Pick.nil _) ⟨rfl, rfl⟩
          · rw [decide_eq_false (ne (fun h => by rw [h]) g5)]
            refine TS_seq ?_
            refine TS_region ?_
            refine VS_step (S_box rfl rfl (fun b1 => ?_)) rfl
            refine VS_step (S_box rfl rfl (fun b2 => ?_)) rfl
            refine VS_pure (P_assign rfl) rfl rfl rfl ?_
            refine VS_nil ?_
            refine QS_then ?_
            refine TS_seq ?_
            refine TS_seq ?_
            refine TS_region ?_
            refine VS_pure (P_fieldAddr0 fo32_0 rfl) rfl rfl rfl ?_
            refine VS_read (S_loadB sg5 rfl (.there (.here)) rfl) rfl rfl rfl ?_
            refine VS_pure (P_fieldAddr0 fo32_0 rfl) rfl rfl rfl ?_
            refine VS_read (S_loadB sg5 rfl (.here) rfl) rfl rfl rfl ?_
            refine VS_pure (df (P_neq rfl rfl) (by first | assumption | omega | decide | exact fun hx => hx (by assumption))) rfl rfl rfl ?_
            refine VS_pure (P_move rfl) rfl rfl rfl ?_
            refine VS_pure (P_fieldAddr0 fo32_1 rfl) rfl rfl rfl ?_
            refine VS_read (S_loadB sg3 rfl (.there (.here)) rfl) rfl rfl rfl ?_
            refine VS_pure (P_fieldAddr0 fo32_1 rfl) rfl rfl rfl ?_
            refine VS_read (S_loadB sg3 rfl (.here) rfl) rfl rfl rfl ?_
            refine VS_pure (df (P_neq rfl rfl) (by first | assumption | omega | decide | exact fun hx => hx (by assumption))) rfl rfl rfl ?_
            refine VS_pure (P_pick_f rfl rfl) rfl rfl rfl ?_
            refine VS_pure (P_move rfl) rfl rfl rfl ?_
            refine VS_pure (P_fieldAddr0 fo32_2 rfl) rfl rfl rfl ?_
            refine VS_read (S_loadB sg9 rfl (.there (.here)) rfl) rfl rfl rfl ?_
            refine VS_pure (P_fieldAddr0 fo32_2 rfl) rfl rfl rfl ?_
            refine VS_read (S_loadB sg9 rfl (.here) rfl) rfl rfl rfl ?_
            refine VS_pure (df (P_sneq rfl rfl) (by first | assumption | omega | decide | exact fun hx => hx (by assumption))) rfl rfl rfl ?_
            refine VS_pure (P_pick_f rfl rfl) rfl rfl rfl ?_
            refine VS_pure (P_move rfl) rfl rfl rfl ?_
            refine VS_pure (P_fieldAddr0 fo32_3 rfl) rfl rfl rfl ?_
            refine VS_read (S_loadB sg22 rfl (.there (.here)) rfl) rfl rfl rfl ?_
            refine VS_read (S_bstr bt22 st9 rfl (by first | rfl | omega) r1) rfl rfl rfl ?_
            refine VS_pure (P_fieldAddr0 fo32_3 rfl) rfl rfl rfl ?_
            refine VS_read (S_loadB sg22 rfl (.here) rfl) rfl rfl rfl ?_
            refine VS_read (S_bstr bt22 st9 rfl (by first | rfl | omega) s1) rfl rfl rfl ?_
            refine VS_pure (df (P_sneq rfl rfl) (by first | assumption | omega | decide | exact fun hx => hx (by assumption))) rfl rfl rfl ?_
            refine VS_pure (P_pick_f rfl rfl) rfl rfl rfl ?_
            refine VS_pure (P_move rfl) rfl rfl rfl ?_
            refine VS_pure (P_fieldAddr0 fo32_6 rfl) rfl rfl rfl ?_
            refine VS_read (S_loadB sg5 rfl (.there (.here)) rfl) rfl rfl rfl ?_
            refine VS_pure (P_fieldAddr0 fo32_6 rfl) rfl rfl rfl ?_
            refine VS_read (S_loadB sg5 rfl (.here) rfl) rfl rfl rfl ?_
            refine VS_pure (dt (P_neq rfl rfl) (by first | assumption | rfl | omega | decide)) rfl rfl rfl ?_
            refine VS_pure (P_pick_f rfl rfl) rfl rfl rfl ?_
            refine VS_pure (P_move rfl) rfl rfl rfl ?_
            refine VS_skip rfl rfl rfl ?_
            refine VS_skip rfl rfl rfl ?_
            refine VS_skip rfl rfl rfl ?_
            refine VS_skip rfl rfl rfl ?_
            refine VS_skip rfl rfl rfl ?_
            refine VS_pure (P_pick_t rfl rfl) rfl rfl rfl ?_
            refine VS_pure (P_move rfl) rfl rfl rfl ?_
            refine VS_skip rfl rfl rfl ?_
            refine VS_skip rfl rfl rfl ?_
            refine VS_skip rfl rfl rfl ?_
            refine VS_skip rfl rfl rfl ?_
            refine VS_skip rfl rfl rfl ?_
            refine VS_skip rfl rfl rfl ?_
            refine VS_skip rfl rfl rfl ?_
            refine VS_pure (P_pick_t rfl rfl) rfl rfl rfl ?_
            refine VS_nil ?_
            refine QS_then ?_
            refine TS_true rfl ?_
            refine TS_seq ?_
            refine TS_region ?_
            refine VS_pure (P_assign rfl) rfl rfl rfl ?_
            refine VS_nil ?_
            refine QS_then ?_
            refine TS_ret ?_
            refine QS_then_ret ?_
            exact QS_ret [_] ⟨rfl, trivial⟩ [] (Pick.nil _) ⟨rfl, rfl⟩
        · rw [decide_eq_false (ne (fun h => by rw [h]) g4)]
          refine TS_seq ?_
          refine TS_region ?_
          refine VS_step (S_box rfl rfl (fun b1 => ?_)) rfl
          refine VS_step (S_box rfl rfl (fun b2 => ?_)) rfl
          refine VS_pure (P_assign rfl) rfl rfl rfl ?_
          refine VS_nil ?_
          refine QS_then ?_
          refine TS_seq ?_
          refine TS_seq ?_
          refine TS_region ?_
          refine VS_pure (P_fieldAddr0 fo32_0 rfl) rfl rfl rfl ?_
          refine VS_read (S_loadB sg5 rfl (.there (.here)) rfl) rfl rfl rfl ?_
          refine VS_pure (P_fieldAddr0 fo32_0 rfl) rfl rfl rfl ?_
          refine VS_read (S_loadB sg5 rfl (.here) rfl) rfl rfl rfl ?_
          refine VS_pure (df (P_neq rfl rfl) (by first | assumption | omega | decide | exact fun hx => hx (by assumption))) rfl rfl rfl ?_
          refine VS_pure (P_move rfl) rfl rfl rfl ?_
          refine VS_pure (P_fieldAddr0 fo32_1 rfl) rfl rfl rfl ?_
          refine VS_read (S_loadB sg3 rfl (.there (.here)) rfl) rfl rfl rfl ?_
          refine VS_pure (P_fieldAddr0 fo32_1 rfl) rfl rfl rfl ?_
          refine VS_read (S_loadB sg3 rfl (.here) rfl) rfl rfl rfl ?_
          refine VS_pure (df (P_neq rfl rfl) (by first | assumption | omega | decide | exact fun hx => hx (by assumption))) rfl rfl rfl ?_
          refine VS_pure (P_pick_f rfl rfl) rfl rfl rfl ?_
          refine VS_pure (P_move rfl) rfl rfl rfl ?_
          refine VS_pure (P_fieldAddr0 fo32_2 rfl) rfl rfl rfl ?_
          refine VS_read (S_loadB sg9 rfl (.there (.here)) rfl) rfl rfl rfl ?_
          refine VS_pure (P_fieldAddr0 fo32_2 rfl) rfl rfl rfl ?_
          refine VS_read (S_loadB sg9 rfl (.here) rfl) rfl rfl rfl ?_
          refine VS_pure (df (P_sneq rfl rfl) (by first | assumption | omega | decide | exact fun hx => hx (by assumption))) rfl rfl rfl ?_
          refine VS_pure (P_pick_f rfl rfl) rfl rfl rfl ?_
          refine VS_pure (P_move rfl) rfl rfl rfl ?_
          refine VS_pure (P_fieldAddr0 fo32_3 rfl) rfl rfl rfl ?_
          refine VS_read (S_loadB sg22 rfl (.there (.here)) rfl) rfl rfl rfl ?_
          refine VS_read (S_bstr bt22 st9 rfl (by first | rfl | omega) r1) rfl rfl rfl ?_
          refine VS_pure (P_fieldAddr0 fo32_3 rfl) rfl rfl rfl ?_
          refine VS_read (S_loadB sg22 rfl (.here) rfl) rfl rfl rfl ?_
          refine VS_read (S_bstr bt22 st9 rfl (by first | rfl | omega) s1) rfl rfl rfl ?_
          refine VS_pure (dt (P_sneq rfl rfl) (by first | assumption | rfl | omega | decide)) rfl rfl rfl ?_
          refine VS_pure (P_pick_f rfl rfl) rfl rfl rfl ?_
          refine VS_pure (P_move rfl) rfl rfl rfl ?_
          refine VS_skip rfl rfl rfl ?_
          refine VS_skip rfl rfl rfl ?_
          refine VS_skip rfl rfl rfl ?_
          refine VS_skip rfl rfl rfl ?_
          refine VS_skip rfl rfl rfl ?_
          refine VS_pure (P_pick_t rfl rfl) rfl rfl rfl ?_
          refine VS_pure (P_move rfl) rfl rfl rfl ?_
          refine VS_skip rfl rfl rfl ?_
          refine VS_skip rfl rfl rfl ?_
          refine VS_skip rfl rfl rfl ?_
          refine VS_skip rfl rfl rfl ?_
          refine VS_skip rfl rfl rfl ?_
          refine VS_pure (P_pick_t rfl rfl) rfl rfl rfl ?_
          refine VS_pure (P_move rfl) rfl rfl rfl ?_
          refine VS_skip rfl rfl rfl ?_
          refine VS_skip rfl rfl rfl ?_
          refine VS_skip rfl rfl rfl ?_
          refine VS_skip rfl rfl rfl ?_
          refine VS_skip rfl rfl rfl ?_
          refine VS_skip rfl rfl rfl ?_
          refine VS_skip rfl rfl rfl ?_
          refine VS_pure (P_pick_t rfl rfl) rfl rfl rfl ?_
          refine VS_nil ?_
          refine QS_then ?_
          refine TS_true rfl ?_
          refine TS_seq ?_
          refine TS_region ?_
          refine VS_pure (P_assign rfl) rfl rfl rfl ?_
          refine VS_nil ?_
          refine QS_then ?_
          refine TS_ret ?_
          refine QS_then_ret ?_
          exact QS_ret [_] ⟨rfl, trivial⟩ [] (Pick.nil _) ⟨rfl, rfl⟩
      · rw [decide_eq_false (ne (fun h => by rw [h]) g3)]
        refine TS_seq ?_
        refine TS_region ?_
        refine VS_step (S_box rfl rfl (fun b1 => ?_)) rfl
        refine VS_step (S_box rfl rfl (fun b2 => ?_)) rfl
        refine VS_pure (P_assign rfl) rfl rfl rfl ?_
        refine VS_nil ?_
        refine QS_then ?_
        refine TS_seq ?_
        refine TS_seq ?_
        refine TS_region ?_
        refine VS_pure (P_fieldAddr0 fo32_0 rfl) rfl rfl rfl ?_
        refine VS_read (S_loadB sg5 rfl (.there (.here)) rfl) rfl rfl rfl ?_
        refine VS_pure (P_fieldAddr0 fo32_0 rfl) rfl rfl rfl ?_
        refine VS_read (S_loadB sg5 rfl (.here) rfl) rfl rfl rfl ?_
        refine VS_pure (df (P_neq rfl rfl) (by first | assumption | omega | decide | exact fun hx => hx (by assumption))) rfl rfl rfl ?_
        refine VS_pure (P_move rfl) rfl rfl rfl ?_
        refine VS_pure (P_fieldAddr0 fo32_1 rfl) rfl rfl rfl ?_
        refine VS_read (S_loadB sg3 rfl (.there (.here)) rfl) rfl rfl rfl ?_
        refine VS_pure (P_fieldAddr0 fo32_1 rfl) rfl rfl rfl ?_
        refine VS_read (S_loadB sg3 rfl (.here) rfl) rfl rfl rfl ?_
        refine VS_pure (df (P_neq rfl rfl) (by first | assumption | omega | decide | exact fun hx => hx (by assumption))) rfl rfl rfl ?_
        refine VS_pure (P_pick_f rfl rfl) rfl rfl rfl ?_
        refine VS_pure (P_move rfl) rfl rfl rfl ?_
        refine VS_pure (P_fieldAddr0 fo32_2 rfl) rfl rfl rfl ?_
        refine VS_read (S_loadB sg9 rfl (.there (.here)) rfl) rfl rfl rfl ?_
        refine VS_pure (P_fieldAddr0 fo32_2 rfl) rfl rfl rfl ?_
        refine VS_read (S_loadB sg9 rfl (.here) rfl) rfl rfl rfl ?_
        refine VS_pure (dt (P_sneq rfl rfl) (by first | assumption | rfl | omega | decide)) rfl rfl rfl ?_
        refine VS_pure (P_pick_f rfl rfl) rfl rfl rfl ?_
        refine VS_pure (P_move rfl) rfl rfl rfl ?_
        refine VS_skip rfl rfl rfl ?_
        refine VS_skip rfl rfl rfl ?_
        refine VS_skip rfl rfl rfl ?_
        refine VS_skip rfl rfl rfl ?_
        refine VS_skip rfl rfl rfl ?_
        refine VS_skip rfl rfl rfl ?_
        refine VS_skip rfl rfl rfl ?_
        refine VS_pure (P_pick_t rfl rfl) rfl rfl rfl ?_
        refine VS_pure (P_move rfl) rfl rfl rfl ?_
        refine VS_skip rfl rfl rfl ?_
        refine VS_skip rfl rfl rfl ?_
        refine VS_skip rfl rfl rfl ?_
        refine VS_skip rfl rfl rfl ?_
        refine VS_skip rfl rfl rfl ?_
        refine VS_pure (P_pick_t rfl rfl) rfl rfl rfl ?_
        refine VS_pure (P_move rfl) rfl rfl rfl ?_
        refine VS_skip rfl rfl rfl ?_
        refine VS_skip rfl rfl rfl ?_
        refine VS_skip rfl rfl rfl ?_
        refine VS_skip rfl rfl rfl ?_
        refine VS_skip rfl rfl rfl ?_
        refine VS_pure (P_pick_t rfl rfl) rfl rfl rfl ?_
        refine VS_pure (P_move rfl) rfl rfl rfl ?_
        refine VS_skip rfl rfl rfl ?_
        refine VS_skip rfl rfl rfl ?_
        refine VS_skip rfl rfl rfl ?_
        refine VS_skip rfl rfl rfl ?_
        refine VS_skip rfl rfl rfl ?_
        refine VS_skip rfl rfl rfl ?_
        refine VS_skip rfl rfl rfl ?_
        refine VS_pure (P_pick_t rfl rfl) rfl rfl rfl ?_
        refine VS_nil ?_
        refine QS_then ?_
        refine TS_true rfl ?_
        refine TS_seq ?_
        refine TS_region ?_
        refine VS_pure (P_assign rfl) rfl rfl rfl ?_
        refine VS_nil ?_
        refine QS_then ?_
        refine TS_ret ?_
        refine QS_then_ret ?_
        exact QS_ret [_] ⟨rfl, trivial⟩ [] (Pick.nil _) ⟨rfl, rfl⟩
    · rw [decide_eq_false (ne (fun h => by rw [h]) g2)]
      refine TS_seq ?_
      refine TS_region ?_
      refine VS_step (S_box rfl rfl (fun b1 => ?_)) rfl
      refine VS_step (S_box rfl rfl (fun b2 => ?_)) rfl
      refine VS_pure (P_assign rfl) rfl rfl rfl ?_
      refine VS_nil ?_
      refine QS_then ?_
      refine TS_seq ?_
      refine TS_seq ?_
      refine TS_region ?_
      refine VS_pure (P_fieldAddr0 fo32_0 rfl) rfl rfl rfl ?_
      refine VS_read (S_loadB sg5 rfl (.there (.here)) rfl) rfl rfl rfl ?_
      refine VS_pure (P_fieldAddr0 fo32_0 rfl) rfl rfl rfl ?_
      refine VS_read (S_loadB sg5 rfl (.here) rfl) rfl rfl rfl ?_
      refine VS_pure (df (P_neq rfl rfl) (by first | assumption | omega | decide | exact fun hx => hx (by assumption))) rfl rfl rfl ?_
      refine VS_pure (P_move rfl) rfl rfl rfl ?_
      refine VS_pure (P_fieldAddr0 fo32_1 rfl) rfl rfl rfl ?_
      refine VS_read (S_loadB sg3 rfl (.there (.here)) rfl) rfl rfl rfl ?_
      refine VS_pure (P_fieldAddr0 fo32_1 rfl) rfl rfl rfl ?_
      refine VS_read (S_loadB sg3 rfl (.here) rfl) rfl rfl rfl ?_
      refine VS_pure (dt (P_neq rfl rfl) (by first | assumption | rfl | omega | decide)) rfl rfl rfl ?_
      refine VS_pure (P_pick_f rfl rfl) rfl rfl rfl ?_
      refine VS_pure (P_move rfl) rfl rfl rfl ?_
      refine VS_skip rfl rfl rfl ?_
      refine VS_skip rfl rfl rfl ?_
      refine VS_skip rfl rfl rfl ?_
      refine VS_skip rfl rfl rfl ?_
      refine VS_skip rfl rfl rfl ?_
      refine VS_pure (P_pick_t rfl rfl) rfl rfl rfl ?_
      refine VS_pure (P_move rfl) rfl rfl rfl ?_
      refine VS_skip rfl rfl rfl ?_
      refine VS_skip rfl rfl rfl ?_
      refine VS_skip rfl rfl rfl ?_
      refine VS_skip rfl rfl rfl ?_
      refine VS_skip rfl rfl rfl ?_
      refine VS_skip rfl rfl rfl ?_
      refine VS_skip rfl rfl rfl ?_
      refine VS_pure (P_pick_t rfl rfl) rfl rfl rfl ?_
      refine VS_pure (P_move rfl) rfl rfl rfl ?_
      refine VS_skip rfl rfl rfl ?_
      refine VS_skip rfl rfl rfl ?_
      refine VS_skip rfl rfl rfl ?_
      refine VS_skip rfl rfl rfl ?_
      refine VS_skip rfl rfl rfl ?_
      refine VS_pure (P_pick_t rfl rfl) rfl rfl rfl ?_
      refine VS_pure (P_move rfl) rfl rfl rfl ?_
      refine VS_skip rfl rfl rfl ?_
      refine VS_skip rfl rfl rfl ?_
      refine VS_skip rfl rfl rfl ?_
      refine VS_skip rfl rfl rfl ?_
      refine VS_skip rfl rfl rfl ?_
      refine VS_pure (P_pick_t rfl rfl) rfl rfl rfl ?_
      refine VS_pure (P_move rfl) rfl rfl rfl ?_
      refine VS_skip rfl rfl rfl ?_
      refine VS_skip rfl rfl rfl ?_
      refine VS_skip rfl rfl rfl ?_
      refine VS_skip rfl rfl rfl ?_
      refine VS_skip rfl rfl rfl ?_
      refine VS_skip rfl rfl rfl ?_
      refine VS_skip rfl rfl rfl ?_
      refine VS_pure (P_pick_t rfl rfl) rfl rfl rfl ?_
      refine VS_nil ?_
      refine QS_then ?_
      refine TS_true rfl ?_
      refine TS_seq ?_
      refine TS_region ?_
      refine VS_pure (P_assign rfl) rfl rfl rfl ?_
      refine VS_nil ?_
      refine QS_then ?_
      refine TS_ret ?_
      refine QS_then_ret ?_
      exact QS_ret [_] ⟨rfl, trivial⟩ [] (Pick.nil _) ⟨rfl, rfl⟩
  · rw [decide_eq_false (ne (fun h => by rw [h]) g1)]
    refine TS_seq ?_
    refine TS_region ?_
    refine VS_step (S_box rfl rfl (fun b1 => ?_)) rfl
    refine VS_step (S_box rfl rfl (fun b2 => ?_)) rfl
    refine VS_pure (P_assign rfl) rfl rfl rfl ?_
    refine VS_nil ?_
    refine QS_then ?_
    refine TS_seq ?_
    refine TS_seq ?_
    refine TS_region ?_
    refine VS_pure (P_fieldAddr0 fo32_0 rfl) rfl rfl rfl ?_
    refine VS_read (S_loadB sg5 rfl (.there (.here)) rfl) rfl rfl rfl ?_
    refine VS_pure (P_fieldAddr0 fo32_0 rfl) rfl rfl rfl ?_
    refine VS_read (S_loadB sg5 rfl (.here) rfl) rfl rfl rfl ?_
    refine VS_pure (dt (P_neq rfl rfl) (by first | assumption | rfl | omega | decide)) rfl rfl rfl ?_
    refine VS_pure (P_move rfl) rfl rfl rfl ?_
    refine VS_skip rfl rfl rfl ?_
    refine VS_skip rfl rfl rfl ?_
    refine VS_skip rfl rfl rfl ?_
    refine VS_skip rfl rfl rfl ?_
    refine VS_skip rfl rfl rfl ?_
    refine VS_pure (P_pick_t rfl rfl) rfl rfl rfl ?_
    refine VS_pure (P_move rfl) rfl rfl rfl ?_
    refine VS_skip rfl rfl rfl ?_
    refine VS_skip rfl rfl rfl ?_
    refine VS_skip rfl rfl rfl ?_
    refine VS_skip rfl rfl rfl ?_
    refine VS_skip rfl rfl rfl ?_
    refine VS_pure (P_pick_t rfl rfl) rfl rfl rfl ?_
    refine VS_pure (P_move rfl) rfl rfl rfl ?_
    refine VS_skip rfl rfl rfl ?_
    refine VS_skip rfl rfl rfl ?_
    refine VS_skip rfl rfl rfl ?_
    refine VS_skip rfl rfl rfl ?_
    refine VS_skip rfl rfl rfl ?_
    refine VS_skip rfl rfl rfl ?_
    refine VS_skip rfl rfl rfl ?_
    refine VS_pure (P_pick_t rfl rfl) rfl rfl rfl ?_
    refine VS_pure (P_move rfl) rfl rfl rfl ?_
    refine VS_skip rfl rfl rfl ?_
    refine VS_skip rfl rfl rfl ?_
    refine VS_skip rfl rfl rfl ?_
    refine VS_skip rfl rfl rfl ?_
    refine VS_skip rfl rfl rfl ?_
    refine VS_pure (P_pick_t rfl rfl) rfl rfl rfl ?_
    refine VS_pure (P_move rfl) rfl rfl rfl ?_
    refine VS_skip rfl rfl rfl ?_
    refine VS_skip rfl rfl rfl ?_
    refine VS_skip rfl rfl rfl ?_
    refine VS_skip rfl rfl rfl ?_
    refine VS_skip rfl rfl rfl ?_
    refine VS_pure (P_pick_t rfl rfl) rfl rfl rfl ?_
    refine VS_pure (P_move rfl) rfl rfl rfl ?_
    refine VS_skip rfl rfl rfl ?_
    refine VS_skip rfl rfl rfl ?_
    refine VS_skip rfl rfl rfl ?_
    refine VS_skip rfl rfl rfl ?_
    refine VS_skip rfl rfl rfl ?_
    refine VS_skip rfl rfl rfl ?_
    refine VS_skip rfl rfl rfl ?_
    refine VS_pure (P_pick_t rfl rfl) rfl rfl rfl ?_
    refine VS_nil ?_
    refine QS_then ?_
    refine TS_true rfl ?_
    refine TS_seq ?_
    refine TS_region ?_
    refine VS_pure (P_assign rfl) rfl rfl rfl ?_
    refine VS_nil ?_
    refine QS_then ?_
    refine TS_ret ?_
    refine QS_then_ret ?_
    exact QS_ret [_] ⟨rfl, trivial⟩ [] (Pick.nil _) ⟨rfl, rfl⟩
end Go.Proofs.Ytbpihgphicmdiaa
