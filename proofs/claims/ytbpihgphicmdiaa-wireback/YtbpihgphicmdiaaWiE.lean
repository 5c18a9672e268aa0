/- A part of the proof: contracts of functions of the program. No condition. -/
import Derived.Test.YtbpihgphicmdiaaWiD
namespace Go.Proofs.Ytbpihgphicmdiaa
open Go.Eng Wi
set_option maxRecDepth 100000
set_option maxHeartbeats 4000000 in
theorem EqE_ok {m : Mp} {v w : Value} {xs ys : List Evt} (hx : SlE m v xs) (hy : SlE m w ys) : CS Try.prog 44 [v, w, .func (.func 45) #[] #[]] m [] (Gives (.bool (decide (xs = ys)))) := by
  obtain ⟨a, c, vs, rfl, ra, la, ma, ga⟩ := hx
  obtain ⟨b, e, us, rfl, rb, lb, mb, gb⟩ := hy
  refine CS_of [.tmp 6] Try.func44 rfl rfl rfl ?_
  have hmx : xs.length ≤ 9223372036854775807 := ma
  by_cases hl : xs.length = ys.length
  · refine TS_seq ?_
    refine TS_region ?_
    refine VS_pure (P_assign rfl) rfl rfl rfl ?_
    refine VS_nil ?_
    refine QS_then ?_
    refine TS_seq ?_
    refine TS_seq ?_
    refine TS_region ?_
    refine VS_pure (P_move rfl) rfl rfl rfl ?_
    refine VS_pure (P_len il30 rfl) rfl rfl rfl ?_
    refine VS_pure (P_move rfl) rfl rfl rfl ?_
    refine VS_pure (P_len il30 rfl) rfl rfl rfl ?_
    refine VS_pure (df (P_neq rfl rfl) (by first | assumption | omega | decide | exact fun hx => hx (by assumption))) rfl rfl rfl ?_
    refine VS_nil ?_
    refine QS_then ?_
    refine TS_false rfl ?_
    refine TS_skip ?_
    refine QS_then ?_
    refine TS_seq ?_
    refine TS_seq ?_
    refine TS_region ?_
    refine VS_pure (P_move rfl) rfl rfl rfl ?_
    refine VS_pure (P_len il30 rfl) rfl rfl rfl ?_
    refine VS_pure (P_move rfl) rfl rfl rfl ?_
    refine VS_nil ?_
    refine QS_then ?_
    refine TS_block ?_
    refine TS_loop (fun i : Nat => [(0, .slice a xs.length c), (1, .slice b ys.length e), (2, .func (.func 45) #[] #[]), (15, .slice a xs.length c), (16, .int .i64 (xs.length : Nat)), (17, .int .i64 (i : Nat))]) (fun _ => []) (fun i => i ≤ xs.length ∧ xs.take i = ys.take i) (fun i => xs.length - i) 0 ⟨rfl, rfl, rfl, rfl, rfl, rfl, trivial⟩ (Pick.nil _) ⟨Nat.zero_le _, rfl⟩ ?_
    rintro i ⟨hi, ht⟩
    by_cases hlt : i < xs.length
    · have hlt2 : i < ys.length := by omega
      obtain ⟨l1, e1, t1, ha⟩ := SlE_at ra la ga hlt
      obtain ⟨l2, e2, t2, hb⟩ := SlE_at rb lb gb hlt2
      have q1 := e1
      have q2 := e2
      obtain ⟨_, rfl, p1, c1, rfl, _⟩ := q1
      obtain ⟨_, rfl, p2, c2, rfl, _⟩ := q2
      have F : ∀ m', Le m m' → _ := fun m' hm => event_ok (e1.mono hm) (e2.mono hm)
      by_cases hq : xs[i] = ys[i]
      · rw [decide_eq_true hq] at F
        refine TS_seq ?_
        refine TS_region ?_
        refine VS_pure (dt (P_lss rfl rfl) (by first | assumption | rfl | omega | decide)) rfl rfl rfl ?_
        refine VS_nil ?_
        refine QS_then ?_
        refine TS_seq ?_
        refine TS_true rfl ?_
        refine TS_skip ?_
        refine QS_then ?_
        refine TS_seq ?_
        refine TS_block ?_
        refine TS_seq ?_
        refine TS_region ?_
        refine VS_pure (P_move rfl) rfl rfl rfl ?_
        refine VS_pure (P_indexAddrN ez30 rfl rfl ha (by omega)) rfl rfl rfl ?_
        refine VS_read (S_loadAt ag55 rfl rfl t1) rfl rfl rfl ?_
        refine VS_step (S_alloc zl55 rfl (fun b1 => ?_)) rfl
        refine VS_pure (P_assign rfl) rfl rfl rfl ?_
        refine VS_step (S_storeAgg ag55 rfl rfl rfl (.here) rfl rfl ?_) rfl
        refine VS_nil ?_
        refine QS_then ?_
        refine TS_seq ?_
        refine TS_region ?_
        refine VS_pure (P_move rfl) rfl rfl rfl ?_
        refine VS_pure (P_move rfl) rfl rfl rfl ?_
        refine VS_pure (P_indexAddrN ez30 rfl rfl hb (by omega)) rfl rfl rfl ?_
        refine VS_read (S_loadAt ag55 rfl rfl t2) rfl rfl rfl ?_
        refine VS_step (S_alloc zl55 rfl (fun b2 => ?_)) rfl
        refine VS_step (S_storeAgg ag55 rfl rfl rfl (.here) rfl rfl ?_) rfl
        refine VS_nil ?_
        refine QS_then ?_
        refine TS_seq ?_
        refine TS_region ?_
        refine VS_pure (P_move rfl) rfl rfl rfl ?_
        refine VS_read (S_loadBA ag55 rfl (.there (.here)) rfl) rfl rfl rfl ?_
        refine VS_read (S_loadBA ag55 rfl (.here) rfl) rfl rfl rfl ?_
        refine VS_step (S_callV (p := []) (q := []) (vs := [_, _]) (by kernel_rfl) rfl rfl (fun m' hm he => F m' hm) rfl ?_) rfl
        rintro _ _ ⟨rfl, rfl⟩
        refine VS_pure (P_not rfl) rfl rfl rfl ?_
        refine VS_nil ?_
        refine QS_then ?_
        refine TS_false rfl ?_
        refine TS_skip ?_
        refine QS_block ?_
        refine QS_then ?_
        refine TS_region ?_
        refine VS_pure (P_add rfl rfl (w64 (by omega) (by omega))) rfl rfl rfl ?_
        refine VS_pure (P_move rfl) rfl rfl rfl ?_
        refine VS_nil ?_
        exact QS_round (i + 1) ⟨rfl, rfl, rfl, rfl, rfl, rfl, trivial⟩ (Pick.nil _) ⟨hlt, take_step ht hlt hlt2 hq⟩ (by omega)
      · have hne : xs ≠ ys := fun h => hq (by subst h; rfl)
        rw [decide_eq_false hne]
        rw [decide_eq_false hq] at F
        refine TS_seq ?_
        refine TS_region ?_
        refine VS_pure (dt (P_lss rfl rfl) (by first | assumption | rfl | omega | decide)) rfl rfl rfl ?_
        refine VS_nil ?_
        refine QS_then ?_
        refine TS_seq ?_
        refine TS_true rfl ?_
        refine TS_skip ?_
        refine QS_then ?_
        refine TS_seq ?_
        refine TS_block ?_
        refine TS_seq ?_
        refine TS_region ?_
        refine VS_pure (P_move rfl) rfl rfl rfl ?_
        refine VS_pure (P_indexAddrN ez30 rfl rfl ha (by omega)) rfl rfl rfl ?_
        refine VS_read (S_loadAt ag55 rfl rfl t1) rfl rfl rfl ?_
        refine VS_step (S_alloc zl55 rfl (fun b1 => ?_)) rfl
        refine VS_pure (P_assign rfl) rfl rfl rfl ?_
        refine VS_step (S_storeAgg ag55 rfl rfl rfl (.here) rfl rfl ?_) rfl
        refine VS_nil ?_
        refine QS_then ?_
        refine TS_seq ?_
        refine TS_region ?_
        refine VS_pure (P_move rfl) rfl rfl rfl ?_
        refine VS_pure (P_move rfl) rfl rfl rfl ?_
        refine VS_pure (P_indexAddrN ez30 rfl rfl hb (by omega)) rfl rfl rfl ?_
        refine VS_read (S_loadAt ag55 rfl rfl t2) rfl rfl rfl ?_
        refine VS_step (S_alloc zl55 rfl (fun b2 => ?_)) rfl
        refine VS_step (S_storeAgg ag55 rfl rfl rfl (.here) rfl rfl ?_) rfl
        refine VS_nil ?_
        refine QS_then ?_
        refine TS_seq ?_
        refine TS_region ?_
        refine VS_pure (P_move rfl) rfl rfl rfl ?_
        refine VS_read (S_loadBA ag55 rfl (.there (.here)) rfl) rfl rfl rfl ?_
        refine VS_read (S_loadBA ag55 rfl (.here) rfl) rfl rfl rfl ?_
        refine VS_step (S_callV (p := []) (q := []) (vs := [_, _]) (by kernel_rfl) rfl rfl (fun m' hm he => F m' hm) rfl ?_) rfl
        rintro _ _ ⟨rfl, rfl⟩
        refine VS_pure (P_not rfl) rfl rfl rfl ?_
        refine VS_nil ?_
        refine QS_then ?_
        refine TS_true rfl ?_
        refine TS_seq ?_
        refine TS_region ?_
        refine VS_pure (P_assign rfl) rfl rfl rfl ?_
        refine VS_nil ?_
        refine QS_then ?_
        refine TS_ret ?_
        refine QS_block_ret ?_
        refine QS_then_ret ?_
        refine QS_round_ret ?_
        refine QS_block_ret ?_
        refine QS_then_ret ?_
        exact QS_ret [_] ⟨rfl, trivial⟩ [] (Pick.nil _) ⟨rfl, rfl⟩
    · rw [decide_eq_true (take_all ht (by omega) hl)]
      refine TS_seq ?_
      refine TS_region ?_
      refine VS_pure (df (P_lss rfl rfl) (by first | assumption | omega | decide | exact fun hx => hx (by assumption))) rfl rfl rfl ?_
      refine VS_nil ?_
      refine QS_then ?_
      refine TS_seq ?_
      refine TS_false rfl ?_
      refine TS_exit ?_
      refine QS_then_exit ?_
      refine QS_round_exit ?_
      refine QS_block_here ?_
      refine QS_then ?_
      refine TS_seq ?_
      refine TS_region ?_
      refine VS_pure (P_assign rfl) rfl rfl rfl ?_
      refine VS_nil ?_
      refine QS_then ?_
      refine TS_ret ?_
      exact QS_ret [_] ⟨rfl, trivial⟩ [] (Pick.nil _) ⟨rfl, rfl⟩
  · have hne : xs ≠ ys := fun h => hl (by rw [h])
    rw [decide_eq_false hne]
    refine TS_seq ?_
    refine TS_region ?_
    refine VS_pure (P_assign rfl) rfl rfl rfl ?_
    refine VS_nil ?_
    refine QS_then ?_
    refine TS_seq ?_
    refine TS_seq ?_
    refine TS_region ?_
    refine VS_pure (P_move rfl) rfl rfl rfl ?_
    refine VS_pure (P_len il30 rfl) rfl rfl rfl ?_
    refine VS_pure (P_move rfl) rfl rfl rfl ?_
    refine VS_pure (P_len il30 rfl) rfl rfl rfl ?_
    refine VS_pure (dt (P_neq rfl rfl) (by first | assumption | rfl | omega | decide)) rfl rfl rfl ?_
    refine VS_nil ?_
    refine QS_then ?_
    refine TS_true rfl ?_
    refine TS_seq ?_
    refine TS_region ?_
    refine VS_pure (P_assign rfl) rfl rfl rfl ?_
    refine VS_nil ?_
    refine QS_then ?_
    refine TS_ret ?_
    refine QS_then_ret ?_
    exact QS_ret [_] ⟨rfl, trivial⟩ [] (Pick.nil _) ⟨rfl, rfl⟩
set_option maxHeartbeats 8000000 in
theorem same_ok {m : Mp} {lx ly : List Value} {x y : Ltr} (hx : LtR m lx x) (hy : LtR m ly y) : CS Try.prog 19 [.agg lx.toArray, .agg ly.toArray] m [] (Gives (.bool (decide (x = y)))) := by
  obtain ⟨vb, vc, vi, vp, ve, rfl, xb, xc, xi, xp, xe⟩ := hx
  obtain ⟨wb, wc, wi, wp, we, rfl, yb, yc, yi, yp, ye⟩ := hy
  refine CS_of [.tmp 4] Try.func19 rfl rfl rfl ?_
  have F1 : ∀ m', Le m m' → CS Try.prog 41 [vb, wb] m' [] (Gives (.bool (decide (x.bytes = y.bytes)))) := fun m' hm => EqB_ok (xb.mono hm) (yb.mono hm)
  have F2 : ∀ m', Le m m' → CS Try.prog 42 [vc, wc] m' [] (Gives (.bool (decide (x.cards = y.cards)))) := fun m' hm => EqS_ok (xc.mono hm) (yc.mono hm)
  have F3 : ∀ m', Le m m' → CS Try.prog 43 [.agg [.int .i8 x.act.op, iV x.act.side, iV x.act.place, iV x.act.target, vi, vp].toArray, .agg [.int .i8 y.act.op, iV y.act.side, iV y.act.place, iV y.act.target, wi, wp].toArray] m' [] (Gives (.bool (decide (x.act = y.act)))) := fun m' hm => action_ok ⟨_, _, rfl, xi.mono hm, xp.mono hm⟩ ⟨_, _, rfl, yi.mono hm, yp.mono hm⟩
  have F4 : ∀ m', Le m m' → CS Try.prog 44 [ve, we, .func (.func 45) #[] #[]] m' [] (Gives (.bool (decide (x.evs = y.evs)))) := fun m' hm => EqE_ok (xe.mono hm) (ye.mono hm)
  have ne : ∀ {p : Prop}, (x = y → p) → ¬ p → x ≠ y := fun h hn e => hn (h e)
  by_cases g1 : x.kind = y.kind
  · skip
    by_cases g2 : x.table = y.table
    · skip
      by_cases g3 : x.text = y.text
      · skip
        by_cases g4 : x.bytes = y.bytes
        · rw [decide_eq_true g4] at F1
          by_cases g5 : x.cards = y.cards
          · rw [decide_eq_true g5] at F2
            by_cases g6 : x.act = y.act
            · rw [decide_eq_true g6] at F3
              by_cases g7 : x.to_ = y.to_
              · skip
                by_cases g8 : x.e = y.e
                · skip
                  have hiff : decide (x = y) = decide (x.evs = y.evs) := decide_eq_decide.2 ⟨fun h => by rw [h], fun h => by cases x; cases y; simp_all⟩
                  rw [hiff]
                  refine TS_seq ?_
                  refine TS_region ?_
                  refine VS_step (S_box rfl rfl (fun b1 => ?_)) rfl
                  refine VS_step (S_box rfl rfl (fun b2 => ?_)) rfl
                  refine VS_pure (P_assign rfl) rfl rfl rfl ?_
                  refine VS_nil ?_
                  refine QS_then ?_
                  refine TS_seq ?_
                  refine TS_region ?_
                  refine VS_pure (P_fieldAddr0 fo32_0 rfl) rfl rfl rfl ?_
                  refine VS_read (S_loadB sg5 rfl (.there (.here)) rfl) rfl rfl rfl ?_
                  refine VS_pure (P_fieldAddr0 fo32_0 rfl) rfl rfl rfl ?_
                  refine VS_read (S_loadB sg5 rfl (.here) rfl) rfl rfl rfl ?_
                  refine VS_pure (dt (P_eql rfl rfl) (by first | assumption | rfl | omega | decide)) rfl rfl rfl ?_
                  refine VS_pure (P_move rfl) rfl rfl rfl ?_
                  refine VS_pure (P_fieldAddr0 fo32_1 rfl) rfl rfl rfl ?_
                  refine VS_read (S_loadB sg3 rfl (.there (.here)) rfl) rfl rfl rfl ?_
                  refine VS_pure (P_fieldAddr0 fo32_1 rfl) rfl rfl rfl ?_
                  refine VS_read (S_loadB sg3 rfl (.here) rfl) rfl rfl rfl ?_
                  refine VS_pure (dt (P_eql rfl rfl) (by first | assumption | rfl | omega | decide)) rfl rfl rfl ?_
                  refine VS_pure (P_pick_t rfl rfl) rfl rfl rfl ?_
                  refine VS_pure (P_move rfl) rfl rfl rfl ?_
                  refine VS_pure (P_fieldAddr0 fo32_2 rfl) rfl rfl rfl ?_
                  refine VS_read (S_loadB sg9 rfl (.there (.here)) rfl) rfl rfl rfl ?_
                  refine VS_pure (P_fieldAddr0 fo32_2 rfl) rfl rfl rfl ?_
                  refine VS_read (S_loadB sg9 rfl (.here) rfl) rfl rfl rfl ?_
                  refine VS_pure (dt (P_seql rfl rfl) (by first | assumption | rfl | omega | decide)) rfl rfl rfl ?_
                  refine VS_pure (P_pick_t rfl rfl) rfl rfl rfl ?_
                  refine VS_pure (P_move rfl) rfl rfl rfl ?_
                  refine VS_pure (P_fieldAddr0 fo32_3 rfl) rfl rfl rfl ?_
                  refine VS_read (S_loadB sg22 rfl (.there (.here)) rfl) rfl rfl rfl ?_
                  refine VS_pure (P_fieldAddr0 fo32_3 rfl) rfl rfl rfl ?_
                  refine VS_read (S_loadB sg22 rfl (.here) rfl) rfl rfl rfl ?_
                  refine VS_step (S_callR cl41 rfl (fun m' hm he => (F1 _ hm)) rfl ?_) rfl
                  rintro _ rfl
                  refine VS_pure (P_pick_t rfl rfl) rfl rfl rfl ?_
                  refine VS_pure (P_move rfl) rfl rfl rfl ?_
                  refine VS_pure (P_fieldAddr0 fo32_4 rfl) rfl rfl rfl ?_
                  refine VS_read (S_loadB sg23 rfl (.there (.here)) rfl) rfl rfl rfl ?_
                  refine VS_pure (P_fieldAddr0 fo32_4 rfl) rfl rfl rfl ?_
                  refine VS_read (S_loadB sg23 rfl (.here) rfl) rfl rfl rfl ?_
                  refine VS_step (S_callR cl42 rfl (fun m' hm he => (F2 _ hm)) rfl ?_) rfl
                  rintro _ rfl
                  refine VS_pure (P_pick_t rfl rfl) rfl rfl rfl ?_
                  refine VS_pure (P_move rfl) rfl rfl rfl ?_
                  refine VS_pure (P_fieldAddr0 fo32_5 rfl) rfl rfl rfl ?_
                  refine VS_read (S_loadBO ag28 rfl (.there (.here)) rfl) rfl rfl rfl ?_
                  refine VS_pure (P_fieldAddr0 fo32_5 rfl) rfl rfl rfl ?_
                  refine VS_read (S_loadBO ag28 rfl (.here) rfl) rfl rfl rfl ?_
                  refine VS_step (S_callR cl43 rfl (fun m' hm he => (F3 _ hm)) rfl ?_) rfl
                  rintro _ rfl
                  refine VS_pure (P_pick_t rfl rfl) rfl rfl rfl ?_
                  refine VS_pure (P_move rfl) rfl rfl rfl ?_
                  refine VS_pure (P_fieldAddr0 fo32_6 rfl) rfl rfl rfl ?_
                  refine VS_read (S_loadB sg5 rfl (.there (.here)) rfl) rfl rfl rfl ?_
                  refine VS_pure (P_fieldAddr0 fo32_6 rfl) rfl rfl rfl ?_
                  refine VS_read (S_loadB sg5 rfl (.here) rfl) rfl rfl rfl ?_
                  refine VS_pure (dt (P_eql rfl rfl) (by first | assumption | rfl | omega | decide)) rfl rfl rfl ?_
                  refine VS_pure (P_pick_t rfl rfl) rfl rfl rfl ?_
                  refine VS_pure (P_move rfl) rfl rfl rfl ?_
                  refine VS_pure (P_fieldAddr0 fo32_7 rfl) rfl rfl rfl ?_
                  refine VS_read (S_loadB sg29 rfl (.there (.here)) rfl) rfl rfl rfl ?_
                  refine VS_pure (P_fieldAddr0 fo32_7 rfl) rfl rfl rfl ?_
                  refine VS_read (S_loadB sg29 rfl (.here) rfl) rfl rfl rfl ?_
                  refine VS_pure (dt (P_eql rfl rfl) (by first | assumption | rfl | omega | decide)) rfl rfl rfl ?_
                  refine VS_pure (P_pick_t rfl rfl) rfl rfl rfl ?_
                  refine VS_pure (P_move rfl) rfl rfl rfl ?_
                  refine VS_pure (P_fieldAddr0 fo32_8 rfl) rfl rfl rfl ?_
                  refine VS_read (S_loadB sg30 rfl (.there (.here)) rfl) rfl rfl rfl ?_
                  refine VS_pure (P_fieldAddr0 fo32_8 rfl) rfl rfl rfl ?_
                  refine VS_read (S_loadB sg30 rfl (.here) rfl) rfl rfl rfl ?_
                  refine VS_step (S_callR cl44 rfl (fun m' hm he => (F4 _ hm)) rfl ?_) rfl
                  rintro _ rfl
                  refine VS_pure (P_pick_t rfl rfl) rfl rfl rfl ?_
                  refine VS_pure (P_assign rfl) rfl rfl rfl ?_
                  refine VS_nil ?_
                  refine QS_then ?_
                  refine TS_ret ?_
                  exact QS_ret [_] ⟨rfl, trivial⟩ [] (Pick.nil _) ⟨rfl, rfl⟩
                · rw [decide_eq_false (ne (fun h => by rw [h]) g8)]
                  refine TS_seq ?_
                  refine TS_region ?_
                  refine VS_step (S_box rfl rfl (fun b1 => ?_)) rfl
                  refine VS_step (S_box rfl rfl (fun b2 => ?_)) rfl
                  refine VS_pure (P_assign rfl) rfl rfl rfl ?_
                  refine VS_nil ?_
                  refine QS_then ?_
                  refine TS_seq ?_
                  refine TS_region ?_
                  refine VS_pure (P_fieldAddr0 fo32_0 rfl) rfl rfl rfl ?_
                  refine VS_read (S_loadB sg5 rfl (.there (.here)) rfl) rfl rfl rfl ?_
                  refine VS_pure (P_fieldAddr0 fo32_0 rfl) rfl rfl rfl ?_
                  refine VS_read (S_loadB sg5 rfl (.here) rfl) rfl rfl rfl ?_
                  refine VS_pure (dt (P_eql rfl rfl) (by first | assumption | rfl | omega | decide)) rfl rfl rfl ?_
                  refine VS_pure (P_move rfl) rfl rfl rfl ?_
                  refine VS_pure (P_fieldAddr0 fo32_1 rfl) rfl rfl rfl ?_
                  refine VS_read (S_loadB sg3 rfl (.there (.here)) rfl) rfl rfl rfl ?_
                  refine VS_pure (P_fieldAddr0 fo32_1 rfl) rfl rfl rfl ?_
                  refine VS_read (S_loadB sg3 rfl (.here) rfl) rfl rfl rfl ?_
                  refine VS_pure (dt (P_eql rfl rfl) (by first | assumption | rfl | omega | decide)) rfl rfl rfl ?_
                  refine VS_pure (P_pick_t rfl rfl) rfl rfl rfl ?_
                  refine VS_pure (P_move rfl) rfl rfl rfl ?_
                  refine VS_pure (P_fieldAddr0 fo32_2 rfl) rfl rfl rfl ?_
                  refine VS_read (S_loadB sg9 rfl (.there (.here)) rfl) rfl rfl rfl ?_
                  refine VS_pure (P_fieldAddr0 fo32_2 rfl) rfl rfl rfl ?_
                  refine VS_read (S_loadB sg9 rfl (.here) rfl) rfl rfl rfl ?_
                  refine VS_pure (dt (P_seql rfl rfl) (by first | assumption | rfl | omega | decide)) rfl rfl rfl ?_
                  refine VS_pure (P_pick_t rfl rfl) rfl rfl rfl ?_
                  refine VS_pure (P_move rfl) rfl rfl rfl ?_
                  refine VS_pure (P_fieldAddr0 fo32_3 rfl) rfl rfl rfl ?_
                  refine VS_read (S_loadB sg22 rfl (.there (.here)) rfl) rfl rfl rfl ?_
                  refine VS_pure (P_fieldAddr0 fo32_3 rfl) rfl rfl rfl ?_
                  refine VS_read (S_loadB sg22 rfl (.here) rfl) rfl rfl rfl ?_
                  refine VS_step (S_callR cl41 rfl (fun m' hm he => (F1 _ hm)) rfl ?_) rfl
                  rintro _ rfl
                  refine VS_pure (P_pick_t rfl rfl) rfl rfl rfl ?_
                  refine VS_pure (P_move rfl) rfl rfl rfl ?_
                  refine VS_pure (P_fieldAddr0 fo32_4 rfl) rfl rfl rfl ?_
                  refine VS_read (S_loadB sg23 rfl (.there (.here)) rfl) rfl rfl rfl ?_
                  refine VS_pure (P_fieldAddr0 fo32_4 rfl) rfl rfl rfl ?_
                  refine VS_read (S_loadB sg23 rfl (.here) rfl) rfl rfl rfl ?_
                  refine VS_step (S_callR cl42 rfl (fun m' hm he => (F2 _ hm)) rfl ?_) rfl
                  rintro _ rfl
                  refine VS_pure (P_pick_t rfl rfl) rfl rfl rfl ?_
                  refine VS_pure (P_move rfl) rfl rfl rfl ?_
                  refine VS_pure (P_fieldAddr0 fo32_5 rfl) rfl rfl rfl ?_
                  refine VS_read (S_loadBO ag28 rfl (.there (.here)) rfl) rfl rfl rfl ?_
                  refine VS_pure (P_fieldAddr0 fo32_5 rfl) rfl rfl rfl ?_
                  refine VS_read (S_loadBO ag28 rfl (.here) rfl) rfl rfl rfl ?_
                  refine VS_step (S_callR cl43 rfl (fun m' hm he => (F3 _ hm)) rfl ?_) rfl
                  rintro _ rfl
                  refine VS_pure (P_pick_t rfl rfl) rfl rfl rfl ?_
                  refine VS_pure (P_move rfl) rfl rfl rfl ?_
                  refine VS_pure (P_fieldAddr0 fo32_6 rfl) rfl rfl rfl ?_
                  refine VS_read (S_loadB sg5 rfl (.there (.here)) rfl) rfl rfl rfl ?_
                  refine VS_pure (P_fieldAddr0 fo32_6 rfl) rfl rfl rfl ?_
                  refine VS_read (S_loadB sg5 rfl (.here) rfl) rfl rfl rfl ?_
                  refine VS_pure (dt (P_eql rfl rfl) (by first | assumption | rfl | omega | decide)) rfl rfl rfl ?_
                  refine VS_pure (P_pick_t rfl rfl) rfl rfl rfl ?_
                  refine VS_pure (P_move rfl) rfl rfl rfl ?_
                  refine VS_pure (P_fieldAddr0 fo32_7 rfl) rfl rfl rfl ?_
                  refine VS_read (S_loadB sg29 rfl (.there (.here)) rfl) rfl rfl rfl ?_
                  refine VS_pure (P_fieldAddr0 fo32_7 rfl) rfl rfl rfl ?_
                  refine VS_read (S_loadB sg29 rfl (.here) rfl) rfl rfl rfl ?_
                  refine VS_pure (df (P_eql rfl rfl) (by first | assumption | omega | decide | exact fun hx => hx (by assumption))) rfl rfl rfl ?_
                  refine VS_pure (P_pick_t rfl rfl) rfl rfl rfl ?_
                  refine VS_pure (P_move rfl) rfl rfl rfl ?_
                  refine VS_skip rfl rfl rfl ?_
                  refine VS_skip rfl rfl rfl ?_
                  refine VS_skip rfl rfl rfl ?_
                  refine VS_skip rfl rfl rfl ?_
                  refine VS_skip rfl rfl rfl ?_
                  refine VS_pure (P_pick_f rfl rfl) rfl rfl rfl ?_
                  refine VS_pure (P_assign rfl) rfl rfl rfl ?_
                  refine VS_nil ?_
                  refine QS_then ?_
                  refine TS_ret ?_
                  exact QS_ret [_] ⟨rfl, trivial⟩ [] (Pick.nil _) ⟨rfl, rfl⟩
              · rw [decide_eq_false (ne (fun h => by rw [h]) g7)]
                refine TS_seq ?_
                refine TS_region ?_
                refine VS_step (S_box rfl rfl (fun b1 => ?_)) rfl
                refine VS_step (S_box rfl rfl (fun b2 => ?_)) rfl
                refine VS_pure (P_assign rfl) rfl rfl rfl ?_
                refine VS_nil ?_
                refine QS_then ?_
                refine TS_seq ?_
                refine TS_region ?_
                refine VS_pure (P_fieldAddr0 fo32_0 rfl) rfl rfl rfl ?_
                refine VS_read (S_loadB sg5 rfl (.there (.here)) rfl) rfl rfl rfl ?_
                refine VS_pure (P_fieldAddr0 fo32_0 rfl) rfl rfl rfl ?_
                refine VS_read (S_loadB sg5 rfl (.here) rfl) rfl rfl rfl ?_
                refine VS_pure (dt (P_eql rfl rfl) (by first | assumption | rfl | omega | decide)) rfl rfl rfl ?_
                refine VS_pure (P_move rfl) rfl rfl rfl ?_
                refine VS_pure (P_fieldAddr0 fo32_1 rfl) rfl rfl rfl ?_
                refine VS_read (S_loadB sg3 rfl (.there (.here)) rfl) rfl rfl rfl ?_
                refine VS_pure (P_fieldAddr0 fo32_1 rfl) rfl rfl rfl ?_
                refine VS_read (S_loadB sg3 rfl (.here) rfl) rfl rfl rfl ?_
                refine VS_pure (dt (P_eql rfl rfl) (by first | assumption | rfl | omega | decide)) rfl rfl rfl ?_
                refine VS_pure (P_pick_t rfl rfl) rfl rfl rfl ?_
                refine VS_pure (P_move rfl) rfl rfl rfl ?_
                refine VS_pure (P_fieldAddr0 fo32_2 rfl) rfl rfl rfl ?_
                refine VS_read (S_loadB sg9 rfl (.there (.here)) rfl) rfl rfl rfl ?_
                refine VS_pure (P_fieldAddr0 fo32_2 rfl) rfl rfl rfl ?_
                refine VS_read (S_loadB sg9 rfl (.here) rfl) rfl rfl rfl ?_
                refine VS_pure (dt (P_seql rfl rfl) (by first | assumption | rfl | omega | decide)) rfl rfl rfl ?_
                refine VS_pure (P_pick_t rfl rfl) rfl rfl rfl ?_
                refine VS_pure (P_move rfl) rfl rfl rfl ?_
                refine VS_pure (P_fieldAddr0 fo32_3 rfl) rfl rfl rfl ?_
                refine VS_read (S_loadB sg22 rfl (.there (.here)) rfl) rfl rfl rfl ?_
                refine VS_pure (P_fieldAddr0 fo32_3 rfl) rfl rfl rfl ?_
                refine VS_read (S_loadB sg22 rfl (.here) rfl) rfl rfl rfl ?_
                refine VS_step (S_callR cl41 rfl (fun m' hm he => (F1 _ hm)) rfl ?_) rfl
                rintro _ rfl
                refine VS_pure (P_pick_t rfl rfl) rfl rfl rfl ?_
                refine VS_pure (P_move rfl) rfl rfl rfl ?_
                refine VS_pure (P_fieldAddr0 fo32_4 rfl) rfl rfl rfl ?_
                refine VS_read (S_loadB sg23 rfl (.there (.here)) rfl) rfl rfl rfl ?_
                refine VS_pure (P_fieldAddr0 fo32_4 rfl) rfl rfl rfl ?_
                refine VS_read (S_loadB sg23 rfl (.here) rfl) rfl rfl rfl ?_
                refine VS_step (S_callR cl42 rfl (fun m' hm he => (F2 _ hm)) rfl ?_) rfl
                rintro _ rfl
                refine VS_pure (P_pick_t rfl rfl) rfl rfl rfl ?_
                refine VS_pure (P_move rfl) rfl rfl rfl ?_
                refine VS_pure (P_fieldAddr0 fo32_5 rfl) rfl rfl rfl ?_
                refine VS_read (S_loadBO ag28 rfl (.there (.here)) rfl) rfl rfl rfl ?_
                refine VS_pure (P_fieldAddr0 fo32_5 rfl) rfl rfl rfl ?_
                refine VS_read (S_loadBO ag28 rfl (.here) rfl) rfl rfl rfl ?_
                refine VS_step (S_callR cl43 rfl (fun m' hm he => (F3 _ hm)) rfl ?_) rfl
                rintro _ rfl
                refine VS_pure (P_pick_t rfl rfl) rfl rfl rfl ?_
                refine VS_pure (P_move rfl) rfl rfl rfl ?_
                refine VS_pure (P_fieldAddr0 fo32_6 rfl) rfl rfl rfl ?_
                refine VS_read (S_loadB sg5 rfl (.there (.here)) rfl) rfl rfl rfl ?_
                refine VS_pure (P_fieldAddr0 fo32_6 rfl) rfl rfl rfl ?_
                refine VS_read (S_loadB sg5 rfl (.here) rfl) rfl rfl rfl ?_
                refine VS_pure (df (P_eql rfl rfl) (by first | assumption | omega | decide | exact fun hx => hx (by assumption))) rfl rfl rfl ?_
                refine VS_pure (P_pick_t rfl rfl) rfl rfl rfl ?_
                refine VS_pure (P_move rfl) rfl rfl rfl ?_
                refine VS_skip rfl rfl rfl ?_
                refine VS_skip rfl rfl rfl ?_
                refine VS_skip rfl rfl rfl ?_
                refine VS_skip rfl rfl rfl ?_
                refine VS_skip rfl rfl rfl ?_
                refine VS_pure (P_pick_f rfl rfl) rfl rfl rfl ?_
                refine VS_pure (P_move rfl) rfl rfl rfl ?_
                refine VS_skip rfl rfl rfl ?_
                refine VS_skip rfl rfl rfl ?_
                refine VS_skip rfl rfl rfl ?_
                refine VS_skip rfl rfl rfl ?_
                refine VS_skip rfl rfl rfl ?_
                refine VS_pure (P_pick_f rfl rfl) rfl rfl rfl ?_
                refine VS_pure (P_assign rfl) rfl rfl rfl ?_
                refine VS_nil ?_
                refine QS_then ?_
                refine TS_ret ?_
                exact QS_ret [_] ⟨rfl, trivial⟩ [] (Pick.nil _) ⟨rfl, rfl⟩
            · rw [decide_eq_false (ne (fun h => by rw [h]) g6)]
              rw [decide_eq_false g6] at F3
              refine TS_seq ?_
              refine TS_region ?_
              refine VS_step (S_box rfl rfl (fun b1 => ?_)) rfl
              refine VS_step (S_box rfl rfl (fun b2 => ?_)) rfl
              refine VS_pure (P_assign rfl) rfl rfl rfl ?_
              refine VS_nil ?_
              refine QS_then ?_
              refine TS_seq ?_
              refine TS_region ?_
              refine VS_pure (P_fieldAddr0 fo32_0 rfl) rfl rfl rfl ?_
              refine VS_read (S_loadB sg5 rfl (.there (.here)) rfl) rfl rfl rfl ?_
              refine VS_pure (P_fieldAddr0 fo32_0 rfl) rfl rfl rfl ?_
              refine VS_read (S_loadB sg5 rfl (.here) rfl) rfl rfl rfl ?_
              refine VS_pure (dt (P_eql rfl rfl) (by first | assumption | rfl | omega | decide)) rfl rfl rfl ?_
              refine VS_pure (P_move rfl) rfl rfl rfl ?_
              refine VS_pure (P_fieldAddr0 fo32_1 rfl) rfl rfl rfl ?_
              refine VS_read (S_loadB sg3 rfl (.there (.here)) rfl) rfl rfl rfl ?_
              refine VS_pure (P_fieldAddr0 fo32_1 rfl) rfl rfl rfl ?_
              refine VS_read (S_loadB sg3 rfl (.here) rfl) rfl rfl rfl ?_
              refine VS_pure (dt (P_eql rfl rfl) (by first | assumption | rfl | omega | decide)) rfl rfl rfl ?_
              refine VS_pure (P_pick_t rfl rfl) rfl rfl rfl ?_
              refine VS_pure (P_move rfl) rfl rfl rfl ?_
              refine VS_pure (P_fieldAddr0 fo32_2 rfl) rfl rfl rfl ?_
              refine VS_read (S_loadB sg9 rfl (.there (.here)) rfl) rfl rfl rfl ?_
              refine VS_pure (P_fieldAddr0 fo32_2 rfl) rfl rfl rfl ?_
              refine VS_read (S_loadB sg9 rfl (.here) rfl) rfl rfl rfl ?_
              refine VS_pure (dt (P_seql rfl rfl) (by first | assumption | rfl | omega | decide)) rfl rfl rfl ?_
              refine VS_pure (P_pick_t rfl rfl) rfl rfl rfl ?_
              refine VS_pure (P_move rfl) rfl rfl rfl ?_
              refine VS_pure (P_fieldAddr0 fo32_3 rfl) rfl rfl rfl ?_
              refine VS_read (S_loadB sg22 rfl (.there (.here)) rfl) rfl rfl rfl ?_
              refine VS_pure (P_fieldAddr0 fo32_3 rfl) rfl rfl rfl ?_
              refine VS_read (S_loadB sg22 rfl (.here) rfl) rfl rfl rfl ?_
              refine VS_step (S_callR cl41 rfl (fun m' hm he => (F1 _ hm)) rfl ?_) rfl
              rintro _ rfl
              refine VS_pure (P_pick_t rfl rfl) rfl rfl rfl ?_
              refine VS_pure (P_move rfl) rfl rfl rfl ?_
              refine VS_pure (P_fieldAddr0 fo32_4 rfl) rfl rfl rfl ?_
              refine VS_read (S_loadB sg23 rfl (.there (.here)) rfl) rfl rfl rfl ?_
              refine VS_pure (P_fieldAddr0 fo32_4 rfl) rfl rfl rfl ?_
              refine VS_read (S_loadB sg23 rfl (.here) rfl) rfl rfl rfl ?_
              refine VS_step (S_callR cl42 rfl (fun m' hm he => (F2 _ hm)) rfl ?_) rfl
              rintro _ rfl
              refine VS_pure (P_pick_t rfl rfl) rfl rfl rfl ?_
              refine VS_pure (P_move rfl) rfl rfl rfl ?_
              refine VS_pure (P_fieldAddr0 fo32_5 rfl) rfl rfl rfl ?_
              refine VS_read (S_loadBO ag28 rfl (.there (.here)) rfl) rfl rfl rfl ?_
              refine VS_pure (P_fieldAddr0 fo32_5 rfl) rfl rfl rfl ?_
              refine VS_read (S_loadBO ag28 rfl (.here) rfl) rfl rfl rfl ?_
              refine VS_step (S_callR cl43 rfl (fun m' hm he => (F3 _ hm)) rfl ?_) rfl
              rintro _ rfl
              refine VS_pure (P_pick_t rfl rfl) rfl rfl rfl ?_
              refine VS_pure (P_move rfl) rfl rfl rfl ?_
              refine VS_skip rfl rfl rfl ?_
              refine VS_skip rfl rfl rfl ?_
              refine VS_skip rfl rfl rfl ?_
              refine VS_skip rfl rfl rfl ?_
              refine VS_skip rfl rfl rfl ?_
              refine VS_pure (P_pick_f rfl rfl) rfl rfl rfl ?_
              refine VS_pure (P_move rfl) rfl rfl rfl ?_
              refine VS_skip rfl rfl rfl ?_
              refine VS_skip rfl rfl rfl ?_
              refine VS_skip rfl rfl rfl ?_
              refine VS_skip rfl rfl rfl ?_
              refine VS_skip rfl rfl rfl ?_
              refine VS_pure (P_pick_f rfl rfl) rfl rfl rfl ?_
              refine VS_pure (P_move rfl) rfl rfl rfl ?_
              refine VS_skip rfl rfl rfl ?_
              refine VS_skip rfl rfl rfl ?_
              refine VS_skip rfl rfl rfl ?_
              refine VS_skip rfl rfl rfl ?_
              refine VS_skip rfl rfl rfl ?_
              refine VS_pure (P_pick_f rfl rfl) rfl rfl rfl ?_
              refine VS_pure (P_assign rfl) rfl rfl rfl ?_
              refine VS_nil ?_
              refine QS_then ?_
              refine TS_ret ?_
              exact QS_ret [_] ⟨rfl, trivial⟩ [] (Pick.nil _) ⟨rfl, rfl⟩
          · rw [decide_eq_false (ne (fun h => by rw [h]) g5)]
            rw [decide_eq_false g5] at F2
            refine TS_seq ?_
            refine TS_region ?_
            refine VS_step (S_box rfl rfl (fun b1 => ?_)) rfl
            refine VS_step (S_box rfl rfl (fun b2 => ?_)) rfl
            refine VS_pure (P_assign rfl) rfl rfl rfl ?_
            refine VS_nil ?_
            refine QS_then ?_
            refine TS_seq ?_
            refine TS_region ?_
            refine VS_pure (P_fieldAddr0 fo32_0 rfl) rfl rfl rfl ?_
            refine VS_read (S_loadB sg5 rfl (.there (.here)) rfl) rfl rfl rfl ?_
            refine VS_pure (P_fieldAddr0 fo32_0 rfl) rfl rfl rfl ?_
            refine VS_read (S_loadB sg5 rfl (.here) rfl) rfl rfl rfl ?_
            refine VS_pure (dt (P_eql rfl rfl) (by first | assumption | rfl | omega | decide)) rfl rfl rfl ?_
            refine VS_pure (P_move rfl) rfl rfl rfl ?_
            refine VS_pure (P_fieldAddr0 fo32_1 rfl) rfl rfl rfl ?_
            refine VS_read (S_loadB sg3 rfl (.there (.here)) rfl) rfl rfl rfl ?_
            refine VS_pure (P_fieldAddr0 fo32_1 rfl) rfl rfl rfl ?_
            refine VS_read (S_loadB sg3 rfl (.here) rfl) rfl rfl rfl ?_
            refine VS_pure (dt (P_eql rfl rfl) (by first | assumption | rfl | omega | decide)) rfl rfl rfl ?_
            refine VS_pure (P_pick_t rfl rfl) rfl rfl rfl ?_
            refine VS_pure (P_move rfl) rfl rfl rfl ?_
            refine VS_pure (P_fieldAddr0 fo32_2 rfl) rfl rfl rfl ?_
            refine VS_read (S_loadB sg9 rfl (.there (.here)) rfl) rfl rfl rfl ?_
            refine VS_pure (P_fieldAddr0 fo32_2 rfl) rfl rfl rfl ?_
            refine VS_read (S_loadB sg9 rfl (.here) rfl) rfl rfl rfl ?_
            refine VS_pure (dt (P_seql rfl rfl) (by first | assumption | rfl | omega | decide)) rfl rfl rfl ?_
            refine VS_pure (P_pick_t rfl rfl) rfl rfl rfl ?_
            refine VS_pure (P_move rfl) rfl rfl rfl ?_
            refine VS_pure (P_fieldAddr0 fo32_3 rfl) rfl rfl rfl ?_
            refine VS_read (S_loadB sg22 rfl (.there (.here)) rfl) rfl rfl rfl ?_
            refine VS_pure (P_fieldAddr0 fo32_3 rfl) rfl rfl rfl ?_
            refine VS_read (S_loadB sg22 rfl (.here) rfl) rfl rfl rfl ?_
            refine VS_step (S_callR cl41 rfl (fun m' hm he => (F1 _ hm)) rfl ?_) rfl
            rintro _ rfl
            refine VS_pure (P_pick_t rfl rfl) rfl rfl rfl ?_
            refine VS_pure (P_move rfl) rfl rfl rfl ?_
            refine VS_pure (P_fieldAddr0 fo32_4 rfl) rfl rfl rfl ?_
            refine VS_read (S_loadB sg23 rfl (.there (.here)) rfl) rfl rfl rfl ?_
            refine VS_pure (P_fieldAddr0 fo32_4 rfl) rfl rfl rfl ?_
            refine VS_read (S_loadB sg23 rfl (.here) rfl) rfl rfl rfl ?_
            refine VS_step (S_callR cl42 rfl (fun m' hm he => (F2 _ hm)) rfl ?_) rfl
            rintro _ rfl
            refine VS_pure (P_pick_t rfl rfl) rfl rfl rfl ?_
            refine VS_pure (P_move rfl) rfl rfl rfl ?_
            refine VS_skip rfl rfl rfl ?_
            refine VS_skip rfl rfl rfl ?_
            refine VS_skip rfl rfl rfl ?_
            refine VS_skip rfl rfl rfl ?_
            refine VS_skip rfl rfl rfl ?_
            refine VS_pure (P_pick_f rfl rfl) rfl rfl rfl ?_
            refine VS_pure (P_move rfl) rfl rfl rfl ?_
            refine VS_skip rfl rfl rfl ?_
            refine VS_skip rfl rfl rfl ?_
            refine VS_skip rfl rfl rfl ?_
            refine VS_skip rfl rfl rfl ?_
            refine VS_skip rfl rfl rfl ?_
            refine VS_pure (P_pick_f rfl rfl) rfl rfl rfl ?_
            refine VS_pure (P_move rfl) rfl rfl rfl ?_
            refine VS_skip rfl rfl rfl ?_
            refine VS_skip rfl rfl rfl ?_
            refine VS_skip rfl rfl rfl ?_
            refine VS_skip rfl rfl rfl ?_
            refine VS_skip rfl rfl rfl ?_
            refine VS_pure (P_pick_f rfl rfl) rfl rfl rfl ?_
            refine VS_pure (P_move rfl) rfl rfl rfl ?_
            refine VS_skip rfl rfl rfl ?_
            refine VS_skip rfl rfl rfl ?_
            refine VS_skip rfl rfl rfl ?_
            refine VS_skip rfl rfl rfl ?_
            refine VS_skip rfl rfl rfl ?_
            refine VS_pure (P_pick_f rfl rfl) rfl rfl rfl ?_
            refine VS_pure (P_assign rfl) rfl rfl rfl ?_
            refine VS_nil ?_
            refine QS_then ?_
            refine TS_ret ?_
            exact QS_ret [_] ⟨rfl, trivial⟩ [] (Pick.nil _) ⟨rfl, rfl⟩
        · rw [decide_eq_false (ne (fun h => by rw [h]) g4)]
          rw [decide_eq_false g4] at F1
          refine TS_seq ?_
          refine TS_region ?_
          refine VS_step (S_box rfl rfl (fun b1 => ?_)) rfl
          refine VS_step (S_box rfl rfl (fun b2 => ?_)) rfl
          refine VS_pure (P_assign rfl) rfl rfl rfl ?_
          refine VS_nil ?_
          refine QS_then ?_
          refine TS_seq ?_
          refine TS_region ?_
          refine VS_pure (P_fieldAddr0 fo32_0 rfl) rfl rfl rfl ?_
          refine VS_read (S_loadB sg5 rfl (.there (.here)) rfl) rfl rfl rfl ?_
          refine VS_pure (P_fieldAddr0 fo32_0 rfl) rfl rfl rfl ?_
          refine VS_read (S_loadB sg5 rfl (.here) rfl) rfl rfl rfl ?_
          refine VS_pure (dt (P_eql rfl rfl) (by first | assumption | rfl | omega | decide)) rfl rfl rfl ?_
          refine VS_pure (P_move rfl) rfl rfl rfl ?_
          refine VS_pure (P_fieldAddr0 fo32_1 rfl) rfl rfl rfl ?_
          refine VS_read (S_loadB sg3 rfl (.there (.here)) rfl) rfl rfl rfl ?_
          refine VS_pure (P_fieldAddr0 fo32_1 rfl) rfl rfl rfl ?_
          refine VS_read (S_loadB sg3 rfl (.here) rfl) rfl rfl rfl ?_
          refine VS_pure (dt (P_eql rfl rfl) (by first | assumption | rfl | omega | decide)) rfl rfl rfl ?_
          refine VS_pure (P_pick_t rfl rfl) rfl rfl rfl ?_
          refine VS_pure (P_move rfl) rfl rfl rfl ?_
          refine VS_pure (P_fieldAddr0 fo32_2 rfl) rfl rfl rfl ?_
          refine VS_read (S_loadB sg9 rfl (.there (.here)) rfl) rfl rfl rfl ?_
          refine VS_pure (P_fieldAddr0 fo32_2 rfl) rfl rfl rfl ?_
          refine VS_read (S_loadB sg9 rfl (.here) rfl) rfl rfl rfl ?_
          refine VS_pure (dt (P_seql rfl rfl) (by first | assumption | rfl | omega | decide)) rfl rfl rfl ?_
          refine VS_pure (P_pick_t rfl rfl) rfl rfl rfl ?_
          refine VS_pure (P_move rfl) rfl rfl rfl ?_
          refine VS_pure (P_fieldAddr0 fo32_3 rfl) rfl rfl rfl ?_
          refine VS_read (S_loadB sg22 rfl (.there (.here)) rfl) rfl rfl rfl ?_
          refine VS_pure (P_fieldAddr0 fo32_3 rfl) rfl rfl rfl ?_
          refine VS_read (S_loadB sg22 rfl (.here) rfl) rfl rfl rfl ?_
          refine VS_step (S_callR cl41 rfl (fun m' hm he => (F1 _ hm)) rfl ?_) rfl
          rintro _ rfl
          refine VS_pure (P_pick_t rfl rfl) rfl rfl rfl ?_
          refine VS_pure (P_move rfl) rfl rfl rfl ?_
          refine VS_skip rfl rfl rfl ?_
          refine VS_skip rfl rfl rfl ?_
          refine VS_skip rfl rfl rfl ?_
          refine VS_skip rfl rfl rfl ?_
          refine VS_skip rfl rfl rfl ?_
          refine VS_pure (P_pick_f rfl rfl) rfl rfl rfl ?_
          refine VS_pure (P_move rfl) rfl rfl rfl ?_
          refine VS_skip rfl rfl rfl ?_
          refine VS_skip rfl rfl rfl ?_
          refine VS_skip rfl rfl rfl ?_
          refine VS_skip rfl rfl rfl ?_
          refine VS_skip rfl rfl rfl ?_
          refine VS_pure (P_pick_f rfl rfl) rfl rfl rfl ?_
          refine VS_pure (P_move rfl) rfl rfl rfl ?_
          refine VS_skip rfl rfl rfl ?_
          refine VS_skip rfl rfl rfl ?_
          refine VS_skip rfl rfl rfl ?_
          refine VS_skip rfl rfl rfl ?_
          refine VS_skip rfl rfl rfl ?_
          refine VS_pure (P_pick_f rfl rfl) rfl rfl rfl ?_
          refine VS_pure (P_move rfl) rfl rfl rfl ?_
          refine VS_skip rfl rfl rfl ?_
          refine VS_skip rfl rfl rfl ?_
          refine VS_skip rfl rfl rfl ?_
          refine VS_skip rfl rfl rfl ?_
          refine VS_skip rfl rfl rfl ?_
          refine VS_pure (P_pick_f rfl rfl) rfl rfl rfl ?_
          refine VS_pure (P_move rfl) rfl rfl rfl ?_
          refine VS_skip rfl rfl rfl ?_
          refine VS_skip rfl rfl rfl ?_
          refine VS_skip rfl rfl rfl ?_
          refine VS_skip rfl rfl rfl ?_
          refine VS_skip rfl rfl rfl ?_
          refine VS_pure (P_pick_f rfl rfl) rfl rfl rfl ?_
          refine VS_pure (P_assign rfl) rfl rfl rfl ?_
          refine VS_nil ?_
          refine QS_then ?_
          refine TS_ret ?_
          exact QS_ret [_] ⟨rfl, trivial⟩ [] (Pick.nil _) ⟨rfl, rfl⟩
      · rw [decide_eq_false (ne (fun h => by rw [h]) g3)]
        refine TS_seq ?_
        refine TS_region ?_
        refine VS_step (S_box rfl rfl (fun b1 => ?_)) rfl
        refine VS_step (S_box rfl rfl (fun b2 => ?_)) rfl
        refine VS_pure (P_assign rfl) rfl rfl rfl ?_
        refine VS_nil ?_
        refine QS_then ?_
        refine TS_seq ?_
        refine TS_region ?_
        refine VS_pure (P_fieldAddr0 fo32_0 rfl) rfl rfl rfl ?_
        refine VS_read (S_loadB sg5 rfl (.there (.here)) rfl) rfl rfl rfl ?_
        refine VS_pure (P_fieldAddr0 fo32_0 rfl) rfl rfl rfl ?_
        refine VS_read (S_loadB sg5 rfl (.here) rfl) rfl rfl rfl ?_
        refine VS_pure (dt (P_eql rfl rfl) (by first | assumption | rfl | omega | decide)) rfl rfl rfl ?_
        refine VS_pure (P_move rfl) rfl rfl rfl ?_
        refine VS_pure (P_fieldAddr0 fo32_1 rfl) rfl rfl rfl ?_
        refine VS_read (S_loadB sg3 rfl (.there (.here)) rfl) rfl rfl rfl ?_
        refine VS_pure (P_fieldAddr0 fo32_1 rfl) rfl rfl rfl ?_
        refine VS_read (S_loadB sg3 rfl (.here) rfl) rfl rfl rfl ?_
        refine VS_pure (dt (P_eql rfl rfl) (by first | assumption | rfl | omega | decide)) rfl rfl rfl ?_
        refine VS_pure (P_pick_t rfl rfl) rfl rfl rfl ?_
        refine VS_pure (P_move rfl) rfl rfl rfl ?_
        refine VS_pure (P_fieldAddr0 fo32_2 rfl) rfl rfl rfl ?_
        refine VS_read (S_loadB sg9 rfl (.there (.here)) rfl) rfl rfl rfl ?_
        refine VS_pure (P_fieldAddr0 fo32_2 rfl) rfl rfl rfl ?_
        refine VS_read (S_loadB sg9 rfl (.here) rfl) rfl rfl rfl ?_
        refine VS_pure (df (P_seql rfl rfl) (by first | assumption | omega | decide | exact fun hx => hx (by assumption))) rfl rfl rfl ?_
        refine VS_pure (P_pick_t rfl rfl) rfl rfl rfl ?_
        refine VS_pure (P_move rfl) rfl rfl rfl ?_
        refine VS_skip rfl rfl rfl ?_
        refine VS_skip rfl rfl rfl ?_
        refine VS_skip rfl rfl rfl ?_
        refine VS_skip rfl rfl rfl ?_
        refine VS_skip rfl rfl rfl ?_
        refine VS_pure (P_pick_f rfl rfl) rfl rfl rfl ?_
        refine VS_pure (P_move rfl) rfl rfl rfl ?_
        refine VS_skip rfl rfl rfl ?_
        refine VS_skip rfl rfl rfl ?_
        refine VS_skip rfl rfl rfl ?_
        refine VS_skip rfl rfl rfl ?_
        refine VS_skip rfl rfl rfl ?_
        refine VS_pure (P_pick_f rfl rfl) rfl rfl rfl ?_
        refine VS_pure (P_move rfl) rfl rfl rfl ?_
        refine VS_skip rfl rfl rfl ?_
        refine VS_skip rfl rfl rfl ?_
        refine VS_skip rfl rfl rfl ?_
        refine VS_skip rfl rfl rfl ?_
        refine VS_skip rfl rfl rfl ?_
        refine VS_pure (P_pick_f rfl rfl) rfl rfl rfl ?_
        refine VS_pure (P_move rfl) rfl rfl rfl ?_
        refine VS_skip rfl rfl rfl ?_
        refine VS_skip rfl rfl rfl ?_
        refine VS_skip rfl rfl rfl ?_
        refine VS_skip rfl rfl rfl ?_
        refine VS_skip rfl rfl rfl ?_
        refine VS_pure (P_pick_f rfl rfl) rfl rfl rfl ?_
        refine VS_pure (P_move rfl) rfl rfl rfl ?_
        refine VS_skip rfl rfl rfl ?_
        refine VS_skip rfl rfl rfl ?_
        refine VS_skip rfl rfl rfl ?_
        refine VS_skip rfl rfl rfl ?_
        refine VS_skip rfl rfl rfl ?_
        refine VS_pure (P_pick_f rfl rfl) rfl rfl rfl ?_
        refine VS_pure (P_move rfl) rfl rfl rfl ?_
        refine VS_skip rfl rfl rfl ?_
        refine VS_skip rfl rfl rfl ?_
        refine VS_skip rfl rfl rfl ?_
        refine VS_skip rfl rfl rfl ?_
        refine VS_skip rfl rfl rfl ?_
        refine VS_pure (P_pick_f rfl rfl) rfl rfl rfl ?_
        refine VS_pure (P_assign rfl) rfl rfl rfl ?_
        refine VS_nil ?_
        refine QS_then ?_
        refine TS_ret ?_
        exact QS_ret [_] ⟨rfl, trivial⟩ [] (Pick.nil _) ⟨rfl, rfl⟩
    · rw [decide_eq_false (ne (fun h => by rw [h]) g2)]
      refine TS_seq ?_
      refine TS_region ?_
      refine VS_step (S_box rfl rfl (fun b1 => ?_)) rfl
      refine VS_step (S_box rfl rfl (fun b2 => ?_)) rfl
      refine VS_pure (P_assign rfl) rfl rfl rfl ?_
      refine VS_nil ?_
      refine QS_then ?_
      refine TS_seq ?_
      refine TS_region ?_
      refine VS_pure (P_fieldAddr0 fo32_0 rfl) rfl rfl rfl ?_
      refine VS_read (S_loadB sg5 rfl (.there (.here)) rfl) rfl rfl rfl ?_
      refine VS_pure (P_fieldAddr0 fo32_0 rfl) rfl rfl rfl ?_
      refine VS_read (S_loadB sg5 rfl (.here) rfl) rfl rfl rfl ?_
      refine VS_pure (dt (P_eql rfl rfl) (by first | assumption | rfl | omega | decide)) rfl rfl rfl ?_
      refine VS_pure (P_move rfl) rfl rfl rfl ?_
      refine VS_pure (P_fieldAddr0 fo32_1 rfl) rfl rfl rfl ?_
      refine VS_read (S_loadB sg3 rfl (.there (.here)) rfl) rfl rfl rfl ?_
      refine VS_pure (P_fieldAddr0 fo32_1 rfl) rfl rfl rfl ?_
      refine VS_read (S_loadB sg3 rfl (.here) rfl) rfl rfl rfl ?_
      refine VS_pure (df (P_eql rfl rfl) (by first | assumption | omega | decide | exact fun hx => hx (by assumption))) rfl rfl rfl ?_
      refine VS_pure (P_pick_t rfl rfl) rfl rfl rfl ?_
      refine VS_pure (P_move rfl) rfl rfl rfl ?_
      refine VS_skip rfl rfl rfl ?_
      refine VS_skip rfl rfl rfl ?_
      refine VS_skip rfl rfl rfl ?_
      refine VS_skip rfl rfl rfl ?_
      refine VS_skip rfl rfl rfl ?_
      refine VS_pure (P_pick_f rfl rfl) rfl rfl rfl ?_
      refine VS_pure (P_move rfl) rfl rfl rfl ?_
      refine VS_skip rfl rfl rfl ?_
      refine VS_skip rfl rfl rfl ?_
      refine VS_skip rfl rfl rfl ?_
      refine VS_skip rfl rfl rfl ?_
      refine VS_skip rfl rfl rfl ?_
      refine VS_pure (P_pick_f rfl rfl) rfl rfl rfl ?_
      refine VS_pure (P_move rfl) rfl rfl rfl ?_
      refine VS_skip rfl rfl rfl ?_
      refine VS_skip rfl rfl rfl ?_
      refine VS_skip rfl rfl rfl ?_
      refine VS_skip rfl rfl rfl ?_
      refine VS_skip rfl rfl rfl ?_
      refine VS_pure (P_pick_f rfl rfl) rfl rfl rfl ?_
      refine VS_pure (P_move rfl) rfl rfl rfl ?_
      refine VS_skip rfl rfl rfl ?_
      refine VS_skip rfl rfl rfl ?_
      refine VS_skip rfl rfl rfl ?_
      refine VS_skip rfl rfl rfl ?_
      refine VS_skip rfl rfl rfl ?_
      refine VS_pure (P_pick_f rfl rfl) rfl rfl rfl ?_
      refine VS_pure (P_move rfl) rfl rfl rfl ?_
      refine VS_skip rfl rfl rfl ?_
      refine VS_skip rfl rfl rfl ?_
      refine VS_skip rfl rfl rfl ?_
      refine VS_skip rfl rfl rfl ?_
      refine VS_skip rfl rfl rfl ?_
      refine VS_pure (P_pick_f rfl rfl) rfl rfl rfl ?_
      refine VS_pure (P_move rfl) rfl rfl rfl ?_
      refine VS_skip rfl rfl rfl ?_
      refine VS_skip rfl rfl rfl ?_
      refine VS_skip rfl rfl rfl ?_
      refine VS_skip rfl rfl rfl ?_
      refine VS_skip rfl rfl rfl ?_
      refine VS_pure (P_pick_f rfl rfl) rfl rfl rfl ?_
      refine VS_pure (P_move rfl) rfl rfl rfl ?_
      refine VS_skip rfl rfl rfl ?_
      refine VS_skip rfl rfl rfl ?_
      refine VS_skip rfl rfl rfl ?_
      refine VS_skip rfl rfl rfl ?_
      refine VS_skip rfl rfl rfl ?_
      refine VS_pure (P_pick_f rfl rfl) rfl rfl rfl ?_
      refine VS_pure (P_assign rfl) rfl rfl rfl ?_
      refine VS_nil ?_
      refine QS_then ?_
      refine TS_ret ?_
      exact QS_ret [_] ⟨rfl, trivial⟩ [] (Pick.nil _) ⟨rfl, rfl⟩
  · rw [decide_eq_false (ne (fun h => by rw [h]) g1)]
    refine TS_seq ?_
    refine TS_region ?_
    refine VS_step (S_box rfl rfl (fun b1 => ?_)) rfl
    refine VS_step (S_box rfl rfl (fun b2 => ?_)) rfl
    refine VS_pure (P_assign rfl) rfl rfl rfl ?_
    refine VS_nil ?_
    refine QS_then ?_
    refine TS_seq ?_
    refine TS_region ?_
    refine VS_pure (P_fieldAddr0 fo32_0 rfl) rfl rfl rfl ?_
    refine VS_read (S_loadB sg5 rfl (.there (.here)) rfl) rfl rfl rfl ?_
    refine VS_pure (P_fieldAddr0 fo32_0 rfl) rfl rfl rfl ?_
    refine VS_read (S_loadB sg5 rfl (.here) rfl) rfl rfl rfl ?_
    refine VS_pure (df (P_eql rfl rfl) (by first | assumption | omega | decide | exact fun hx => hx (by assumption))) rfl rfl rfl ?_
    refine VS_pure (P_move rfl) rfl rfl rfl ?_
    refine VS_skip rfl rfl rfl ?_
    refine VS_skip rfl rfl rfl ?_
    refine VS_skip rfl rfl rfl ?_
    refine VS_skip rfl rfl rfl ?_
    refine VS_skip rfl rfl rfl ?_
    refine VS_pure (P_pick_f rfl rfl) rfl rfl rfl ?_
    refine VS_pure (P_move rfl) rfl rfl rfl ?_
    refine VS_skip rfl rfl rfl ?_
    refine VS_skip rfl rfl rfl ?_
    refine VS_skip rfl rfl rfl ?_
    refine VS_skip rfl rfl rfl ?_
    refine VS_skip rfl rfl rfl ?_
    refine VS_pure (P_pick_f rfl rfl) rfl rfl rfl ?_
    refine VS_pure (P_move rfl) rfl rfl rfl ?_
    refine VS_skip rfl rfl rfl ?_
    refine VS_skip rfl rfl rfl ?_
    refine VS_skip rfl rfl rfl ?_
    refine VS_skip rfl rfl rfl ?_
    refine VS_skip rfl rfl rfl ?_
    refine VS_pure (P_pick_f rfl rfl) rfl rfl rfl ?_
    refine VS_pure (P_move rfl) rfl rfl rfl ?_
    refine VS_skip rfl rfl rfl ?_
    refine VS_skip rfl rfl rfl ?_
    refine VS_skip rfl rfl rfl ?_
    refine VS_skip rfl rfl rfl ?_
    refine VS_skip rfl rfl rfl ?_
    refine VS_pure (P_pick_f rfl rfl) rfl rfl rfl ?_
    refine VS_pure (P_move rfl) rfl rfl rfl ?_
    refine VS_skip rfl rfl rfl ?_
    refine VS_skip rfl rfl rfl ?_
    refine VS_skip rfl rfl rfl ?_
    refine VS_skip rfl rfl rfl ?_
    refine VS_skip rfl rfl rfl ?_
    refine VS_pure (P_pick_f rfl rfl) rfl rfl rfl ?_
    refine VS_pure (P_move rfl) rfl rfl rfl ?_
    refine VS_skip rfl rfl rfl ?_
    refine VS_skip rfl rfl rfl ?_
    refine VS_skip rfl rfl rfl ?_
    refine VS_skip rfl rfl rfl ?_
    refine VS_skip rfl rfl rfl ?_
    refine VS_pure (P_pick_f rfl rfl) rfl rfl rfl ?_
    refine VS_pure (P_move rfl) rfl rfl rfl ?_
    refine VS_skip rfl rfl rfl ?_
    refine VS_skip rfl rfl rfl ?_
    refine VS_skip rfl rfl rfl ?_
    refine VS_skip rfl rfl rfl ?_
    refine VS_skip rfl rfl rfl ?_
    refine VS_pure (P_pick_f rfl rfl) rfl rfl rfl ?_
    refine VS_pure (P_move rfl) rfl rfl rfl ?_
    refine VS_skip rfl rfl rfl ?_
    refine VS_skip rfl rfl rfl ?_
    refine VS_skip rfl rfl rfl ?_
    refine VS_skip rfl rfl rfl ?_
    refine VS_skip rfl rfl rfl ?_
    refine VS_pure (P_pick_f rfl rfl) rfl rfl rfl ?_
    refine VS_pure (P_assign rfl) rfl rfl rfl ?_
    refine VS_nil ?_
    refine QS_then ?_
    refine TS_ret ?_
    exact QS_ret [_] ⟨rfl, trivial⟩ [] (Pick.nil _) ⟨rfl, rfl⟩
end Go.Proofs.Ytbpihgphicmdiaa
