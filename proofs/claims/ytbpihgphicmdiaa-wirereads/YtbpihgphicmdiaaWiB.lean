/- A part of the proof: contracts of functions of the program. No condition. -/
import Derived.Test.YtbpihgphicmdiaaWiA
namespace Go.Proofs.Ytbpihgphicmdiaa
open Go.Eng Wi
theorem SlP_at {m : Mp} {a : Option Addr} {xs : List (Int × Int)} (hr : Rd m a (xs.flatMap pV)) {i : Nat} (hi : i < xs.length) : At m ((sa a).add (i * 2)) (pV xs[i]) ∧ a.isSome = true := by
  have hfl : ∀ (us : List (Int × Int)) (k : Nat) (h : k < us.length), ((us.flatMap pV).drop (k * 2)).take 2 = pV us[k] := by
    intro us
    induction us with
    | nil => intro k h; simp at h
    | cons u r ih =>
      intro k h
      cases k with
      | zero => simp [pV]
      | succ k =>
        have := ih k (by simpa using h)
        rw [List.flatMap_cons, show (k + 1) * 2 = (pV u).length + k * 2 by simp [pV]; omega, ← List.drop_drop, List.drop_left, this]
        rfl
  have h8 := hfl xs i hi
  have hpos : 0 < (xs.flatMap pV).length := by
    have h9 := congrArg List.length h8
    rw [List.length_take, List.length_drop] at h9
    simp only [pV, List.length_cons, List.length_nil] at h9
    omega
  have := hr.elem (i * 2) 2
  rw [h8] at this
  exact ⟨this, hr.isSome hpos⟩
def pF (p : Int × Int) : List Dt := [.i .i64 p.1, .i .i64 p.2]
theorem pF_inj {p q : Int × Int} (h : pF p = pF q) : p = q := by
  obtain ⟨a, b⟩ := p
  obtain ⟨c, d⟩ := q
  simp [pF] at h
  simp [h]
set_option maxHeartbeats 8000000 in
theorem SameAction_ok {m : Mp} {lx ly : List Value} {x y : Acn} (hx : ActR m lx x) (hy : ActR m ly y) : CS Try.prog 31 [.agg lx.toArray, .agg ly.toArray] m [] (Gives (.bool (decide (x = y)))) := by
  obtain ⟨v, v2, rfl, sx, a, c, rfl, ra, la⟩ := hx
  obtain ⟨w, w2, rfl, sy, b, e, rfl, rb, lb⟩ := hy
  refine CS_of [.tmp 4] Try.func31 rfl rfl rfl ?_
  have F : ∀ m', Le m m' → CS Try.prog 55 [v, w] m' [] (Gives (.bool (decide (x.ids = y.ids)))) := fun m' hm => row_ok (sx.mono hm) (sy.mono hm)
  have hma : x.pairs.length ≤ 9223372036854775807 := la
  have main : x.op = y.op → x.side = y.side → x.place = y.place → x.target = y.target → x.ids = y.ids → x.pairs.length = y.pairs.length → (x = y ↔ x.pairs = y.pairs) := fun g1 g2 g3 g4 g5 _ => ⟨fun h => by rw [h], fun h => by cases x; cases y; simp_all⟩
  have ne : ∀ {p : Prop}, (x = y → p) → ¬ p → x ≠ y := fun h hn e => hn (h e)
  by_cases g1 : x.op = y.op
  · skip
    by_cases g2 : x.side = y.side
    · skip
      by_cases g3 : x.place = y.place
      · skip
        by_cases g4 : x.target = y.target
        · skip
          by_cases g5 : x.ids = y.ids
          · rw [decide_eq_true g5] at F
            by_cases g6 : x.pairs.length = y.pairs.length
            · refine TS_seq ?_
              refine TS_region ?_
              refine VS_step (S_box rfl rfl (fun b1 => ?_)) rfl
              refine VS_step (S_box rfl rfl (fun b2 => ?_)) rfl
              refine VS_pure (P_assign rfl) rfl rfl rfl ?_
              refine VS_nil ?_
              refine QS_then ?_
              refine TS_seq ?_
              refine TS_seq ?_
              refine TS_region ?_
              refine VS_pure (P_fieldAddr0 fo28_0 rfl) rfl rfl rfl ?_
              refine VS_read (S_loadB sg24 rfl (.there (.here)) rfl) rfl rfl rfl ?_
              refine VS_pure (P_fieldAddr0 fo28_0 rfl) rfl rfl rfl ?_
              refine VS_read (S_loadB sg24 rfl (.here) rfl) rfl rfl rfl ?_
              refine VS_pure (df (P_neq rfl rfl) (by first | assumption | omega | decide | exact fun hx => hx (by assumption))) rfl rfl rfl ?_
              refine VS_pure (P_move rfl) rfl rfl rfl ?_
              refine VS_pure (P_fieldAddr0 fo28_1 rfl) rfl rfl rfl ?_
              refine VS_read (S_loadB sg3 rfl (.there (.here)) rfl) rfl rfl rfl ?_
              refine VS_pure (P_fieldAddr0 fo28_1 rfl) rfl rfl rfl ?_
              refine VS_read (S_loadB sg3 rfl (.here) rfl) rfl rfl rfl ?_
              refine VS_pure (df (P_neq rfl rfl) (by first | assumption | omega | decide | exact fun hx => hx (by assumption))) rfl rfl rfl ?_
              refine VS_pure (P_pick_f rfl rfl) rfl rfl rfl ?_
              refine VS_pure (P_move rfl) rfl rfl rfl ?_
              refine VS_pure (P_fieldAddr0 fo28_2 rfl) rfl rfl rfl ?_
              refine VS_read (S_loadB sg3 rfl (.there (.here)) rfl) rfl rfl rfl ?_
              refine VS_pure (P_fieldAddr0 fo28_2 rfl) rfl rfl rfl ?_
              refine VS_read (S_loadB sg3 rfl (.here) rfl) rfl rfl rfl ?_
              refine VS_pure (df (P_neq rfl rfl) (by first | assumption | omega | decide | exact fun hx => hx (by assumption))) rfl rfl rfl ?_
              refine VS_pure (P_pick_f rfl rfl) rfl rfl rfl ?_
              refine VS_pure (P_move rfl) rfl rfl rfl ?_
              refine VS_pure (P_fieldAddr0 fo28_3 rfl) rfl rfl rfl ?_
              refine VS_read (S_loadB sg3 rfl (.there (.here)) rfl) rfl rfl rfl ?_
              refine VS_pure (P_fieldAddr0 fo28_3 rfl) rfl rfl rfl ?_
              refine VS_read (S_loadB sg3 rfl (.here) rfl) rfl rfl rfl ?_
              refine VS_pure (df (P_neq rfl rfl) (by first | assumption | omega | decide | exact fun hx => hx (by assumption))) rfl rfl rfl ?_
              refine VS_pure (P_pick_f rfl rfl) rfl rfl rfl ?_
              refine VS_pure (P_move rfl) rfl rfl rfl ?_
              refine VS_pure (P_fieldAddr0 fo28_4 rfl) rfl rfl rfl ?_
              refine VS_read (S_loadB sg25 rfl (.there (.here)) rfl) rfl rfl rfl ?_
              refine VS_pure (P_fieldAddr0 fo28_4 rfl) rfl rfl rfl ?_
              refine VS_read (S_loadB sg25 rfl (.here) rfl) rfl rfl rfl ?_
              refine VS_step (S_callR cl55 rfl (fun m' hm he => (F _ hm)) rfl ?_) rfl
              rintro _ rfl
              refine VS_pure (P_not rfl) rfl rfl rfl ?_
              refine VS_pure (P_pick_f rfl rfl) rfl rfl rfl ?_
              refine VS_pure (P_move rfl) rfl rfl rfl ?_
              refine VS_pure (P_fieldAddr0 fo28_5 rfl) rfl rfl rfl ?_
              refine VS_read (S_loadB sg26 rfl (.there (.here)) rfl) rfl rfl rfl ?_
              refine VS_pure (P_len il26 rfl) rfl rfl rfl ?_
              refine VS_pure (P_fieldAddr0 fo28_5 rfl) rfl rfl rfl ?_
              refine VS_read (S_loadB sg26 rfl (.here) rfl) rfl rfl rfl ?_
              refine VS_pure (P_len il26 rfl) rfl rfl rfl ?_
              refine VS_pure (df (P_neq rfl rfl) (by first | assumption | omega | decide | exact fun hx => hx (by assumption))) rfl rfl rfl ?_
              refine VS_pure (P_pick_f rfl rfl) rfl rfl rfl ?_
              refine VS_nil ?_
              refine QS_then ?_
              refine TS_false rfl ?_
              refine TS_skip ?_
              refine QS_then ?_
              refine TS_seq ?_
              refine TS_seq ?_
              refine TS_region ?_
              refine VS_pure (P_assign rfl) rfl rfl rfl ?_
              refine VS_nil ?_
              refine QS_then ?_
              refine TS_block ?_
              have hiff := main g1 g2 g3 g4 g5 g6
              refine TS_loop (fun i : Nat => [(2, .pointer (some ⟨b1, 0, none⟩)), (3, .pointer (some ⟨b2, 0, none⟩)), (5, .int .i64 (i : Nat))]) (fun _ => [cel b2 [.int .i8 y.op, iV y.side, iV y.place, iV y.target, w, .slice b y.pairs.length e] 28, cel b1 [.int .i8 x.op, iV x.side, iV x.place, iV x.target, v, .slice a x.pairs.length c] 28]) (fun i => i ≤ x.pairs.length ∧ x.pairs.take i = y.pairs.take i) (fun i => x.pairs.length - i) 0 ⟨rfl, rfl, rfl, trivial⟩ (Pick.refl _) ⟨Nat.zero_le _, rfl⟩ ?_
              rintro i ⟨hi, ht⟩
              by_cases hlt : i < x.pairs.length
              · have hlt2 : i < y.pairs.length := by omega
                obtain ⟨t1, ha⟩ := SlP_at ra hlt
                obtain ⟨t2, hb⟩ := SlP_at rb hlt2
                by_cases hq : x.pairs[i] = y.pairs[i]
                · refine TS_seq ?_
                  refine TS_seq ?_
                  refine TS_region ?_
                  refine VS_pure (P_move rfl) rfl rfl rfl ?_
                  refine VS_pure (P_fieldAddr0 fo28_5 rfl) rfl rfl rfl ?_
                  refine VS_read (S_loadB sg26 rfl (.there (.here)) rfl) rfl rfl rfl ?_
                  refine VS_pure (P_len il26 rfl) rfl rfl rfl ?_
                  refine VS_pure (dt (P_lss rfl rfl) (by first | assumption | rfl | omega | decide)) rfl rfl rfl ?_
                  refine VS_nil ?_
                  refine QS_then ?_
                  refine TS_true rfl ?_
                  refine TS_skip ?_
                  refine QS_then ?_
                  refine TS_seq ?_
                  refine TS_block ?_
                  refine TS_seq ?_
                  refine TS_draw (.step 0 .pure (.step 2 .pure (.step 5 .pure (.step 7 .pure (.step 1 .read (.step 3 .pure (.step 4 .read (.step 6 .read (.step 8 .pure (.step 9 .read (.step 10 .pure (.done)))))))))))) mixed (by kernel_rfl) (fun _ _ _ _ hq => hq) ?_
                  refine VTS_pure rfl (P_fieldAddr0 fo28_5 rfl) rfl rfl rfl ?_
                  refine VTS_pure rfl (P_move rfl) rfl rfl rfl ?_
                  refine VTS_pure rfl (P_fieldAddr0 fo28_5 rfl) rfl rfl rfl ?_
                  refine VTS_pure rfl (P_move rfl) rfl rfl rfl ?_
                  refine VTS_read rfl (S_loadB sg26 rfl (.there (.here)) rfl) rfl rfl rfl ?_
                  refine VTS_pure rfl (P_indexAddrN ez26 rfl rfl ha (by omega)) rfl rfl rfl ?_
                  refine VTS_read rfl (S_loadAt ag132 rfl rfl t1) rfl rfl rfl ?_
                  refine VTS_read rfl (S_loadB sg26 rfl (.here) rfl) rfl rfl rfl ?_
                  refine VTS_pure rfl (P_indexAddrN ez26 rfl rfl hb (by omega)) rfl rfl rfl ?_
                  refine VTS_read rfl (S_loadAt ag132 rfl rfl t2) rfl rfl rfl ?_
                  refine VTS_pure rfl ((df (P_structNeq (pF x.pairs[i]) (pF y.pairs[i]) fg132 rfl rfl rfl rfl) (fun h => h (by rw [hq])))) rfl rfl rfl ?_
                  refine VTS_nil ?_
                  refine QS_then ?_
                  refine TS_false rfl ?_
                  refine TS_skip ?_
                  refine QS_block ?_
                  refine QS_then ?_
                  refine TS_region ?_
                  refine VS_pure (P_move rfl) rfl rfl rfl ?_
                  refine VS_pure (P_add rfl rfl (w64 (by omega) (by omega))) rfl rfl rfl ?_
                  refine VS_pure (P_assign rfl) rfl rfl rfl ?_
                  refine VS_nil ?_
                  exact QS_round (i + 1) ⟨rfl, rfl, rfl, trivial⟩ (Pick.refl _) ⟨hlt, take_step ht hlt hlt2 hq⟩ (by omega)
                · rw [decide_eq_false (ne (fun h => by subst h; rfl) hq)]
                  refine TS_seq ?_
                  refine TS_seq ?_
                  refine TS_region ?_
                  refine VS_pure (P_move rfl) rfl rfl rfl ?_
                  refine VS_pure (P_fieldAddr0 fo28_5 rfl) rfl rfl rfl ?_
                  refine VS_read (S_loadB sg26 rfl (.there (.here)) rfl) rfl rfl rfl ?_
                  refine VS_pure (P_len il26 rfl) rfl rfl rfl ?_
                  refine VS_pure (dt (P_lss rfl rfl) (by first | assumption | rfl | omega | decide)) rfl rfl rfl ?_
                  refine VS_nil ?_
                  refine QS_then ?_
                  refine TS_true rfl ?_
                  refine TS_skip ?_
                  refine QS_then ?_
                  refine TS_seq ?_
                  refine TS_block ?_
                  refine TS_seq ?_
                  refine TS_draw (.step 0 .pure (.step 2 .pure (.step 5 .pure (.step 7 .pure (.step 1 .read (.step 3 .pure (.step 4 .read (.step 6 .read (.step 8 .pure (.step 9 .read (.step 10 .pure (.done)))))))))))) mixed (by kernel_rfl) (fun _ _ _ _ hq => hq) ?_
                  refine VTS_pure rfl (P_fieldAddr0 fo28_5 rfl) rfl rfl rfl ?_
                  refine VTS_pure rfl (P_move rfl) rfl rfl rfl ?_
                  refine VTS_pure rfl (P_fieldAddr0 fo28_5 rfl) rfl rfl rfl ?_
                  refine VTS_pure rfl (P_move rfl) rfl rfl rfl ?_
                  refine VTS_read rfl (S_loadB sg26 rfl (.there (.here)) rfl) rfl rfl rfl ?_
                  refine VTS_pure rfl (P_indexAddrN ez26 rfl rfl ha (by omega)) rfl rfl rfl ?_
                  refine VTS_read rfl (S_loadAt ag132 rfl rfl t1) rfl rfl rfl ?_
                  refine VTS_read rfl (S_loadB sg26 rfl (.here) rfl) rfl rfl rfl ?_
                  refine VTS_pure rfl (P_indexAddrN ez26 rfl rfl hb (by omega)) rfl rfl rfl ?_
                  refine VTS_read rfl (S_loadAt ag132 rfl rfl t2) rfl rfl rfl ?_
                  refine VTS_pure rfl ((dt (P_structNeq (pF x.pairs[i]) (pF y.pairs[i]) fg132 rfl rfl rfl rfl) (fun h => hq (pF_inj h)))) rfl rfl rfl ?_
                  refine VTS_nil ?_
                  refine QS_then ?_
                  refine TS_true rfl ?_
                  refine TS_seq ?_
                  refine TS_region ?_
                  refine VS_pure (P_assign rfl) rfl rfl rfl ?_
                  refine VS_nil ?_
                  refine QS_then ?_
                  refine TS_ret ?_
                  refine QS_block_ret ?_
                  refine QS_then_ret ?_
                  refine QS_round_ret ?_
                  refine QS_block_ret ?_
                  refine QS_then_ret ?_
                  exact QS_ret [_] ⟨rfl, trivial⟩ [] (Pick.nil _) ⟨rfl, rfl⟩
              · rw [decide_eq_true (hiff.2 (take_all ht (by omega) g6))]
                refine TS_seq ?_
                refine TS_seq ?_
                refine TS_region ?_
                refine VS_pure (P_move rfl) rfl rfl rfl ?_
                refine VS_pure (P_fieldAddr0 fo28_5 rfl) rfl rfl rfl ?_
                refine VS_read (S_loadB sg26 rfl (.there (.here)) rfl) rfl rfl rfl ?_
                refine VS_pure (P_len il26 rfl) rfl rfl rfl ?_
                refine VS_pure (df (P_lss rfl rfl) (by first | assumption | omega | decide | exact fun hx => hx (by assumption))) rfl rfl rfl ?_
                refine VS_nil ?_
                refine QS_then ?_
                refine TS_false rfl ?_
                refine TS_exit ?_
                refine QS_then_exit ?_
                refine QS_round_exit ?_
                refine QS_block_here ?_
                refine QS_then ?_
                refine TS_seq ?_
                refine TS_region ?_
                refine VS_pure (P_assign rfl) rfl rfl rfl ?_
                refine VS_nil ?_
                refine QS_then ?_
                refine TS_ret ?_
                exact QS_ret [_] ⟨rfl, trivial⟩ [] (Pick.nil _) ⟨rfl, rfl⟩
            · rw [decide_eq_false (ne (fun h => by rw [h]) g6)]
              refine TS_seq ?_
              refine TS_region ?_
              refine VS_step (S_box rfl rfl (fun b1 => ?_)) rfl
              refine VS_step (S_box rfl rfl (fun b2 => ?_)) rfl
              refine VS_pure (P_assign rfl) rfl rfl rfl ?_
              refine VS_nil ?_
              refine QS_then ?_
              refine TS_seq ?_
              refine TS_seq ?_
              refine TS_region ?_
              refine VS_pure (P_fieldAddr0 fo28_0 rfl) rfl rfl rfl ?_
              refine VS_read (S_loadB sg24 rfl (.there (.here)) rfl) rfl rfl rfl ?_
              refine VS_pure (P_fieldAddr0 fo28_0 rfl) rfl rfl rfl ?_
              refine VS_read (S_loadB sg24 rfl (.here) rfl) rfl rfl rfl ?_
              refine VS_pure (df (P_neq rfl rfl) (by first | assumption | omega | decide | exact fun hx => hx (by assumption))) rfl rfl rfl ?_
              refine VS_pure (P_move rfl) rfl rfl rfl ?_
              refine VS_pure (P_fieldAddr0 fo28_1 rfl) rfl rfl rfl ?_
              refine VS_read (S_loadB sg3 rfl (.there (.here)) rfl) rfl rfl rfl ?_
              refine VS_pure (P_fieldAddr0 fo28_1 rfl) rfl rfl rfl ?_
              refine VS_read (S_loadB sg3 rfl (.here) rfl) rfl rfl rfl ?_
              refine VS_pure (df (P_neq rfl rfl) (by first | assumption | omega | decide | exact fun hx => hx (by assumption))) rfl rfl rfl ?_
              refine VS_pure (P_pick_f rfl rfl) rfl rfl rfl ?_
              refine VS_pure (P_move rfl) rfl rfl rfl ?_
              refine VS_pure (P_fieldAddr0 fo28_2 rfl) rfl rfl rfl ?_
              refine VS_read (S_loadB sg3 rfl (.there (.here)) rfl) rfl rfl rfl ?_
              refine VS_pure (P_fieldAddr0 fo28_2 rfl) rfl rfl rfl ?_
              refine VS_read (S_loadB sg3 rfl (.here) rfl) rfl rfl rfl ?_
              refine VS_pure (df (P_neq rfl rfl) (by first | assumption | omega | decide | exact fun hx => hx (by assumption))) rfl rfl rfl ?_
              refine VS_pure (P_pick_f rfl rfl) rfl rfl rfl ?_
              refine VS_pure (P_move rfl) rfl rfl rfl ?_
              refine VS_pure (P_fieldAddr0 fo28_3 rfl) rfl rfl rfl ?_
              refine VS_read (S_loadB sg3 rfl (.there (.here)) rfl) rfl rfl rfl ?_
              refine VS_pure (P_fieldAddr0 fo28_3 rfl) rfl rfl rfl ?_
              refine VS_read (S_loadB sg3 rfl (.here) rfl) rfl rfl rfl ?_
              refine VS_pure (df (P_neq rfl rfl) (by first | assumption | omega | decide | exact fun hx => hx (by assumption))) rfl rfl rfl ?_
              refine VS_pure (P_pick_f rfl rfl) rfl rfl rfl ?_
              refine VS_pure (P_move rfl) rfl rfl rfl ?_
              refine VS_pure (P_fieldAddr0 fo28_4 rfl) rfl rfl rfl ?_
              refine VS_read (S_loadB sg25 rfl (.there (.here)) rfl) rfl rfl rfl ?_
              refine VS_pure (P_fieldAddr0 fo28_4 rfl) rfl rfl rfl ?_
              refine VS_read (S_loadB sg25 rfl (.here) rfl) rfl rfl rfl ?_
              refine VS_step (S_callR cl55 rfl (fun m' hm he => (F _ hm)) rfl ?_) rfl
              rintro _ rfl
              refine VS_pure (P_not rfl) rfl rfl rfl ?_
              refine VS_pure (P_pick_f rfl rfl) rfl rfl rfl ?_
              refine VS_pure (P_move rfl) rfl rfl rfl ?_
              refine VS_pure (P_fieldAddr0 fo28_5 rfl) rfl rfl rfl ?_
              refine VS_read (S_loadB sg26 rfl (.there (.here)) rfl) rfl rfl rfl ?_
              refine VS_pure (P_len il26 rfl) rfl rfl rfl ?_
              refine VS_pure (P_fieldAddr0 fo28_5 rfl) rfl rfl rfl ?_
              refine VS_read (S_loadB sg26 rfl (.here) rfl) rfl rfl rfl ?_
              refine VS_pure (P_len il26 rfl) rfl rfl rfl ?_
              refine VS_pure (dt (P_neq rfl rfl) (by first | assumption | rfl | omega | decide)) rfl rfl rfl ?_
              refine VS_pure (P_pick_f rfl rfl) rfl rfl rfl ?_
              refine VS_nil ?_
              refine QS_then ?_
              refine TS_true rfl ?_
              refine TS_seq ?_
              refine TS_region ?_
              refine VS_pure (P_assign rfl) rfl rfl rfl ?_
              refine VS_nil ?_
              refine QS_then ?_
              refine TS_ret ?_
              refine QS_then_ret ?_
              exact QS_ret [_] ⟨rfl, trivial⟩ [] (Pick.nil _) ⟨rfl, rfl⟩
          · rw [decide_eq_false (ne (fun h => by rw [h]) g5)]
            rw [decide_eq_false g5] at F
            refine TS_seq ?_
            refine TS_region ?_
            refine VS_step (S_box rfl rfl (fun b1 => ?_)) rfl
            refine VS_step (S_box rfl rfl (fun b2 => ?_)) rfl
            refine VS_pure (P_assign rfl) rfl rfl rfl ?_
            refine VS_nil ?_
            refine QS_then ?_
            refine TS_seq ?_
            refine TS_seq ?_
            refine TS_region ?_
            refine VS_pure (P_fieldAddr0 fo28_0 rfl) rfl rfl rfl ?_
            refine VS_read (S_loadB sg24 rfl (.there (.here)) rfl) rfl rfl rfl ?_
            refine VS_pure (P_fieldAddr0 fo28_0 rfl) rfl rfl rfl ?_
            refine VS_read (S_loadB sg24 rfl (.here) rfl) rfl rfl rfl ?_
            refine VS_pure (df (P_neq rfl rfl) (by first | assumption | omega | decide | exact fun hx => hx (by assumption))) rfl rfl rfl ?_
            refine VS_pure (P_move rfl) rfl rfl rfl ?_
            refine VS_pure (P_fieldAddr0 fo28_1 rfl) rfl rfl rfl ?_
            refine VS_read (S_loadB sg3 rfl (.there (.here)) rfl) rfl rfl rfl ?_
            refine VS_pure (P_fieldAddr0 fo28_1 rfl) rfl rfl rfl ?_
            refine VS_read (S_loadB sg3 rfl (.here) rfl) rfl rfl rfl ?_
            refine VS_pure (df (P_neq rfl rfl) (by first | assumption | omega | decide | exact fun hx => hx (by assumption))) rfl rfl rfl ?_
            refine VS_pure (P_pick_f rfl rfl) rfl rfl rfl ?_
            refine VS_pure (P_move rfl) rfl rfl rfl ?_
            refine VS_pure (P_fieldAddr0 fo28_2 rfl) rfl rfl rfl ?_
            refine VS_read (S_loadB sg3 rfl (.there (.here)) rfl) rfl rfl rfl ?_
            refine VS_pure (P_fieldAddr0 fo28_2 rfl) rfl rfl rfl ?_
            refine VS_read (S_loadB sg3 rfl (.here) rfl) rfl rfl rfl ?_
            refine VS_pure (df (P_neq rfl rfl) (by first | assumption | omega | decide | exact fun hx => hx (by assumption))) rfl rfl rfl ?_
            refine VS_pure (P_pick_f rfl rfl) rfl rfl rfl ?_
            refine VS_pure (P_move rfl) rfl rfl rfl ?_
            refine VS_pure (P_fieldAddr0 fo28_3 rfl) rfl rfl rfl ?_
            refine VS_read (S_loadB sg3 rfl (.there (.here)) rfl) rfl rfl rfl ?_
            refine VS_pure (P_fieldAddr0 fo28_3 rfl) rfl rfl rfl ?_
            refine VS_read (S_loadB sg3 rfl (.here) rfl) rfl rfl rfl ?_
            refine VS_pure (df (P_neq rfl rfl) (by first | assumption | omega | decide | exact fun hx => hx (by assumption))) rfl rfl rfl ?_
            refine VS_pure (P_pick_f rfl rfl) rfl rfl rfl ?_
            refine VS_pure (P_move rfl) rfl rfl rfl ?_
            refine VS_pure (P_fieldAddr0 fo28_4 rfl) rfl rfl rfl ?_
            refine VS_read (S_loadB sg25 rfl (.there (.here)) rfl) rfl rfl rfl ?_
            refine VS_pure (P_fieldAddr0 fo28_4 rfl) rfl rfl rfl ?_
            refine VS_read (S_loadB sg25 rfl (.here) rfl) rfl rfl rfl ?_
            refine VS_step (S_callR cl55 rfl (fun m' hm he => (F _ hm)) rfl ?_) rfl
            rintro _ rfl
            refine VS_pure (P_not rfl) rfl rfl rfl ?_
            refine VS_pure (P_pick_f rfl rfl) rfl rfl rfl ?_
            refine VS_pure (P_move rfl) rfl rfl rfl ?_
            refine VS_skip rfl rfl rfl ?_
            refine VS_skip rfl rfl rfl ?_
            refine VS_skip rfl rfl rfl ?_
            refine VS_skip rfl rfl rfl ?_
            refine VS_skip rfl rfl rfl ?_
            refine VS_skip rfl rfl rfl ?_
            refine VS_skip rfl rfl rfl ?_
            refine VS_pure (P_pick_t rfl rfl) rfl rfl rfl ?_
            refine VS_nil ?_
            refine QS_then ?_
            refine TS_true rfl ?_
            refine TS_seq ?_
            refine TS_region ?_
            refine VS_pure (P_assign rfl) rfl rfl rfl ?_
            refine VS_nil ?_
            refine QS_then ?_
            refine TS_ret ?_
            refine QS_then_ret ?_
            exact QS_ret [_] ⟨rfl, trivial⟩ [] (Pick.nil _) ⟨rfl, rfl⟩
        · rw [decide_eq_false (ne (fun h => by rw [h]) g4)]
          refine TS_seq ?_
          refine TS_region ?_
          refine VS_step (S_box rfl rfl (fun b1 => ?_)) rfl
          refine VS_step (S_box rfl rfl (fun b2 => ?_)) rfl
          refine VS_pure (P_assign rfl) rfl rfl rfl ?_
          refine VS_nil ?_
          refine QS_then ?_
          refine TS_seq ?_
          refine TS_seq ?_
          refine TS_region ?_
          refine VS_pure (P_fieldAddr0 fo28_0 rfl) rfl rfl rfl ?_
          refine VS_read (S_loadB sg24 rfl (.there (.here)) rfl) rfl rfl rfl ?_
          refine VS_pure (P_fieldAddr0 fo28_0 rfl) rfl rfl rfl ?_
          refine VS_read (S_loadB sg24 rfl (.here) rfl) rfl rfl rfl ?_
          refine VS_pure (df (P_neq rfl rfl) (by first | assumption | omega | decide | exact fun hx => hx (by assumption))) rfl rfl rfl ?_
          refine VS_pure (P_move rfl) rfl rfl rfl ?_
          refine VS_pure (P_fieldAddr0 fo28_1 rfl) rfl rfl rfl ?_
          refine VS_read (S_loadB sg3 rfl (.there (.here)) rfl) rfl rfl rfl ?_
          refine VS_pure (P_fieldAddr0 fo28_1 rfl) rfl rfl rfl ?_
          refine VS_read (S_loadB sg3 rfl (.here) rfl) rfl rfl rfl ?_
          refine VS_pure (df (P_neq rfl rfl) (by first | assumption | omega | decide | exact fun hx => hx (by assumption))) rfl rfl rfl ?_
          refine VS_pure (P_pick_f rfl rfl) rfl rfl rfl ?_
          refine VS_pure (P_move rfl) rfl rfl rfl ?_
          refine VS_pure (P_fieldAddr0 fo28_2 rfl) rfl rfl rfl ?_
          refine VS_read (S_loadB sg3 rfl (.there (.here)) rfl) rfl rfl rfl ?_
          refine VS_pure (P_fieldAddr0 fo28_2 rfl) rfl rfl rfl ?_
          refine VS_read (S_loadB sg3 rfl (.here) rfl) rfl rfl rfl ?_
          refine VS_pure (df (P_neq rfl rfl) (by first | assumption | omega | decide | exact fun hx => hx (by assumption))) rfl rfl rfl ?_
          refine VS_pure (P_pick_f rfl rfl) rfl rfl rfl ?_
          refine VS_pure (P_move rfl) rfl rfl rfl ?_
          refine VS_pure (P_fieldAddr0 fo28_3 rfl) rfl rfl rfl ?_
          refine VS_read (S_loadB sg3 rfl (.there (.here)) rfl) rfl rfl rfl ?_
          refine VS_pure (P_fieldAddr0 fo28_3 rfl) rfl rfl rfl ?_
          refine VS_read (S_loadB sg3 rfl (.here) rfl) rfl rfl rfl ?_
          refine VS_pure (dt (P_neq rfl rfl) (by first | assumption | rfl | omega | decide)) rfl rfl rfl ?_
          refine VS_pure (P_pick_f rfl rfl) rfl rfl rfl ?_
          refine VS_pure (P_move rfl) rfl rfl rfl ?_
          refine VS_skip rfl rfl rfl ?_
          refine VS_skip rfl rfl rfl ?_
          refine VS_skip rfl rfl rfl ?_
          refine VS_skip rfl rfl rfl ?_
          refine VS_skip rfl rfl rfl ?_
          refine VS_skip rfl rfl rfl ?_
          refine VS_pure (P_pick_t rfl rfl) rfl rfl rfl ?_
          refine VS_pure (P_move rfl) rfl rfl rfl ?_
          refine VS_skip rfl rfl rfl ?_
          refine VS_skip rfl rfl rfl ?_
          refine VS_skip rfl rfl rfl ?_
          refine VS_skip rfl rfl rfl ?_
          refine VS_skip rfl rfl rfl ?_
          refine VS_skip rfl rfl rfl ?_
          refine VS_skip rfl rfl rfl ?_
          refine VS_pure (P_pick_t rfl rfl) rfl rfl rfl ?_
          refine VS_nil ?_
          refine QS_then ?_
          refine TS_true rfl ?_
          refine TS_seq ?_
          refine TS_region ?_
          refine VS_pure (P_assign rfl) rfl rfl rfl ?_
          refine VS_nil ?_
          refine QS_then ?_
          refine TS_ret ?_
          refine QS_then_ret ?_
          exact QS_ret [_] ⟨rfl, trivial⟩ [] (Pick.nil _) ⟨rfl, rfl⟩
      · rw [decide_eq_false (ne (fun h => by rw [h]) g3)]
        refine TS_seq ?_
        refine TS_region ?_
        refine VS_step (S_box rfl rfl (fun b1 => ?_)) rfl
        refine VS_step (S_box rfl rfl (fun b2 => ?_)) rfl
        refine VS_pure (P_assign rfl) rfl rfl rfl ?_
        refine VS_nil ?_
        refine QS_then ?_
        refine TS_seq ?_
        refine TS_seq ?_
        refine TS_region ?_
        refine VS_pure (P_fieldAddr0 fo28_0 rfl) rfl rfl rfl ?_
        refine VS_read (S_loadB sg24 rfl (.there (.here)) rfl) rfl rfl rfl ?_
        refine VS_pure (P_fieldAddr0 fo28_0 rfl) rfl rfl rfl ?_
        refine VS_read (S_loadB sg24 rfl (.here) rfl) rfl rfl rfl ?_
        refine VS_pure (df (P_neq rfl rfl) (by first | assumption | omega | decide | exact fun hx => hx (by assumption))) rfl rfl rfl ?_
        refine VS_pure (P_move rfl) rfl rfl rfl ?_
        refine VS_pure (P_fieldAddr0 fo28_1 rfl) rfl rfl rfl ?_
        refine VS_read (S_loadB sg3 rfl (.there (.here)) rfl) rfl rfl rfl ?_
        refine VS_pure (P_fieldAddr0 fo28_1 rfl) rfl rfl rfl ?_
        refine VS_read (S_loadB sg3 rfl (.here) rfl) rfl rfl rfl ?_
        refine VS_pure (df (P_neq rfl rfl) (by first | assumption | omega | decide | exact fun hx => hx (by assumption))) rfl rfl rfl ?_
        refine VS_pure (P_pick_f rfl rfl) rfl rfl rfl ?_
        refine VS_pure (P_move rfl) rfl rfl rfl ?_
        refine VS_pure (P_fieldAddr0 fo28_2 rfl) rfl rfl rfl ?_
        refine VS_read (S_loadB sg3 rfl (.there (.here)) rfl) rfl rfl rfl ?_
        refine VS_pure (P_fieldAddr0 fo28_2 rfl) rfl rfl rfl ?_
        refine VS_read (S_loadB sg3 rfl (.here) rfl) rfl rfl rfl ?_
        refine VS_pure (dt (P_neq rfl rfl) (by first | assumption | rfl | omega | decide)) rfl rfl rfl ?_
        refine VS_pure (P_pick_f rfl rfl) rfl rfl rfl ?_
        refine VS_pure (P_move rfl) rfl rfl rfl ?_
        refine VS_skip rfl rfl rfl ?_
        refine VS_skip rfl rfl rfl ?_
        refine VS_skip rfl rfl rfl ?_
        refine VS_skip rfl rfl rfl ?_
        refine VS_skip rfl rfl rfl ?_
        refine VS_pure (P_pick_t rfl rfl) rfl rfl rfl ?_
        refine VS_pure (P_move rfl) rfl rfl rfl ?_
        refine VS_skip rfl rfl rfl ?_
        refine VS_skip rfl rfl rfl ?_
        refine VS_skip rfl rfl rfl ?_
        refine VS_skip rfl rfl rfl ?_
        refine VS_skip rfl rfl rfl ?_
        refine VS_skip rfl rfl rfl ?_
        refine VS_pure (P_pick_t rfl rfl) rfl rfl rfl ?_
        refine VS_pure (P_move rfl) rfl rfl rfl ?_
        refine VS_skip rfl rfl rfl ?_
        refine VS_skip rfl rfl rfl ?_
        refine VS_skip rfl rfl rfl ?_
        refine VS_skip rfl rfl rfl ?_
        refine VS_skip rfl rfl rfl ?_
        refine VS_skip rfl rfl rfl ?_
        refine VS_skip rfl rfl rfl ?_
        refine VS_pure (P_pick_t rfl rfl) rfl rfl rfl ?_
        refine VS_nil ?_
        refine QS_then ?_
        refine TS_true rfl ?_
        refine TS_seq ?_
        refine TS_region ?_
        refine VS_pure (P_assign rfl) rfl rfl rfl ?_
        refine VS_nil ?_
        refine QS_then ?_
        refine TS_ret ?_
        refine QS_then_ret ?_
        exact QS_ret [_] ⟨rfl, trivial⟩ [] (Pick.nil _) ⟨rfl, rfl⟩
    · rw [decide_eq_false (ne (fun h => by rw [h]) g2)]
      refine TS_seq ?_
      refine TS_region ?_
      refine VS_step (S_box rfl rfl (fun b1 => ?_)) rfl
      refine VS_step (S_box rfl rfl (fun b2 => ?_)) rfl
      refine VS_pure (P_assign rfl) rfl rfl rfl ?_
      refine VS_nil ?_
      refine QS_then ?_
      refine TS_seq ?_
      refine TS_seq ?_
      refine TS_region ?_
      refine VS_pure (P_fieldAddr0 fo28_0 rfl) rfl rfl rfl ?_
      refine VS_read (S_loadB sg24 rfl (.there (.here)) rfl) rfl rfl rfl ?_
      refine VS_pure (P_fieldAddr0 fo28_0 rfl) rfl rfl rfl ?_
      refine VS_read (S_loadB sg24 rfl (.here) rfl) rfl rfl rfl ?_
      refine VS_pure (df (P_neq rfl rfl) (by first | assumption | omega | decide | exact fun hx => hx (by assumption))) rfl rfl rfl ?_
      refine VS_pure (P_move rfl) rfl rfl rfl ?_
      refine VS_pure (P_fieldAddr0 fo28_1 rfl) rfl rfl rfl ?_
      refine VS_read (S_loadB sg3 rfl (.there (.here)) rfl) rfl rfl rfl ?_
      refine VS_pure (P_fieldAddr0 fo28_1 rfl) rfl rfl rfl ?_
      refine VS_read (S_loadB sg3 rfl (.here) rfl) rfl rfl rfl ?_
      refine VS_pure (dt (P_neq rfl rfl) (by first | assumption | rfl | omega | decide)) rfl rfl rfl ?_
      refine VS_pure (P_pick_f rfl rfl) rfl rfl rfl ?_
      refine VS_pure (P_move rfl) rfl rfl rfl ?_
      refine VS_skip rfl rfl rfl ?_
      refine VS_skip rfl rfl rfl ?_
      refine VS_skip rfl rfl rfl ?_
      refine VS_skip rfl rfl rfl ?_
      refine VS_skip rfl rfl rfl ?_
      refine VS_pure (P_pick_t rfl rfl) rfl rfl rfl ?_
      refine VS_pure (P_move rfl) rfl rfl rfl ?_
      refine VS_skip rfl rfl rfl ?_
      refine VS_skip rfl rfl rfl ?_
      refine VS_skip rfl rfl rfl ?_
      refine VS_skip rfl rfl rfl ?_
      refine VS_skip rfl rfl rfl ?_
      refine VS_pure (P_pick_t rfl rfl) rfl rfl rfl ?_
      refine VS_pure (P_move rfl) rfl rfl rfl ?_
      refine VS_skip rfl rfl rfl ?_
      refine VS_skip rfl rfl rfl ?_
      refine VS_skip rfl rfl rfl ?_
      refine VS_skip rfl rfl rfl ?_
      refine VS_skip rfl rfl rfl ?_
      refine VS_skip rfl rfl rfl ?_
      refine VS_pure (P_pick_t rfl rfl) rfl rfl rfl ?_
      refine VS_pure (P_move rfl) rfl rfl rfl ?_
      refine VS_skip rfl rfl rfl ?_
      refine VS_skip rfl rfl rfl ?_
      refine VS_skip rfl rfl rfl ?_
      refine VS_skip rfl rfl rfl ?_
      refine VS_skip rfl rfl rfl ?_
      refine VS_skip rfl rfl rfl ?_
      refine VS_skip rfl rfl rfl ?_
      refine VS_pure (P_pick_t rfl rfl) rfl rfl rfl ?_
      refine VS_nil ?_
      refine QS_then ?_
      refine TS_true rfl ?_
      refine TS_seq ?_
      refine TS_region ?_
      refine VS_pure (P_assign rfl) rfl rfl rfl ?_
      refine VS_nil ?_
      refine QS_then ?_
      refine TS_ret ?_
      refine QS_then_ret ?_
      exact QS_ret [_] ⟨rfl, trivial⟩ [] (Pick.nil _) ⟨rfl, rfl⟩
  · rw [decide_eq_false (ne (fun h => by rw [h]) g1)]
    refine TS_seq ?_
    refine TS_region ?_
    refine VS_step (S_box rfl rfl (fun b1 => ?_)) rfl
    refine VS_step (S_box rfl rfl (fun b2 => ?_)) rfl
    refine VS_pure (P_assign rfl) rfl rfl rfl ?_
    refine VS_nil ?_
    refine QS_then ?_
    refine TS_seq ?_
    refine TS_seq ?_
    refine TS_region ?_
    refine VS_pure (P_fieldAddr0 fo28_0 rfl) rfl rfl rfl ?_
    refine VS_read (S_loadB sg24 rfl (.there (.here)) rfl) rfl rfl rfl ?_
    refine VS_pure (P_fieldAddr0 fo28_0 rfl) rfl rfl rfl ?_
    refine VS_read (S_loadB sg24 rfl (.here) rfl) rfl rfl rfl ?_
    refine VS_pure (dt (P_neq rfl rfl) (by first | assumption | rfl | omega | decide)) rfl rfl rfl ?_
    refine VS_pure (P_move rfl) rfl rfl rfl ?_
    refine VS_skip rfl rfl rfl ?_
    refine VS_skip rfl rfl rfl ?_
    refine VS_skip rfl rfl rfl ?_
    refine VS_skip rfl rfl rfl ?_
    refine VS_skip rfl rfl rfl ?_
    refine VS_pure (P_pick_t rfl rfl) rfl rfl rfl ?_
    refine VS_pure (P_move rfl) rfl rfl rfl ?_
    refine VS_skip rfl rfl rfl ?_
    refine VS_skip rfl rfl rfl ?_
    refine VS_skip rfl rfl rfl ?_
    refine VS_skip rfl rfl rfl ?_
    refine VS_skip rfl rfl rfl ?_
    refine VS_pure (P_pick_t rfl rfl) rfl rfl rfl ?_
    refine VS_pure (P_move rfl) rfl rfl rfl ?_
    refine VS_skip rfl rfl rfl ?_
    refine VS_skip rfl rfl rfl ?_
    refine VS_skip rfl rfl rfl ?_
    refine VS_skip rfl rfl rfl ?_
    refine VS_skip rfl rfl rfl ?_
    refine VS_pure (P_pick_t rfl rfl) rfl rfl rfl ?_
    refine VS_pure (P_move rfl) rfl rfl rfl ?_
    refine VS_skip rfl rfl rfl ?_
    refine VS_skip rfl rfl rfl ?_
    refine VS_skip rfl rfl rfl ?_
    refine VS_skip rfl rfl rfl ?_
    refine VS_skip rfl rfl rfl ?_
    refine VS_skip rfl rfl rfl ?_
    refine VS_pure (P_pick_t rfl rfl) rfl rfl rfl ?_
    refine VS_pure (P_move rfl) rfl rfl rfl ?_
    refine VS_skip rfl rfl rfl ?_
    refine VS_skip rfl rfl rfl ?_
    refine VS_skip rfl rfl rfl ?_
    refine VS_skip rfl rfl rfl ?_
    refine VS_skip rfl rfl rfl ?_
    refine VS_skip rfl rfl rfl ?_
    refine VS_skip rfl rfl rfl ?_
    refine VS_pure (P_pick_t rfl rfl) rfl rfl rfl ?_
    refine VS_nil ?_
    refine QS_then ?_
    refine TS_true rfl ?_
    refine TS_seq ?_
    refine TS_region ?_
    refine VS_pure (P_assign rfl) rfl rfl rfl ?_
    refine VS_nil ?_
    refine QS_then ?_
    refine TS_ret ?_
    refine QS_then_ret ?_
    exact QS_ret [_] ⟨rfl, trivial⟩ [] (Pick.nil _) ⟨rfl, rfl⟩
end Go.Proofs.Ytbpihgphicmdiaa
