/- A part of the proof: contracts of functions of the program. No condition. -/
import Derived.Test.YtbpihgphicmdiaaWiV
namespace Go.Proofs.Ytbpihgphicmdiaa
open Go.Eng Wi
set_option maxRecDepth 100000
def base0 (x : Ltr) : Nat := x.bytes.length + x.text.length + 16 * x.cards.length + 8 * x.act.ids.length + 16 * x.act.pairs.length + 43 * x.evs.length
def Fits (x : Ltr) : Prop := base0 x + (x.cards.map List.length).sum + 8 * (x.evs.map fun e => e.cards.length).sum ≤ 20000
theorem sum_take {α : Type} {f : α → Nat} {xs : List α} {j : Nat} (h : j < xs.length) : ((xs.take (j + 1)).map f).sum = ((xs.take j).map f).sum + f xs[j] := by
  rw [List.take_add_one, List.getElem?_eq_getElem h, Option.toList_some, List.map_append, List.sum_append]; simp
set_option maxHeartbeats 4000000 in
theorem Great_ok {m : Mp} {lx : List Value} {x : Ltr} (hx : LtA m lx x) : CS Try.prog 7 [.agg lx.toArray] m [] (fun v L' => L' = [] ∧ ∃ g, v = .bool g ∧ (g = false → Fits x)) := by
  obtain ⟨vb, vc, vi, vp, ve, rfl, xb, xc, xi, xp, xe, xr⟩ := hx
  obtain ⟨ab, db, rfl, _, lb, _⟩ := xb
  have xc2 := xc.sl
  obtain ⟨ac, dc, rfl, hAc, lc, hcw⟩ := xc
  obtain ⟨ai, di, rfl, _, li, _⟩ := xi
  obtain ⟨ap, dp, rfl, _, lp, _⟩ := xp
  have hev := xe.sl
  obtain ⟨ae, de, rfl, hAe, le, hew⟩ := xe
  obtain ⟨ru, rt, rtx, rcs, _⟩ := xr
  have hcr : Rd m ac (x.cards.map sV) := by obtain ⟨a, c, e, r, _⟩ := xc2; cases e; exact r
  refine CS_of [.tmp 2] Try.func7 rfl rfl rfl ?_
  have hb0 : base0 x ≤ 86 * 140737488355328 := by unfold base0; omega
  refine TS_seq ?_
  refine TS_region ?_
  refine VS_step (S_box rfl rfl (fun b1 => ?_)) rfl
  refine VS_pure (P_assign rfl) rfl rfl rfl ?_
  refine VS_nil ?_
  refine QS_then ?_
  refine TS_seq ?_
  refine TS_region ?_
  refine VS_pure (P_fieldAddr0 fo32_3 rfl) rfl rfl rfl ?_
  refine VS_read (S_loadB sg22 rfl (.here) rfl) rfl rfl rfl ?_
  refine VS_pure (P_len il22 rfl) rfl rfl rfl ?_
  refine VS_pure (P_fieldAddr0 fo32_2 rfl) rfl rfl rfl ?_
  refine VS_read (S_loadB sg9 rfl (.here) rfl) rfl rfl rfl ?_
  refine VS_pure (P_len_str rfl st9) rfl rfl rfl ?_
  refine VS_pure (P_addN rfl rfl (by omega)) rfl rfl rfl ?_
  refine VS_pure (P_fieldAddr0 fo32_4 rfl) rfl rfl rfl ?_
  refine VS_read (S_loadB sg23 rfl (.here) rfl) rfl rfl rfl ?_
  refine VS_pure (P_len il23 rfl) rfl rfl rfl ?_
  refine VS_pure (P_mul rfl rfl (w64 (by omega) (by omega))) rfl rfl rfl ?_
  refine VS_pure (P_add rfl rfl (w64 (by omega) (by omega))) rfl rfl rfl ?_
  refine VS_pure (P_fieldAddr0 fo32_5 rfl) rfl rfl rfl ?_
  refine VS_pure (P_fieldAddr0 fo28_4 rfl) rfl rfl rfl ?_
  refine VS_read (S_loadB sg25 rfl (.here) rfl) rfl rfl rfl ?_
  refine VS_pure (P_len il25 rfl) rfl rfl rfl ?_
  refine VS_pure (P_mul rfl rfl (w64 (by omega) (by omega))) rfl rfl rfl ?_
  refine VS_pure (P_add rfl rfl (w64 (by omega) (by omega))) rfl rfl rfl ?_
  refine VS_pure (P_fieldAddr0 fo32_5 rfl) rfl rfl rfl ?_
  refine VS_pure (P_fieldAddr0 fo28_5 rfl) rfl rfl rfl ?_
  refine VS_read (S_loadB sg26 rfl (.here) rfl) rfl rfl rfl ?_
  refine VS_pure (P_len il26 rfl) rfl rfl rfl ?_
  refine VS_pure (P_mul rfl rfl (w64 (by omega) (by omega))) rfl rfl rfl ?_
  refine VS_pure (P_add rfl rfl (w64 (by omega) (by omega))) rfl rfl rfl ?_
  refine VS_pure (P_fieldAddr0 fo32_8 rfl) rfl rfl rfl ?_
  refine VS_read (S_loadB sg30 rfl (.here) rfl) rfl rfl rfl ?_
  refine VS_pure (P_len il30 rfl) rfl rfl rfl ?_
  refine VS_pure (P_mul rfl rfl (w64 (by omega) (by omega))) rfl rfl rfl ?_
  refine VS_pure (P_add rfl rfl (w64 (by omega) (by omega))) rfl rfl rfl ?_
  refine VS_pure (P_assign rfl) rfl rfl rfl ?_
  refine VS_nil ?_
  refine QS_then ?_
  refine TS_seq ?_
  refine TS_seq ?_
  refine TS_cut3 (α := Nat) (fun N => [(1, .pointer (some ⟨b1, 0, none⟩)), (3, .int .i64 (N : Nat))]) (fun _ => [cel b1 [.int .u8 x.kind, iV x.table, sV x.text, .slice ab x.bytes.length db, .slice ac x.cards.length dc, .int .i8 x.act.op, iV x.act.side, iV x.act.place, iV x.act.target, .slice ai x.act.ids.length di, .slice ap x.act.pairs.length dp, .int .u8 x.to_, iV x.e, .slice ae x.evs.length de] 32]) (fun N => N ≤ 87 * 140737488355328 ∧ (N ≤ 20000 → N = base0 x + (x.cards.map List.length).sum)) ?_ ?_
  · refine TS_region ?_
    refine VS_pure (P_assign rfl) rfl rfl rfl ?_
    refine VS_nil ?_
    refine QS_then ?_
    refine TS_block ?_
    refine TS_loop (fun i : Nat => [(1, .pointer (some ⟨b1, 0, none⟩)), (3, .int .i64 ((base0 x + ((x.cards.take i).map List.length).sum : Nat))), (4, .int .i64 (i : Nat))]) (fun _ => [cel b1 [.int .u8 x.kind, iV x.table, sV x.text, .slice ab x.bytes.length db, .slice ac x.cards.length dc, .int .i8 x.act.op, iV x.act.side, iV x.act.place, iV x.act.target, .slice ai x.act.ids.length di, .slice ap x.act.pairs.length dp, .int .u8 x.to_, iV x.e, .slice ae x.evs.length de] 32]) (fun i => i ≤ x.cards.length ∧ base0 x + ((x.cards.take i).map List.length).sum ≤ 87 * 140737488355328) (fun i => x.cards.length - i) 0 ⟨rfl, ?_, rfl, trivial⟩ (Pick.refl _) ⟨Nat.zero_le _, by simp; omega⟩ ?_
    · have e : ((base0 x + ((x.cards.take 0).map List.length).sum : Nat) : Int) = (((x.bytes.length + x.text.length : Nat) : Int) + 16 * (x.cards.length : Nat) + 8 * (x.act.ids.length : Nat) + 16 * (x.act.pairs.length : Nat) + 43 * (x.evs.length : Nat)) := by
        simp only [List.take_zero, List.map_nil, List.sum_nil, base0]
        push_cast
        omega
      rw [e]
      rfl
    rintro i ⟨hi, hN⟩
    generalize hNe : base0 x + ((x.cards.take i).map List.length).sum = N at hN
    by_cases hlt : i < x.cards.length
    · have hxc : mc m ((sa ac).add i) = some (sV x.cards[i]) := hcr.map hlt
      have hA := hAc (by omega)
      have hci := rcs _ (List.getElem_mem hlt)
      by_cases hsm : N ≤ 20000
      · refine TS_seq ?_
        refine TS_seq ?_
        refine TS_region ?_
        refine VS_pure (P_move rfl) rfl rfl rfl ?_
        refine VS_pure (P_fieldAddr0 fo32_4 rfl) rfl rfl rfl ?_
        refine VS_read (S_loadB sg23 rfl (.here) rfl) rfl rfl rfl ?_
        refine VS_pure (P_len il23 rfl) rfl rfl rfl ?_
        refine VS_pure (dt (P_lss rfl rfl) (by omega)) rfl rfl rfl ?_
        refine VS_pure (P_move rfl) rfl rfl rfl ?_
        refine VS_pure (P_move rfl) rfl rfl rfl ?_
        refine VS_pure (dt (P_leq rfl rfl) (by omega)) rfl rfl rfl ?_
        refine VS_pure (P_pick_t rfl rfl) rfl rfl rfl ?_
        refine VS_nil ?_
        refine QS_then ?_
        refine TS_true rfl ?_
        refine TS_skip ?_
        refine QS_then ?_
        refine TS_seq ?_
        refine TS_block ?_
        refine TS_region ?_
        refine VS_pure (P_move rfl) rfl rfl rfl ?_
        refine VS_pure (P_fieldAddr0 fo32_4 rfl) rfl rfl rfl ?_
        refine VS_read (S_loadB sg23 rfl (.here) rfl) rfl rfl rfl ?_
        refine VS_pure (P_move rfl) rfl rfl rfl ?_
        refine VS_pure (P_indexAddr1N ez23 rfl rfl hA (by omega)) rfl rfl rfl ?_
        refine VS_read (S_load sg9 rfl hxc) rfl rfl rfl ?_
        refine VS_pure (P_len_str rfl st9) rfl rfl rfl ?_
        refine VS_pure (P_addN rfl rfl (by omega)) rfl rfl rfl ?_
        refine VS_pure (P_assign rfl) rfl rfl rfl ?_
        refine VS_nil ?_
        refine QS_block ?_
        refine QS_then ?_
        refine TS_region ?_
        refine VS_pure (P_move rfl) rfl rfl rfl ?_
        refine VS_pure (P_add rfl rfl (w64 (by omega) (by omega))) rfl rfl rfl ?_
        refine VS_pure (P_assign rfl) rfl rfl rfl ?_
        refine VS_nil ?_
        refine QS_round (i + 1) ⟨rfl, ?_, rfl, trivial⟩ (Pick.refl _) ⟨hlt, by rw [sum_take hlt]; omega⟩ (by omega)
        rw [sum_take hlt, ← Nat.add_assoc, hNe]
        rfl
      · refine TS_seq ?_
        refine TS_seq ?_
        refine TS_region ?_
        refine VS_pure (P_move rfl) rfl rfl rfl ?_
        refine VS_pure (P_fieldAddr0 fo32_4 rfl) rfl rfl rfl ?_
        refine VS_read (S_loadB sg23 rfl (.here) rfl) rfl rfl rfl ?_
        refine VS_pure (P_len il23 rfl) rfl rfl rfl ?_
        refine VS_pure (dt (P_lss rfl rfl) (by omega)) rfl rfl rfl ?_
        refine VS_pure (P_move rfl) rfl rfl rfl ?_
        refine VS_pure (P_move rfl) rfl rfl rfl ?_
        refine VS_pure (df (P_leq rfl rfl) (by omega)) rfl rfl rfl ?_
        refine VS_pure (P_pick_t rfl rfl) rfl rfl rfl ?_
        refine VS_nil ?_
        refine QS_then ?_
        refine TS_false rfl ?_
        refine TS_exit ?_
        refine QS_then_exit ?_
        refine QS_round_exit ?_
        refine QS_block_here ?_
        exact QS_round N ⟨rfl, rfl, trivial⟩ (Pick.refl _) ⟨hN, fun h => absurd h hsm⟩ (by decide)
    · have e : i = x.cards.length := by omega
      subst e
      rw [List.take_length] at hNe
      refine TS_seq ?_
      refine TS_seq ?_
      refine TS_region ?_
      refine VS_pure (P_move rfl) rfl rfl rfl ?_
      refine VS_pure (P_fieldAddr0 fo32_4 rfl) rfl rfl rfl ?_
      refine VS_read (S_loadB sg23 rfl (.here) rfl) rfl rfl rfl ?_
      refine VS_pure (P_len il23 rfl) rfl rfl rfl ?_
      refine VS_pure (df (P_lss rfl rfl) (by omega)) rfl rfl rfl ?_
      refine VS_pure (P_move rfl) rfl rfl rfl ?_
      refine VS_skip rfl rfl rfl ?_
      refine VS_skip rfl rfl rfl ?_
      refine VS_pure (P_pick_f rfl rfl) rfl rfl rfl ?_
      refine VS_nil ?_
      refine QS_then ?_
      refine TS_false rfl ?_
      refine TS_exit ?_
      refine QS_then_exit ?_
      refine QS_round_exit ?_
      refine QS_block_here ?_
      exact QS_round N ⟨rfl, rfl, trivial⟩ (Pick.refl _) ⟨hN, fun _ => hNe.symm⟩ (by decide)
  rintro N ⟨hN, hN2⟩
  refine TS_seq ?_
  refine TS_seq ?_
  refine TS_region ?_
  refine VS_pure (P_assign rfl) rfl rfl rfl ?_
  refine VS_nil ?_
  refine QS_then ?_
  refine TS_block ?_
  refine TS_loop (fun i : Nat => [(1, .pointer (some ⟨b1, 0, none⟩)), (3, .int .i64 ((N + 8 * ((x.evs.take i).map fun e => e.cards.length).sum : Nat))), (5, .int .i64 (i : Nat))]) (fun _ => [cel b1 [.int .u8 x.kind, iV x.table, sV x.text, .slice ab x.bytes.length db, .slice ac x.cards.length dc, .int .i8 x.act.op, iV x.act.side, iV x.act.place, iV x.act.target, .slice ai x.act.ids.length di, .slice ap x.act.pairs.length dp, .int .u8 x.to_, iV x.e, .slice ae x.evs.length de] 32]) (fun i => i ≤ x.evs.length ∧ N + 8 * ((x.evs.take i).map fun e => e.cards.length).sum ≤ 96 * 140737488355328) (fun i => x.evs.length - i) 0 ⟨rfl, rfl, rfl, trivial⟩ (Pick.refl _) ⟨Nat.zero_le _, by simp; omega⟩ ?_
  rintro i ⟨hi, hM⟩
  generalize hMe : N + 8 * ((x.evs.take i).map fun e => e.cards.length).sum = M at hM
  by_cases hlt : i < x.evs.length
  · obtain ⟨vc, w0, w1, w2, w3, w4, w5, w6, ⟨az, cz, rfl, _, lz, _⟩, _⟩ := hew i hlt
    have hA := hAe (by omega)
    have hw6 := w6.1
    by_cases hsm : M ≤ 20000
    · refine TS_seq ?_
      refine TS_seq ?_
      refine TS_region ?_
      refine VS_pure (P_move rfl) rfl rfl rfl ?_
      refine VS_pure (P_fieldAddr0 fo32_8 rfl) rfl rfl rfl ?_
      refine VS_read (S_loadB sg30 rfl (.here) rfl) rfl rfl rfl ?_
      refine VS_pure (P_len il30 rfl) rfl rfl rfl ?_
      refine VS_pure (dt (P_lss rfl rfl) (by omega)) rfl rfl rfl ?_
      refine VS_pure (P_move rfl) rfl rfl rfl ?_
      refine VS_pure (P_move rfl) rfl rfl rfl ?_
      refine VS_pure (dt (P_leq rfl rfl) (by omega)) rfl rfl rfl ?_
      refine VS_pure (P_pick_t rfl rfl) rfl rfl rfl ?_
      refine VS_nil ?_
      refine QS_then ?_
      refine TS_true rfl ?_
      refine TS_skip ?_
      refine QS_then ?_
      refine TS_seq ?_
      refine TS_block ?_
      refine TS_region ?_
      refine VS_pure (P_move rfl) rfl rfl rfl ?_
      refine VS_pure (P_fieldAddr0 fo32_8 rfl) rfl rfl rfl ?_
      refine VS_read (S_loadB sg30 rfl (.here) rfl) rfl rfl rfl ?_
      refine VS_pure (P_move rfl) rfl rfl rfl ?_
      refine VS_pure (P_indexAddrN ez30 rfl rfl hA (by omega)) rfl rfl rfl ?_
      refine VS_pure (P_fieldAddr fo55_6 rfl) rfl rfl rfl ?_
      refine VS_read (S_loadW sg25 rfl w6) rfl rfl rfl ?_
      refine VS_pure (P_len il25 rfl) rfl rfl rfl ?_
      refine VS_pure (P_mul rfl rfl (w64 (by omega) (by omega))) rfl rfl rfl ?_
      refine VS_pure (P_add rfl rfl (w64 (by omega) (by omega))) rfl rfl rfl ?_
      refine VS_pure (P_assign rfl) rfl rfl rfl ?_
      refine VS_nil ?_
      refine QS_block ?_
      refine QS_then ?_
      refine TS_region ?_
      refine VS_pure (P_move rfl) rfl rfl rfl ?_
      refine VS_pure (P_add rfl rfl (w64 (by omega) (by omega))) rfl rfl rfl ?_
      refine VS_pure (P_assign rfl) rfl rfl rfl ?_
      refine VS_nil ?_
      refine QS_round (i + 1) ⟨rfl, ?_, rfl, trivial⟩ (Pick.refl _) ⟨hlt, by rw [sum_take hlt]; omega⟩ (by omega)
      rw [sum_take hlt, Nat.mul_add, ← Nat.add_assoc, hMe]
      rfl
    · refine TS_seq ?_
      refine TS_seq ?_
      refine TS_region ?_
      refine VS_pure (P_move rfl) rfl rfl rfl ?_
      refine VS_pure (P_fieldAddr0 fo32_8 rfl) rfl rfl rfl ?_
      refine VS_read (S_loadB sg30 rfl (.here) rfl) rfl rfl rfl ?_
      refine VS_pure (P_len il30 rfl) rfl rfl rfl ?_
      refine VS_pure (dt (P_lss rfl rfl) (by omega)) rfl rfl rfl ?_
      refine VS_pure (P_move rfl) rfl rfl rfl ?_
      refine VS_pure (P_move rfl) rfl rfl rfl ?_
      refine VS_pure (df (P_leq rfl rfl) (by omega)) rfl rfl rfl ?_
      refine VS_pure (P_pick_t rfl rfl) rfl rfl rfl ?_
      refine VS_nil ?_
      refine QS_then ?_
      refine TS_false rfl ?_
      refine TS_exit ?_
      refine QS_then_exit ?_
      refine QS_round_exit ?_
      refine QS_block_here ?_
      refine QS_then ?_
      refine TS_seq ?_
      refine TS_region ?_
      refine VS_pure (P_move rfl) rfl rfl rfl ?_
      refine VS_pure (dt (P_gtr rfl rfl) (by omega)) rfl rfl rfl ?_
      refine VS_pure (P_assign rfl) rfl rfl rfl ?_
      refine VS_nil ?_
      refine QS_then ?_
      refine TS_ret ?_
      exact QS_ret [_] ⟨rfl, trivial⟩ [] (Pick.nil _) ⟨rfl, true, rfl, fun h => by cases h⟩
  · have e : i = x.evs.length := by omega
    subst e
    rw [List.take_length] at hMe
    by_cases hsm : M ≤ 20000
    · refine TS_seq ?_
      refine TS_seq ?_
      refine TS_region ?_
      refine VS_pure (P_move rfl) rfl rfl rfl ?_
      refine VS_pure (P_fieldAddr0 fo32_8 rfl) rfl rfl rfl ?_
      refine VS_read (S_loadB sg30 rfl (.here) rfl) rfl rfl rfl ?_
      refine VS_pure (P_len il30 rfl) rfl rfl rfl ?_
      refine VS_pure (df (P_lss rfl rfl) (by omega)) rfl rfl rfl ?_
      refine VS_pure (P_move rfl) rfl rfl rfl ?_
      refine VS_skip rfl rfl rfl ?_
      refine VS_skip rfl rfl rfl ?_
      refine VS_pure (P_pick_f rfl rfl) rfl rfl rfl ?_
      refine VS_nil ?_
      refine QS_then ?_
      refine TS_false rfl ?_
      refine TS_exit ?_
      refine QS_then_exit ?_
      refine QS_round_exit ?_
      refine QS_block_here ?_
      refine QS_then ?_
      refine TS_seq ?_
      refine TS_region ?_
      refine VS_pure (P_move rfl) rfl rfl rfl ?_
      refine VS_pure (df (P_gtr rfl rfl) (by omega)) rfl rfl rfl ?_
      refine VS_pure (P_assign rfl) rfl rfl rfl ?_
      refine VS_nil ?_
      refine QS_then ?_
      refine TS_ret ?_
      exact QS_ret [_] ⟨rfl, trivial⟩ [] (Pick.nil _) ⟨rfl, false, rfl, fun _ => by unfold Fits; have := hN2 (by omega); omega⟩
    · refine TS_seq ?_
      refine TS_seq ?_
      refine TS_region ?_
      refine VS_pure (P_move rfl) rfl rfl rfl ?_
      refine VS_pure (P_fieldAddr0 fo32_8 rfl) rfl rfl rfl ?_
      refine VS_read (S_loadB sg30 rfl (.here) rfl) rfl rfl rfl ?_
      refine VS_pure (P_len il30 rfl) rfl rfl rfl ?_
      refine VS_pure (df (P_lss rfl rfl) (by omega)) rfl rfl rfl ?_
      refine VS_pure (P_move rfl) rfl rfl rfl ?_
      refine VS_skip rfl rfl rfl ?_
      refine VS_skip rfl rfl rfl ?_
      refine VS_pure (P_pick_f rfl rfl) rfl rfl rfl ?_
      refine VS_nil ?_
      refine QS_then ?_
      refine TS_false rfl ?_
      refine TS_exit ?_
      refine QS_then_exit ?_
      refine QS_round_exit ?_
      refine QS_block_here ?_
      refine QS_then ?_
      refine TS_seq ?_
      refine TS_region ?_
      refine VS_pure (P_move rfl) rfl rfl rfl ?_
      refine VS_pure (dt (P_gtr rfl rfl) (by omega)) rfl rfl rfl ?_
      refine VS_pure (P_assign rfl) rfl rfl rfl ?_
      refine VS_nil ?_
      refine QS_then ?_
      refine TS_ret ?_
      exact QS_ret [_] ⟨rfl, trivial⟩ [] (Pick.nil _) ⟨rfl, true, rfl, fun h => by cases h⟩
theorem Fits.lens {x : Ltr} (h : Fits x) : x.bytes.length ≤ 20000 ∧ x.text.length ≤ 20000 ∧ x.cards.length ≤ 1250 ∧ x.evs.length ≤ 465 := by unfold Fits base0 at h; omega
/-- Client: is a message a client's? -/
theorem Client_ok {m : Mp} {v : Value} {x : Ltr} (hx : MsgR m v x) : CS Try.prog 15 [v] m [] (Gives (.bool (decide (x.kind ≤ 8)))) := by
  obtain ⟨lx, hlx, _, _, _, hf⟩ := Flat_ok hx
  have hlx2 := hlx
  obtain ⟨vb, vc, vi, vp, ve, rfl, xb, xc, xi, xp, xe, xr⟩ := hlx2
  obtain ⟨ab, db, rfl, _⟩ := xb
  obtain ⟨ac, dc, rfl, _⟩ := xc
  obtain ⟨ai, di, rfl, _⟩ := xi
  obtain ⟨ap, dp, rfl, _⟩ := xp
  obtain ⟨ae, de, rfl, _⟩ := xe
  refine CS_of [.tmp 2] Try.func15 rfl rfl rfl ?_
  refine TS_seq ?_
  refine TS_region ?_
  refine VS_pure (P_assign rfl) rfl rfl rfl ?_
  refine VS_nil ?_
  refine QS_then ?_
  refine TS_seq ?_
  refine TS_region ?_
  refine VS_pure (P_move rfl) rfl rfl rfl ?_
  refine VS_step (S_callR cl11 rfl (fun m' hm he => (hf m')) rfl ?_) rfl
  rintro _ rfl
  by_cases h : x.kind ≤ 8
  · rw [decide_eq_true h]
    refine VS_pure (P_move rfl) rfl rfl rfl ?_
    refine VS_pure (P_extract rfl rfl) rfl rfl rfl ?_
    refine VS_pure (P_extract rfl rfl) rfl rfl rfl ?_
    refine VS_step (S_alloc zl32 rfl (fun b1 => ?_)) rfl
    refine VS_step (S_storeAgg ag32 rfl rfl rfl (.here) rfl rfl ?_) rfl
    refine VS_pure (P_assign rfl) rfl rfl rfl ?_
    refine VS_nil ?_
    refine QS_then ?_
    refine TS_seq ?_
    refine TS_region ?_
    refine VS_pure (P_move rfl) rfl rfl rfl ?_
    refine VS_pure (dt (P_eql rfl rfl) rfl) rfl rfl rfl ?_
    refine VS_pure (P_move rfl) rfl rfl rfl ?_
    refine VS_pure (P_fieldAddr0 fo32_0 rfl) rfl rfl rfl ?_
    refine VS_read (S_loadB sg5 rfl (.here) rfl) rfl rfl rfl ?_
    refine VS_pure (dt (P_leq rfl rfl) (by assumption)) rfl rfl rfl ?_
    refine VS_pure (P_pick_t rfl rfl) rfl rfl rfl ?_
    refine VS_pure (P_assign rfl) rfl rfl rfl ?_
    refine VS_nil ?_
    refine QS_then ?_
    refine TS_ret ?_
    exact QS_ret [_] ⟨rfl, trivial⟩ [] (Pick.nil _) ⟨rfl, rfl⟩
  · rw [decide_eq_false h]
    refine VS_pure (P_move rfl) rfl rfl rfl ?_
    refine VS_pure (P_extract rfl rfl) rfl rfl rfl ?_
    refine VS_pure (P_extract rfl rfl) rfl rfl rfl ?_
    refine VS_step (S_alloc zl32 rfl (fun b1 => ?_)) rfl
    refine VS_step (S_storeAgg ag32 rfl rfl rfl (.here) rfl rfl ?_) rfl
    refine VS_pure (P_assign rfl) rfl rfl rfl ?_
    refine VS_nil ?_
    refine QS_then ?_
    refine TS_seq ?_
    refine TS_region ?_
    refine VS_pure (P_move rfl) rfl rfl rfl ?_
    refine VS_pure (dt (P_eql rfl rfl) rfl) rfl rfl rfl ?_
    refine VS_pure (P_move rfl) rfl rfl rfl ?_
    refine VS_pure (P_fieldAddr0 fo32_0 rfl) rfl rfl rfl ?_
    refine VS_read (S_loadB sg5 rfl (.here) rfl) rfl rfl rfl ?_
    refine VS_pure (df (P_leq rfl rfl) (by assumption)) rfl rfl rfl ?_
    refine VS_pure (P_pick_t rfl rfl) rfl rfl rfl ?_
    refine VS_pure (P_assign rfl) rfl rfl rfl ?_
    refine VS_nil ?_
    refine QS_then ?_
    refine TS_ret ?_
    exact QS_ret [_] ⟨rfl, trivial⟩ [] (Pick.nil _) ⟨rfl, rfl⟩
end Go.Proofs.Ytbpihgphicmdiaa
