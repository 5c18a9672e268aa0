/- A part of the proof: contracts of functions of the program. No condition. -/
import Derived.Test.YtccleakfgmcjpaaDoorDkL
namespace Go.Proofs.YtccleakfgmcjpaaDoor
open Go.Eng Dk
set_option maxRecDepth 100000
theorem bk_lens {m : Mp} {bv : List Value} {b : BkT} (hb : BkR m bv b) : b.fmts.length ≤ 140737488355328 ∧ b.cards.length ≤ 9223372036854775807 := by
  obtain ⟨_, _, _, _, _, ⟨_, h1, _⟩, h2, _⟩ := hb
  exact ⟨h2, h1⟩
theorem nam_plc {b : BkT} {s : List UInt8} (h : found b s = true) : inBk b (plc b s) = true ∧ nam b (plc b s) = s := by
  unfold found at h
  cases hi : ix s (names b) with
  | none => rw [hi] at h; cases h
  | some i =>
    obtain ⟨h1, h2, _⟩ := ix_lt hi
    have h3 : i < b.cards.length := by simpa [names] using h1
    unfold inBk nam plc
    rw [hi]
    show (decide ((0 : Int) ≤ (i : Int)) && decide ((i : Int) < _)) = true ∧ _
    rw [decide_eq_true (by omega), decide_eq_true (by omega)]
    refine ⟨rfl, ?_⟩
    show (names b).getD ((i : Int).toNat) [] = s
    rw [Int.toNat_natCast, List.getD_eq_getElem?_getD, List.getElem?_eq_getElem h1]
    exact h2
theorem names_places {b : BkT} {l : List (List UInt8)} (h : l.all (found b) = true) : namesP b (l.map (plc b)) = (l, 0) := by
  rw [List.all_eq_true] at h
  unfold namesP
  rw [if_pos]
  · rw [List.map_map]
    congr 1
    conv => rhs; rw [← List.map_id l]
    apply List.map_congr_left
    intro s hs
    exact (nam_plc (h s hs)).2
  · rw [List.all_eq_true]
    intro n hn
    obtain ⟨s, hs, rfl⟩ := List.mem_map.1 hn
    exact (nam_plc (h s hs)).1
set_option maxHeartbeats 16000000 in
theorem DeckNames_ok {m : Mp} (hT : Tabs m) {bv : List Value} {b : BkT} (hb : BkR m bv b) {A : Option Addr} {c : Nat} {l : List (List UInt8)} (hl : StrsR m A l) :
    CS Tryd.prog 6 [.agg bv.toArray, .slice A l.length c] m [] (Gives (.bool true)) := by
  have hb0 := hb
  obtain ⟨hk1, hk2⟩ := bk_lens hb
  have hln := hl.2
  obtain ⟨A0, c0, F0, k0, rfl, _⟩ := hb
  refine CS_of [.tmp 4] Tryd.func6 rfl rfl rfl ?_
  refine TS_seq ?_
  refine TS_region ?_
  refine VS_step (S_box rfl rfl (fun b1 => ?_)) rfl
  refine VS_pure (P_assign rfl) rfl rfl rfl ?_
  refine VS_nil ?_
  refine QS_then ?_
  refine TS_seq ?_
  refine TS_seq ?_
  refine TS_region ?_
  refine VS_read (S_loadBA ag25 rfl (.here) rfl) rfl rfl rfl ?_
  refine VS_pure (P_move rfl) rfl rfl rfl ?_
  refine VS_step ((S_call cl7 rfl (fun m' hm he => great_ok (hb0.mono hm) (by omega) hk1 hk2) rfl ?_)) rfl
  rintro _ _ ⟨rfl, g, rfl, hg⟩
  cases g with
  | true =>
    refine VS_nil ?_
    refine QS_then ?_
    refine TS_true rfl ?_
    refine TS_seq ?_
    refine TS_region ?_
    refine VS_step (S_callR cl8 rfl (fun m' hm he => (wakes_ok (hT.mono hm))) rfl ?_) rfl
    rintro _ rfl
    refine VS_pure (P_assign rfl) rfl rfl rfl ?_
    refine VS_nil ?_
    refine QS_then ?_
    refine TS_ret ?_
    refine QS_then_ret ?_
    exact QS_ret [_] ⟨rfl, trivial⟩ [] (Pick.nil _) ⟨rfl, rfl⟩
  | false =>
    have hl3 : l.length ≤ 300 := hg rfl
    have P14 := fun m' (hm : Le m m') => Places14 (c := c) (hb0.mono hm) (hl.mono hm) hl3
    by_cases hall : l.all (found b) = true
    · have hp : placesP b l = (l.map (plc b), 0) := by unfold placesP; rw [if_pos hall]
      rw [hp] at P14
      have N16 := fun m' (hm : Le m m') B1 d1 (h1 : (own 3 1 B1 (l.map (plc b)).length d1 ((l.map (plc b)).map iV)).inv m') => Names16 (c := d1) (hb0.mono hm) (Eng.Own.rd h1) (by rw [List.length_map]; exact hl3)
      rw [names_places hall] at N16
      refine VS_nil ?_
      refine QS_then ?_
      refine TS_false rfl ?_
      refine TS_skip ?_
      refine QS_then ?_
      refine TS_seq ?_
      refine TS_region ?_
      refine VS_read (S_loadBA ag25 rfl (.here) rfl) rfl rfl rfl ?_
      refine VS_pure (P_move rfl) rfl rfl rfl ?_
      refine VS_step ((S_call cl14 rfl (fun m' hm he => P14 m' hm) rfl ?_)) rfl
      rintro _ _ ⟨B1, d1, rfl, rfl⟩
      refine VS_pure (P_move rfl) rfl rfl rfl ?_
      refine VS_pure (P_extract rfl rfl) rfl rfl rfl ?_
      refine VS_pure (P_extract rfl rfl) rfl rfl rfl ?_
      refine VS_pure (P_assign rfl) rfl rfl rfl ?_
      refine VS_pure (P_assign rfl) rfl rfl rfl ?_
      refine VS_nil ?_
      refine QS_then ?_
      refine TS_seq ?_
      refine TS_seq ?_
      refine TS_region ?_
      refine VS_pure (P_move rfl) rfl rfl rfl ?_
      refine VS_pure (df (P_neq rfl rfl) (by omega)) rfl rfl rfl ?_
      refine VS_nil ?_
      refine QS_then ?_
      refine TS_false rfl ?_
      refine TS_skip ?_
      refine QS_then ?_
      refine TS_seq ?_
      refine TS_region ?_
      refine VS_read (S_loadBA ag25 rfl (.there (.here)) rfl) rfl rfl rfl ?_
      refine VS_pure (P_move rfl) rfl rfl rfl ?_
      refine VS_step ((S_call cl16 rfl (fun m' hm he => N16 m' hm B1 d1 (he _ List.mem_cons_self)) rfl ?_)) rfl
      rintro _ _ ⟨B3, d3, rfl, rfl⟩
      have S2 := fun m' (hm : Le m m') (h1 : (own 9 1 B3 l.length d3 (l.map sV)).inv m') => same19 (c := d3) (c2 := c) (Eng.Own.rd h1) (hl.mono hm).1 (by omega) (by omega)
      rw [decide_eq_true (rfl : l = l)] at S2
      refine VS_pure (P_move rfl) rfl rfl rfl ?_
      refine VS_pure (P_extract rfl rfl) rfl rfl rfl ?_
      refine VS_pure (P_extract rfl rfl) rfl rfl rfl ?_
      refine VS_pure (P_assign rfl) rfl rfl rfl ?_
      refine VS_pure (P_assign rfl) rfl rfl rfl ?_
      refine VS_nil ?_
      refine QS_then ?_
      refine TS_seq ?_
      refine TS_region ?_
      refine VS_pure (P_move rfl) rfl rfl rfl ?_
      refine VS_pure (dt (P_eql rfl rfl) rfl) rfl rfl rfl ?_
      iterate 3 (refine VS_pure (P_move rfl) rfl rfl rfl ?_)
      refine VS_step (S_callR cl19 rfl (fun m' hm he => (S2 m' hm (he _ List.mem_cons_self))) rfl ?_) rfl
      rintro _ rfl
      refine VS_pure (P_pick_t rfl rfl) rfl rfl rfl ?_
      refine VS_pure (P_move rfl) rfl rfl rfl ?_
      refine VS_step (S_callR cl8 rfl (fun m' hm he => (wakes_ok (hT.mono hm))) rfl ?_) rfl
      rintro _ rfl
      refine VS_pure (P_pick_t rfl rfl) rfl rfl rfl ?_
      refine VS_pure (P_assign rfl) rfl rfl rfl ?_
      refine VS_nil ?_
      refine QS_then ?_
      refine TS_ret ?_
      exact QS_ret [_] ⟨rfl, trivial⟩ [] (Pick.nil _) ⟨rfl, rfl⟩
    · have hp : placesP b l = ([], 150) := by unfold placesP; rw [if_neg hall]
      rw [hp] at P14
      refine VS_nil ?_
      refine QS_then ?_
      refine TS_false rfl ?_
      refine TS_skip ?_
      refine QS_then ?_
      refine TS_seq ?_
      refine TS_region ?_
      refine VS_read (S_loadBA ag25 rfl (.here) rfl) rfl rfl rfl ?_
      refine VS_pure (P_move rfl) rfl rfl rfl ?_
      refine VS_step ((S_call cl14 rfl (fun m' hm he => P14 m' hm) rfl ?_)) rfl
      rintro _ _ ⟨B1, d1, rfl, rfl⟩
      refine VS_pure (P_move rfl) rfl rfl rfl ?_
      refine VS_pure (P_extract rfl rfl) rfl rfl rfl ?_
      refine VS_pure (P_extract rfl rfl) rfl rfl rfl ?_
      refine VS_pure (P_assign rfl) rfl rfl rfl ?_
      refine VS_pure (P_assign rfl) rfl rfl rfl ?_
      refine VS_nil ?_
      refine QS_then ?_
      refine TS_seq ?_
      refine TS_seq ?_
      refine TS_region ?_
      refine VS_pure (P_move rfl) rfl rfl rfl ?_
      refine VS_pure (dt (P_neq rfl rfl) (by omega)) rfl rfl rfl ?_
      refine VS_nil ?_
      refine QS_then ?_
      refine TS_true rfl ?_
      refine TS_seq ?_
      refine TS_region ?_
      refine VS_pure (P_move rfl) rfl rfl rfl ?_
      refine VS_pure (dt (P_eql rfl rfl) rfl) rfl rfl rfl ?_
      refine VS_pure (P_move rfl) rfl rfl rfl ?_
      refine VS_pure (P_move rfl) rfl rfl rfl ?_
      refine VS_pure (P_len il40 rfl) rfl rfl rfl ?_
      refine VS_pure (dt (P_eql rfl rfl) rfl) rfl rfl rfl ?_
      refine VS_pure (P_pick_t rfl rfl) rfl rfl rfl ?_
      refine VS_pure (P_move rfl) rfl rfl rfl ?_
      refine VS_step (S_callR cl8 rfl (fun m' hm he => (wakes_ok (hT.mono hm))) rfl ?_) rfl
      rintro _ rfl
      refine VS_pure (P_pick_t rfl rfl) rfl rfl rfl ?_
      refine VS_pure (P_assign rfl) rfl rfl rfl ?_
      refine VS_nil ?_
      refine QS_then ?_
      refine TS_ret ?_
      refine QS_then_ret ?_
      exact QS_ret [_] ⟨rfl, trivial⟩ [] (Pick.nil _) ⟨rfl, rfl⟩
end Go.Proofs.YtccleakfgmcjpaaDoor
