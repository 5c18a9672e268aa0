/- A part of the proof: contracts of functions of the program. No condition. -/
import Derived.Test.YtccleakfgmcjpaaDoorDkL
namespace Go.Proofs.YtccleakfgmcjpaaDoor
open Go.Eng Dk
set_option maxRecDepth 100000
theorem bk_lens {m : Mp} {bv : List Value} {b : BkT} (hb : BkR m bv b) : b.fmts.length ≤ 140737488355328 ∧ b.cards.length ≤ 9223372036854775807 := by
  obtain ⟨_, _, _, _, _, ⟨_, h1, _⟩, h2, _⟩ := hb
  exact ⟨h2, h1⟩
theorem places_len {b : BkT} {l : List (List UInt8)} : (placesP b l).1.length ≤ l.length := by
  unfold placesP
  split <;> simp
theorem names_len {b : BkT} {l : List Int} : (namesP b l).1.length ≤ l.length := by
  unfold namesP
  split <;> simp
set_option maxHeartbeats 16000000 in
theorem DeckPlaces_ok {m : Mp} (hT : Tabs m) {bv : List Value} {b : BkT} (hb : BkR m bv b) {A : Option Addr} {c : Nat} {l : List (List UInt8)} (hl : StrsR m A l) {A2 : Option Addr} {c2 : Nat} {ps : List Int} (hp : Rd m A2 (ps.map iV)) (hpl : ps.length ≤ 140737488355328) :
    CS Tryd.prog 5 [.agg bv.toArray, .slice A l.length c, .slice A2 ps.length c2] m [] (Gives (.bool true)) := by
  have hb0 := hb
  obtain ⟨hk1, hk2⟩ := bk_lens hb
  have hln := hl.2
  obtain ⟨A0, c0, F0, k0, rfl, _⟩ := hb
  refine CS_of [.tmp 6] Tryd.func5 rfl rfl rfl ?_
  refine TS_seq ?_
  refine TS_region ?_
  refine VS_step (S_box rfl rfl (fun b1 => ?_)) rfl
  refine VS_pure (P_assign rfl) rfl rfl rfl ?_
  refine VS_nil ?_
  refine QS_then ?_
  refine TS_seq ?_
  refine TS_seq ?_
  refine TS_region ?_
  refine VS_read (S_loadBA ag25 rfl (.here) rfl) rfl rfl rfl ?_
  refine VS_pure (P_move rfl) rfl rfl rfl ?_
  refine VS_step ((S_call cl7 rfl (fun m' hm he => great_ok (hb0.mono hm) (by omega) hk1 hk2) rfl ?_)) rfl
  rintro _ _ ⟨rfl, g, rfl, hg⟩
  cases g with
  | true =>
    refine VS_pure (P_move rfl) rfl rfl rfl ?_
    iterate 3 (refine VS_skip rfl rfl rfl ?_)
    refine VS_pure (P_pick_t rfl rfl) rfl rfl rfl ?_
    refine VS_nil ?_
    refine QS_then ?_
    refine TS_true rfl ?_
    refine TS_seq ?_
    refine TS_region ?_
    refine VS_step (S_callR cl8 rfl (fun m' hm he => (wakes_ok (hT.mono hm))) rfl ?_) rfl
    rintro _ rfl
    refine VS_pure (P_assign rfl) rfl rfl rfl ?_
    refine VS_nil ?_
    refine QS_then ?_
    refine TS_ret ?_
    refine QS_then_ret ?_
    exact QS_ret [_] ⟨rfl, trivial⟩ [] (Pick.nil _) ⟨rfl, rfl⟩
  | false =>
    have hl3 : l.length ≤ 300 := hg rfl
    by_cases hp3 : (ps.length : Int) > 300
    · refine VS_pure (P_move rfl) rfl rfl rfl ?_
      refine VS_pure (P_move rfl) rfl rfl rfl ?_
      refine VS_pure (P_len il40 rfl) rfl rfl rfl ?_
      refine VS_pure (dt (P_gtr rfl rfl) (by assumption)) rfl rfl rfl ?_
      refine VS_pure (P_pick_f rfl rfl) rfl rfl rfl ?_
      refine VS_nil ?_
      refine QS_then ?_
      refine TS_true rfl ?_
      refine TS_seq ?_
      refine TS_region ?_
      refine VS_step (S_callR cl8 rfl (fun m' hm he => (wakes_ok (hT.mono hm))) rfl ?_) rfl
      rintro _ rfl
      refine VS_pure (P_assign rfl) rfl rfl rfl ?_
      refine VS_nil ?_
      refine QS_then ?_
      refine TS_ret ?_
      refine QS_then_ret ?_
      exact QS_ret [_] ⟨rfl, trivial⟩ [] (Pick.nil _) ⟨rfl, rfl⟩
    have hp3' : ps.length ≤ 300 := by omega
    have pl1 : (placesP b l).1.length ≤ 300 := Nat.le_trans places_len hl3
    have nm1 : (namesP b ps).1.length ≤ 300 := Nat.le_trans names_len hp3'
    refine VS_pure (P_move rfl) rfl rfl rfl ?_
    refine VS_pure (P_move rfl) rfl rfl rfl ?_
    refine VS_pure (P_len il40 rfl) rfl rfl rfl ?_
    refine VS_pure (df (P_gtr rfl rfl) (by assumption)) rfl rfl rfl ?_
    refine VS_pure (P_pick_f rfl rfl) rfl rfl rfl ?_
    refine VS_nil ?_
    refine QS_then ?_
    refine TS_false rfl ?_
    refine TS_skip ?_
    refine QS_then ?_
    refine TS_seq ?_
    refine TS_region ?_
    refine VS_read (S_loadBA ag25 rfl (.here) rfl) rfl rfl rfl ?_
    refine VS_pure (P_move rfl) rfl rfl rfl ?_
    refine VS_step ((S_call cl14 rfl (fun m' hm he => Places14 (c := c) (hb0.mono hm) (hl.mono hm) hl3) rfl ?_)) rfl
    rintro _ _ ⟨B1, d1, rfl, rfl⟩
    refine VS_pure (P_move rfl) rfl rfl rfl ?_
    refine VS_pure (P_extract rfl rfl) rfl rfl rfl ?_
    refine VS_pure (P_extract rfl rfl) rfl rfl rfl ?_
    refine VS_pure (P_assign rfl) rfl rfl rfl ?_
    refine VS_pure (P_assign rfl) rfl rfl rfl ?_
    refine VS_nil ?_
    refine QS_then ?_
    refine TS_seq ?_
    refine TS_region ?_
    refine VS_read (S_loadBA ag25 rfl (.there (.here)) rfl) rfl rfl rfl ?_
    refine VS_pure (P_move rfl) rfl rfl rfl ?_
    refine VS_step ((S_call cl15 rfl (fun m' hm he => Places15 (c := c) (hb0.mono hm) (hl.mono hm) hl3) rfl ?_)) rfl
    rintro _ _ ⟨B2, d2, rfl, rfl⟩
    refine VS_pure (P_move rfl) rfl rfl rfl ?_
    refine VS_pure (P_extract rfl rfl) rfl rfl rfl ?_
    refine VS_pure (P_extract rfl rfl) rfl rfl rfl ?_
    refine VS_pure (P_assign rfl) rfl rfl rfl ?_
    refine VS_pure (P_assign rfl) rfl rfl rfl ?_
    refine VS_nil ?_
    refine QS_then ?_
    refine TS_seq ?_
    refine TS_region ?_
    refine VS_read (S_loadBA ag25 rfl (.there (.there (.here))) rfl) rfl rfl rfl ?_
    refine VS_pure (P_move rfl) rfl rfl rfl ?_
    refine VS_step ((S_call cl16 rfl (fun m' hm he => Names16 (c := c2) (hb0.mono hm) (hp.mono hm) hp3') rfl ?_)) rfl
    rintro _ _ ⟨B3, d3, rfl, rfl⟩
    refine VS_pure (P_move rfl) rfl rfl rfl ?_
    refine VS_pure (P_extract rfl rfl) rfl rfl rfl ?_
    refine VS_pure (P_extract rfl rfl) rfl rfl rfl ?_
    refine VS_pure (P_assign rfl) rfl rfl rfl ?_
    refine VS_pure (P_assign rfl) rfl rfl rfl ?_
    refine VS_nil ?_
    refine QS_then ?_
    refine TS_seq ?_
    refine TS_region ?_
    refine VS_read (S_loadBA ag25 rfl (.there (.there (.there (.here)))) rfl) rfl rfl rfl ?_
    refine VS_pure (P_move rfl) rfl rfl rfl ?_
    refine VS_step ((S_call cl17 rfl (fun m' hm he => Names17 (c := c2) (hb0.mono hm) (hp.mono hm) hp3') rfl ?_)) rfl
    rintro _ _ ⟨B4, d4, rfl, rfl⟩
    have S1 := fun m' (h1 : (own 3 1 B1 (placesP b l).1.length d1 ((placesP b l).1.map iV)).inv m') (h2 : (own 3 1 B2 (placesP b l).1.length d2 ((placesP b l).1.map iV)).inv m') => same18 (c := d1) (c2 := d2) (Eng.Own.rd h1) (Eng.Own.rd h2) (by omega) (by omega)
    have S2 := fun m' (h1 : (own 9 1 B3 (namesP b ps).1.length d3 ((namesP b ps).1.map sV)).inv m') (h2 : (own 9 1 B4 (namesP b ps).1.length d4 ((namesP b ps).1.map sV)).inv m') => same19 (c := d3) (c2 := d4) (Eng.Own.rd h1) (Eng.Own.rd h2) (by omega) (by omega)
    rw [decide_eq_true (rfl : (placesP b l).1 = (placesP b l).1)] at S1
    rw [decide_eq_true (rfl : (namesP b ps).1 = (namesP b ps).1)] at S2
    refine VS_pure (P_move rfl) rfl rfl rfl ?_
    refine VS_pure (P_extract rfl rfl) rfl rfl rfl ?_
    refine VS_pure (P_extract rfl rfl) rfl rfl rfl ?_
    refine VS_pure (P_assign rfl) rfl rfl rfl ?_
    refine VS_pure (P_assign rfl) rfl rfl rfl ?_
    refine VS_nil ?_
    refine QS_then ?_
    refine TS_seq ?_
    refine TS_region ?_
    refine VS_pure (P_move rfl) rfl rfl rfl ?_
    refine VS_pure (P_move rfl) rfl rfl rfl ?_
    refine VS_pure (dt (P_eql rfl rfl) rfl) rfl rfl rfl ?_
    iterate 3 (refine VS_pure (P_move rfl) rfl rfl rfl ?_)
    refine VS_step (S_callR cl18 rfl (fun m' hm he => (S1 m' (he _ (List.mem_cons_of_mem _ (List.mem_cons_of_mem _ (List.mem_cons_of_mem _ List.mem_cons_self)))) (he _ (List.mem_cons_of_mem _ (List.mem_cons_of_mem _ List.mem_cons_self))))) rfl ?_) rfl
    rintro _ rfl
    refine VS_pure (P_pick_t rfl rfl) rfl rfl rfl ?_
    iterate 3 (refine VS_pure (P_move rfl) rfl rfl rfl ?_)
    refine VS_pure (dt (P_eql rfl rfl) rfl) rfl rfl rfl ?_
    refine VS_pure (P_pick_t rfl rfl) rfl rfl rfl ?_
    iterate 3 (refine VS_pure (P_move rfl) rfl rfl rfl ?_)
    refine VS_step (S_callR cl19 rfl (fun m' hm he => (S2 m' (he _ (List.mem_cons_of_mem _ List.mem_cons_self)) (he _ List.mem_cons_self))) rfl ?_) rfl
    rintro _ rfl
    refine VS_pure (P_pick_t rfl rfl) rfl rfl rfl ?_
    refine VS_pure (P_move rfl) rfl rfl rfl ?_
    refine VS_step (S_callR cl8 rfl (fun m' hm he => (wakes_ok (hT.mono hm))) rfl ?_) rfl
    rintro _ rfl
    refine VS_pure (P_pick_t rfl rfl) rfl rfl rfl ?_
    refine VS_pure (P_assign rfl) rfl rfl rfl ?_
    refine VS_nil ?_
    refine QS_then ?_
    refine TS_ret ?_
    exact QS_ret [_] ⟨rfl, trivial⟩ [] (Pick.nil _) ⟨rfl, rfl⟩
end Go.Proofs.YtccleakfgmcjpaaDoor
