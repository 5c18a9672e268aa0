/- A part of the proof: contracts of functions of the program. No condition. -/
import Derived.Test.YtbghonkgflolaaaDoorKdO
import Derived.Test.YtbghonkgflolaaaDoorKdS
namespace Go.Proofs.YtbghonkgflolaaaDoor
open Go.Eng Wd Kd
set_option maxRecDepth 100000
theorem flatC {m : Mp} {cs : List Value} {x : CardT} (hx : CardR m cs x) : ∃ l, FlatL (kidsC x) l := by
  obtain ⟨A, la, ca, B, lb, cb, D, ld, cd, -, -, ⟨-, -, vp, -, -, hP⟩, ⟨-, -, vd, -, -, hD⟩, ⟨-, -, vw, -, -, hW⟩, -⟩ := hx
  have key : ∀ p ∈ kidsC x, ∃ l, Flat p l := by
    intro p hp
    unfold kidsC at hp
    rcases List.mem_append.1 hp with hp | hp
    · rcases List.mem_append.1 hp with hp | hp
      · obtain ⟨y, hy, rfl⟩ := List.mem_map.1 hp
        obtain ⟨j, hj, rfl⟩ := List.getElem_of_mem hy
        exact Flat.eff (hP j hj)
      · obtain ⟨y, hy, rfl⟩ := List.mem_map.1 hp
        obtain ⟨j, hj, rfl⟩ := List.getElem_of_mem hy
        exact Flat.eff (hD j hj)
    · obtain ⟨y, hy, rfl⟩ := List.mem_map.1 hp
      obtain ⟨j, hj, rfl⟩ := List.getElem_of_mem hy
      exact Flat.eff (hW j hj)
  obtain ⟨ls, e, h⟩ := choose_flat fun i hi => key _ (List.getElem_mem hi)
  exact ⟨_, ls, e, h, rfl⟩
theorem Weight11 {m : Mp} {cs : List Value} {x : CardT} (hx : CardR m cs x) (hw : cardW x ≤ 3999) : CS Tryd.prog 11 [.agg cs.toArray] m [] (Gives (.int .i64 (cardW x : Nat))) := by
  obtain ⟨l, hF⟩ := flatC hx
  have h := cardW_flat hF
  have h2 := Weight_ok hx hF (by omega)
  rw [h] at h2
  exact h2
/-- a card's numbers -/
def cardQ (x : CardT) : List Int := [x.cost, x.power, x.health, x.shield, x.apow, x.aheal]
def mayP (u : Us) (x : CardT) : Prop :=
  (∀ (i : Nat) (h : i < (cardQ x).length), 0 ≤ (cardQ x)[i] ∧ (cardQ x)[i] ≤ 999) ∧ nameP x.name = true ∧ cardW x ≤ 200 ∧ ¬ (x.unit = true ∧ x.health < 1) ∧
    ¬ (x.unit = false ∧ (x.power + x.health + x.shield + x.apow + x.aheal > 0 ∨ x.dead.length + x.dawn.length > 0)) ∧ ListOk u true 1 x.played ∧ ListOk u false 1 x.dead ∧ ListOk u false 1 x.dawn
theorem cardQ_at (x : CardT) {i : Nat} (h : i < 6) : vnth [.int .i64 x.cost, .int .i64 x.power, .int .i64 x.health, .int .i64 x.shield, .int .i64 x.apow, .int .i64 x.aheal] (((i : Nat) : Int).toNat * 1) = some (.int .i64 ((cardQ x)[i]'h)) := by
  match i, h with
  | 0, _ => rfl
  | 1, _ => rfl
  | 2, _ => rfl
  | 3, _ => rfl
  | 4, _ => rfl
  | 5, _ => rfl
set_option maxHeartbeats 64000000 in
theorem may9 {m : Mp} {cs : List Value} {x : CardT} {a : Addr} {bm : Nat} {ul : List (List UInt8 × Bool)} (hT : Tabs m) (hx : CardR m cs x) (hat : At m a cs) (hmap : MapAt m bm (esU ul)) (hnl : x.name.length ≤ 2000) (hw : cardW x ≤ 3999) :
    CS Tryd.prog 9 [.pointer (some a), .map (some bm)] m [] (fun v L' => L' = [] ∧ ∃ r, v = .bool r ∧ (r = true ↔ mayP (uOf ul) x)) := by
  have hx0 := hx
  obtain ⟨A, la, ca, B, lb, cb, D, ld, cd, rfl, -, hP, hD, hW, w1, w2, w3, w4, w5, w6, w7⟩ := hx
  have e1 := hP.1
  have e2 := hD.1
  have e3 := hW.1
  subst e1 e2 e3
  have hml2 := hD.2.1
  have hml3 := hW.2.1
  unfold maxLen at hml2 hml3
  have hlens : x.dead.length + x.dawn.length ≤ 3999 := by
    obtain ⟨l, hF⟩ := flatC hx0
    have h := cardW_flat hF
    obtain ⟨ls, e, hk, rfl⟩ := hF
    have := (flat_lens e hk).1
    rw [kidsC_len] at this
    omega
  refine CS_of [.tmp 4] Tryd.func9 rfl rfl rfl ?_
  refine TS_seq ?_
  refine TS_region ?_
  refine VS_pure (P_assign rfl) rfl rfl rfl ?_
  refine VS_nil ?_
  refine QS_then ?_
  refine TS_seq ?_
  refine TS_seq ?_
  refine TS_draw (.step 0 .pure (.step 1 .pure (.step 2 .pure (.step 4 .pure (.step 5 .pure (.step 6 .pure (.step 8 .pure (.step 9 .pure (.step 10 .pure (.step 12 .pure (.step 13 .pure (.step 14 .pure (.step 16 .pure (.step 17 .pure (.step 18 .pure (.step 20 .pure (.step 21 .pure (.step 22 .pure (.step 25 .pure (.step 3 .read (.step 7 .read (.step 11 .read (.step 15 .read (.step 19 .read (.step 23 .read (.step 24 .pure (.done))))))))))))))))))))))))))) mixed (by kernel_rfl) (fun _ _ _ _ hq => hq) ?_
  refine VTS_pure rfl (P_move rfl) rfl rfl rfl ?_
  refine VTS_pure rfl (P_nilCheck rfl) rfl rfl rfl ?_
  refine VTS_pure rfl (P_fieldAddr fo31_2 rfl) rfl rfl rfl ?_
  refine VTS_pure rfl (P_move rfl) rfl rfl rfl ?_
  refine VTS_pure rfl (P_nilCheck rfl) rfl rfl rfl ?_
  refine VTS_pure rfl (P_fieldAddr fo31_3 rfl) rfl rfl rfl ?_
  refine VTS_pure rfl (P_move rfl) rfl rfl rfl ?_
  refine VTS_pure rfl (P_nilCheck rfl) rfl rfl rfl ?_
  refine VTS_pure rfl (P_fieldAddr fo31_4 rfl) rfl rfl rfl ?_
  refine VTS_pure rfl (P_move rfl) rfl rfl rfl ?_
  refine VTS_pure rfl (P_nilCheck rfl) rfl rfl rfl ?_
  refine VTS_pure rfl (P_fieldAddr fo31_5 rfl) rfl rfl rfl ?_
  refine VTS_pure rfl (P_move rfl) rfl rfl rfl ?_
  refine VTS_pure rfl (P_nilCheck rfl) rfl rfl rfl ?_
  refine VTS_pure rfl (P_fieldAddr fo31_6 rfl) rfl rfl rfl ?_
  refine VTS_pure rfl (P_move rfl) rfl rfl rfl ?_
  refine VTS_pure rfl (P_nilCheck rfl) rfl rfl rfl ?_
  refine VTS_pure rfl (P_fieldAddr fo31_7 rfl) rfl rfl rfl ?_
  refine VTS_pure rfl (P_move rfl) rfl rfl rfl ?_
  iterate 6 (refine VTS_read rfl (S_load sg3 rfl (hat.at_ rfl)) rfl rfl rfl ?_)
  refine VTS_pure rfl (P_buildArr ar52 zl52 rfl rfl) rfl rfl rfl ?_
  refine VTS_nil ?_
  refine QS_then ?_
  refine TS_block ?_
  refine TS_loop (α := Nat) (fun i => [(0, .pointer (some a)), (1, .map (some bm)), (32, .agg [.int .i64 x.cost, .int .i64 x.power, .int .i64 x.health, .int .i64 x.shield, .int .i64 x.apow, .int .i64 x.aheal].toArray), (33, .int .i64 (i : Nat))]) (fun _ => []) (fun i => i ≤ 6 ∧ ∀ (j : Nat) (h : j < (cardQ x).length), j < i → 0 ≤ (cardQ x)[j] ∧ (cardQ x)[j] ≤ 999) (fun i => 6 - i) 0 ⟨rfl, rfl, rfl, rfl, trivial⟩ (Pick.refl _) ⟨Nat.zero_le _, fun _ _ h => by cases h⟩ ?_
  rintro i ⟨hi, hdone⟩
  try dsimp only at hi hdone
  try dsimp only
  by_cases hlt : i < 6
  · have hq := cardQ_at x hlt
    generalize hqi : (cardQ x)[i]'hlt = q at hq
    have hno : ¬ (0 ≤ q ∧ q ≤ 999) → ¬ mayP (uOf ul) x := fun h1 h2 => h1 (by rw [← hqi]; exact h2.1 i hlt)
    by_cases hq0 : q < 0
    · refine TS_seq ?_
      refine TS_region ?_
      refine VS_pure (dt (P_lss rfl rfl) (by omega)) rfl rfl rfl ?_
      refine VS_nil ?_
      refine QS_then ?_
      refine TS_seq ?_
      refine TS_true rfl ?_
      refine TS_skip ?_
      refine QS_then ?_
      refine TS_seq ?_
      refine TS_block ?_
      refine TS_seq ?_
      refine TS_region ?_
      refine VS_pure ((P_index1 ar52 ars52 rfl rfl (by omega) (by omega) hq)) rfl rfl rfl ?_
      refine VS_pure (P_assign rfl) rfl rfl rfl ?_
      refine VS_nil ?_
      refine QS_then ?_
      refine TS_seq ?_
      refine TS_region ?_
      refine VS_pure (P_move rfl) rfl rfl rfl ?_
      refine VS_pure (dt (P_lss rfl rfl) (by assumption)) rfl rfl rfl ?_
      refine VS_pure (P_move rfl) rfl rfl rfl ?_
      refine VS_skip rfl rfl rfl ?_
      refine VS_skip rfl rfl rfl ?_
      refine VS_pure (P_pick_t rfl rfl) rfl rfl rfl ?_
      refine VS_nil ?_
      refine QS_then ?_
      refine TS_true rfl ?_
      refine TS_seq ?_
      refine TS_region ?_
      refine VS_pure (P_assign rfl) rfl rfl rfl ?_
      refine VS_nil ?_
      refine QS_then ?_
      refine TS_ret ?_
      refine QS_block_ret ?_
      refine QS_then_ret ?_
      refine QS_round_ret ?_
      refine QS_block_ret ?_
      refine QS_then_ret ?_
      exact QS_ret [_] ⟨rfl, trivial⟩ [] (Pick.nil _) ⟨rfl, false, rfl, fun h => (by cases h), fun h => absurd h (hno (by omega))⟩
    by_cases hq9 : q > 999
    · refine TS_seq ?_
      refine TS_region ?_
      refine VS_pure (dt (P_lss rfl rfl) (by omega)) rfl rfl rfl ?_
      refine VS_nil ?_
      refine QS_then ?_
      refine TS_seq ?_
      refine TS_true rfl ?_
      refine TS_skip ?_
      refine QS_then ?_
      refine TS_seq ?_
      refine TS_block ?_
      refine TS_seq ?_
      refine TS_region ?_
      refine VS_pure ((P_index1 ar52 ars52 rfl rfl (by omega) (by omega) hq)) rfl rfl rfl ?_
      refine VS_pure (P_assign rfl) rfl rfl rfl ?_
      refine VS_nil ?_
      refine QS_then ?_
      refine TS_seq ?_
      refine TS_region ?_
      refine VS_pure (P_move rfl) rfl rfl rfl ?_
      refine VS_pure (df (P_lss rfl rfl) (by assumption)) rfl rfl rfl ?_
      refine VS_pure (P_move rfl) rfl rfl rfl ?_
      refine VS_pure (P_move rfl) rfl rfl rfl ?_
      refine VS_pure (dt (P_gtr rfl rfl) (by assumption)) rfl rfl rfl ?_
      refine VS_pure (P_pick_f rfl rfl) rfl rfl rfl ?_
      refine VS_nil ?_
      refine QS_then ?_
      refine TS_true rfl ?_
      refine TS_seq ?_
      refine TS_region ?_
      refine VS_pure (P_assign rfl) rfl rfl rfl ?_
      refine VS_nil ?_
      refine QS_then ?_
      refine TS_ret ?_
      refine QS_block_ret ?_
      refine QS_then_ret ?_
      refine QS_round_ret ?_
      refine QS_block_ret ?_
      refine QS_then_ret ?_
      exact QS_ret [_] ⟨rfl, trivial⟩ [] (Pick.nil _) ⟨rfl, false, rfl, fun h => (by cases h), fun h => absurd h (hno (by omega))⟩
    refine TS_seq ?_
    refine TS_region ?_
    refine VS_pure (dt (P_lss rfl rfl) (by omega)) rfl rfl rfl ?_
    refine VS_nil ?_
    refine QS_then ?_
    refine TS_seq ?_
    refine TS_true rfl ?_
    refine TS_skip ?_
    refine QS_then ?_
    refine TS_seq ?_
    refine TS_block ?_
    refine TS_seq ?_
    refine TS_region ?_
    refine VS_pure ((P_index1 ar52 ars52 rfl rfl (by omega) (by omega) hq)) rfl rfl rfl ?_
    refine VS_pure (P_assign rfl) rfl rfl rfl ?_
    refine VS_nil ?_
    refine QS_then ?_
    refine TS_seq ?_
    refine TS_region ?_
    refine VS_pure (P_move rfl) rfl rfl rfl ?_
    refine VS_pure (df (P_lss rfl rfl) (by assumption)) rfl rfl rfl ?_
    refine VS_pure (P_move rfl) rfl rfl rfl ?_
    refine VS_pure (P_move rfl) rfl rfl rfl ?_
    refine VS_pure (df (P_gtr rfl rfl) (by assumption)) rfl rfl rfl ?_
    refine VS_pure (P_pick_f rfl rfl) rfl rfl rfl ?_
    refine VS_nil ?_
    refine QS_then ?_
    refine TS_false rfl ?_
    refine TS_skip ?_
    refine QS_block ?_
    refine QS_then ?_
    refine TS_region ?_
    refine VS_pure (P_add rfl rfl (w64 (by omega) (by omega))) rfl rfl rfl ?_
    refine VS_pure (P_move rfl) rfl rfl rfl ?_
    refine VS_nil ?_
    exact QS_round (i + 1) ⟨rfl, rfl, rfl, rfl, trivial⟩ (Pick.refl _) ⟨hlt, fun j h h2 => by
      by_cases hji : j < i
      · exact hdone j h hji
      · obtain rfl : j = i := by omega
        have e : (cardQ x)[j] = q := hqi
        omega⟩ (by omega)
  have hall : ∀ (j : Nat) (h : j < (cardQ x).length), 0 ≤ (cardQ x)[j] ∧ (cardQ x)[j] ≤ 999 := fun j h => hdone j h (by have : (cardQ x).length = 6 := rfl; omega)
  clear hdone
  have q1 : 0 ≤ x.power ∧ x.power ≤ 999 := hall 1 (by show _ < 6; omega)
  have q2 : 0 ≤ x.health ∧ x.health ≤ 999 := hall 2 (by show _ < 6; omega)
  have q3 : 0 ≤ x.shield ∧ x.shield ≤ 999 := hall 3 (by show _ < 6; omega)
  have q4 : 0 ≤ x.apow ∧ x.apow ≤ 999 := hall 4 (by show _ < 6; omega)
  have q5 : 0 ≤ x.aheal ∧ x.aheal ≤ 999 := hall 5 (by show _ < 6; omega)
  refine TS_seq ?_
  refine TS_region ?_
  refine VS_pure (df (P_lss rfl rfl) (by omega)) rfl rfl rfl ?_
  refine VS_nil ?_
  refine QS_then ?_
  refine TS_seq ?_
  refine TS_false rfl ?_
  refine TS_exit ?_
  refine QS_then_exit ?_
  refine QS_round_exit ?_
  refine QS_block_here ?_
  refine QS_then ?_
  refine TS_seq ?_
  refine TS_block ?_
  refine TS_seq ?_
  refine TS_seq ?_
  refine TS_region ?_
  refine VS_pure (P_move rfl) rfl rfl rfl ?_
  refine VS_pure (P_nilCheck rfl) rfl rfl rfl ?_
  refine VS_pure (P_fieldAddr fo31_0 rfl) rfl rfl rfl ?_
  refine VS_read (S_load sg9 rfl (hat.at_ rfl)) rfl rfl rfl ?_
  refine VS_step (S_callR cl15 rfl (fun m' hm he => (Name_ok (hT.mono hm) (by omega))) rfl ?_) rfl
  rintro _ rfl
  cases hnm : nameP x.name with
  | false =>
    refine VS_pure (P_not rfl) rfl rfl rfl ?_
    refine VS_pure (P_assign rfl) rfl rfl rfl ?_
    refine VS_nil ?_
    refine QS_then ?_
    refine TS_true rfl ?_
    refine TS_skip ?_
    refine QS_then ?_
    refine TS_true rfl ?_
    refine TS_seq ?_
    refine TS_region ?_
    refine VS_pure (P_assign rfl) rfl rfl rfl ?_
    refine VS_nil ?_
    refine QS_then ?_
    refine TS_ret ?_
    refine QS_block_ret ?_
    refine QS_then_ret ?_
    exact QS_ret [_] ⟨rfl, trivial⟩ [] (Pick.nil _) ⟨rfl, false, rfl, fun h => (by cases h), fun h => by rw [h.2.1] at hnm; cases hnm⟩
  | true =>
  refine VS_pure (P_not rfl) rfl rfl rfl ?_
  refine VS_pure (P_assign rfl) rfl rfl rfl ?_
  refine VS_nil ?_
  refine QS_then ?_
  refine TS_false rfl ?_
  refine TS_seq ?_
  refine TS_region ?_
  refine VS_pure (P_move rfl) rfl rfl rfl ?_
  refine VS_pure (P_nilCheck rfl) rfl rfl rfl ?_
  refine VS_read (S_loadAt ag31 rfl rfl hat) rfl rfl rfl ?_
  refine VS_step (S_callR cl11 rfl (fun m' hm he => (Weight11 (hx0.mono hm) hw)) rfl ?_) rfl
  rintro _ rfl
  by_cases hw2 : cardW x ≤ 200
  rotate_left
  · refine VS_pure (dt (P_gtr rfl rfl) (by omega)) rfl rfl rfl ?_
    refine VS_pure (P_assign rfl) rfl rfl rfl ?_
    refine VS_nil ?_
    refine QS_then ?_
    refine TS_true rfl ?_
    refine TS_skip ?_
    refine QS_then ?_
    refine TS_true rfl ?_
    refine TS_seq ?_
    refine TS_region ?_
    refine VS_pure (P_assign rfl) rfl rfl rfl ?_
    refine VS_nil ?_
    refine QS_then ?_
    refine TS_ret ?_
    refine QS_block_ret ?_
    refine QS_then_ret ?_
    exact QS_ret [_] ⟨rfl, trivial⟩ [] (Pick.nil _) ⟨rfl, false, rfl, fun h => (by cases h), fun h => absurd h.2.2.1 hw2⟩
  have hfin : (¬ (x.unit = true ∧ x.health < 1) ∧ ¬ (x.unit = false ∧ (x.power + x.health + x.shield + x.apow + x.aheal > 0 ∨ x.dead.length + x.dawn.length > 0)) ∧ ListOk (uOf ul) true 1 x.played ∧ ListOk (uOf ul) false 1 x.dead ∧ ListOk (uOf ul) false 1 x.dawn) ↔ mayP (uOf ul) x :=
    ⟨fun h => ⟨hall, hnm, hw2, h⟩, fun h => h.2.2.2⟩
  rw [← hfin]
  refine VS_pure (df (P_gtr rfl rfl) (by omega)) rfl rfl rfl ?_
  refine VS_pure (P_assign rfl) rfl rfl rfl ?_
  refine VS_nil ?_
  refine QS_then ?_
  refine TS_false rfl ?_
  refine TS_region ?_
  refine VS_pure (P_move rfl) rfl rfl rfl ?_
  refine VS_pure (P_nilCheck rfl) rfl rfl rfl ?_
  refine VS_pure (P_fieldAddr fo31_1 rfl) rfl rfl rfl ?_
  refine VS_read (S_load sg4 rfl (hat.at_ rfl)) rfl rfl rfl ?_
  cases hun : x.unit with
  | true =>
    rw [hun] at hat
    by_cases hh : x.health < 1
    · refine VS_pure (P_move rfl) rfl rfl rfl ?_
      refine VS_pure (P_move rfl) rfl rfl rfl ?_
      refine VS_pure (P_nilCheck rfl) rfl rfl rfl ?_
      refine VS_pure (P_fieldAddr fo31_4 rfl) rfl rfl rfl ?_
      refine VS_read (S_load sg3 rfl (hat.at_ rfl)) rfl rfl rfl ?_
      refine VS_pure (dt (P_lss rfl rfl) (by assumption)) rfl rfl rfl ?_
      refine VS_pure (P_pick_t rfl rfl) rfl rfl rfl ?_
      refine VS_pure (P_assign rfl) rfl rfl rfl ?_
      refine VS_nil ?_
      refine QS_then ?_
      refine TS_true rfl ?_
      refine TS_seq ?_
      refine TS_region ?_
      refine VS_pure (P_assign rfl) rfl rfl rfl ?_
      refine VS_nil ?_
      refine QS_then ?_
      refine TS_ret ?_
      refine QS_block_ret ?_
      refine QS_then_ret ?_
      exact QS_ret [_] ⟨rfl, trivial⟩ [] (Pick.nil _) ⟨rfl, false, rfl, fun h => (by cases h), fun h => absurd ⟨rfl, hh⟩ h.1⟩
    have HA : ¬ (true = true ∧ x.health < 1) := fun h => hh h.2
    have HB : ¬ (true = false ∧ (x.power + x.health + x.shield + x.apow + x.aheal > 0 ∨ x.dead.length + x.dawn.length > 0)) := fun h => by cases h.1
    refine VS_pure (P_move rfl) rfl rfl rfl ?_
    refine VS_pure (P_move rfl) rfl rfl rfl ?_
    refine VS_pure (P_nilCheck rfl) rfl rfl rfl ?_
    refine VS_pure (P_fieldAddr fo31_4 rfl) rfl rfl rfl ?_
    refine VS_read (S_load sg3 rfl (hat.at_ rfl)) rfl rfl rfl ?_
    refine VS_pure (df (P_lss rfl rfl) (by assumption)) rfl rfl rfl ?_
    refine VS_pure (P_pick_t rfl rfl) rfl rfl rfl ?_
    refine VS_pure (P_assign rfl) rfl rfl rfl ?_
    refine VS_nil ?_
    refine QS_then ?_
    refine TS_false rfl ?_
    refine TS_seq ?_
    refine TS_draw (.step 0 .pure (.step 1 .pure (.step 2 .pure (.step 3 .read (.step 4 .pure (.step 5 .pure (.step 6 .pure (.step 7 .pure (.step 8 .pure (.step 10 .pure (.step 11 .pure (.step 12 .pure (.step 15 .pure (.step 16 .pure (.step 17 .pure (.step 20 .pure (.step 21 .pure (.step 22 .pure (.step 25 .pure (.step 26 .pure (.step 27 .pure (.step 9 .read (.step 13 .read (.step 14 .pure (.step 18 .read (.step 19 .pure (.step 23 .read (.step 24 .pure (.step 28 .read (.step 29 .pure (.step 30 .pure (.step 31 .pure (.step 32 .pure (.step 33 .pure (.step 34 .pure (.step 37 .pure (.step 38 .pure (.step 39 .pure (.step 35 .read (.step 36 .pure (.step 40 .read (.step 41 .pure (.step 42 .pure (.step 43 .pure (.step 44 .pure (.step 45 .pure (.step 46 .pure (.done)))))))))))))))))))))))))))))))))))))))))))))))) mixed (by kernel_rfl) (fun _ _ _ _ hq => hq) ?_
    refine VTS_pure rfl (P_move rfl) rfl rfl rfl ?_
    refine VTS_pure rfl (P_nilCheck rfl) rfl rfl rfl ?_
    refine VTS_pure rfl (P_fieldAddr fo31_1 rfl) rfl rfl rfl ?_
    refine VTS_read rfl (S_load sg4 rfl (hat.at_ rfl)) rfl rfl rfl ?_
    refine VTS_pure rfl (P_not rfl) rfl rfl rfl ?_
    refine VTS_pure rfl (P_move rfl) rfl rfl rfl ?_
    iterate 39 (refine VTS_skip rfl rfl rfl rfl rfl ?_)
    refine VTS_pure rfl (P_pick_f rfl rfl) rfl rfl rfl ?_
    refine VTS_pure rfl (P_assign rfl) rfl rfl rfl ?_
    refine VTS_nil ?_
    refine QS_then ?_
    refine TS_false rfl ?_
    refine TS_skip ?_
    refine QS_block ?_
    refine QS_then ?_
    refine TS_seq ?_
    refine TS_region ?_
    refine VS_pure (P_move rfl) rfl rfl rfl ?_
    refine VS_pure (P_build zl55 pl55 rfl rfl) rfl rfl rfl ?_
    refine VS_step (S_box rfl rfl (fun b1 => ?_)) rfl
    refine VS_pure (P_assign rfl) rfl rfl rfl ?_
    refine VS_nil ?_
    refine QS_then ?_
    refine TS_seq ?_
    refine TS_seq ?_
    refine TS_region ?_
    refine VS_pure (P_move rfl) rfl rfl rfl ?_
    refine VS_pure (P_move rfl) rfl rfl rfl ?_
    refine VS_pure (P_nilCheck rfl) rfl rfl rfl ?_
    refine VS_pure (P_fieldAddr fo31_8 rfl) rfl rfl rfl ?_
    refine VS_read (S_load sg29 rfl (hat.at_ rfl)) rfl rfl rfl ?_
    refine VS_step ((S_call cl16 rfl (fun m1 hm1 he => list16 _ m1 A ca b1 1 ul true (hP.mono hm1) ⟨bm, mc_blk (HE0 he) rfl, mc_blk (HE0 he) rfl, hmap.mono hm1⟩ (by omega)) rfl ?_)) rfl
    rintro _ _ ⟨rfl, r, rfl, hr⟩
    cases r with
    | false =>
      refine VS_pure (P_not rfl) rfl rfl rfl ?_
      refine VS_nil ?_
      refine QS_then ?_
      refine TS_true rfl ?_
      refine TS_seq ?_
      refine TS_region ?_
      refine VS_pure (P_assign rfl) rfl rfl rfl ?_
      refine VS_nil ?_
      refine QS_then ?_
      refine TS_ret ?_
      refine QS_then_ret ?_
      exact QS_ret [_] ⟨rfl, trivial⟩ [] (Pick.nil _) ⟨rfl, false, rfl, fun h => (by cases h), fun h => absurd (hr.2 h.2.2.1) (by decide)⟩
    | true =>
    have hr1 := hr.1 rfl
    clear hr
    refine VS_pure (P_not rfl) rfl rfl rfl ?_
    refine VS_nil ?_
    refine QS_then ?_
    refine TS_false rfl ?_
    refine TS_skip ?_
    refine QS_then ?_
    refine TS_seq ?_
    refine TS_region ?_
    refine VS_pure (P_move rfl) rfl rfl rfl ?_
    refine VS_pure (P_nilCheck rfl) rfl rfl rfl ?_
    refine VS_pure (P_fieldAddr0 fo55_1 rfl) rfl rfl rfl ?_
    refine VS_step (S_store co4 rfl rfl rfl (.here) (.there (.here)) ?_) rfl
    refine VS_nil ?_
    refine QS_then ?_
    refine TS_seq ?_
    refine TS_region ?_
    refine VS_pure (P_move rfl) rfl rfl rfl ?_
    refine VS_pure (P_move rfl) rfl rfl rfl ?_
    refine VS_pure (P_nilCheck rfl) rfl rfl rfl ?_
    refine VS_pure (P_fieldAddr fo31_9 rfl) rfl rfl rfl ?_
    refine VS_read (S_load sg29 rfl (hat.at_ rfl)) rfl rfl rfl ?_
    refine VS_step ((S_call cl16 rfl (fun m1 hm1 he => list16 _ m1 B cb b1 1 ul false (hD.mono hm1) ⟨bm, mc_blk (HE0 he) rfl, mc_blk (HE0 he) rfl, hmap.mono hm1⟩ (by omega)) rfl ?_)) rfl
    rintro _ _ ⟨rfl, r, rfl, hr⟩
    cases r with
    | false =>
      refine VS_pure (P_move rfl) rfl rfl rfl ?_
      iterate 6 (refine VS_skip rfl rfl rfl ?_)
      refine VS_pure (P_pick_f rfl rfl) rfl rfl rfl ?_
      refine VS_pure (P_assign rfl) rfl rfl rfl ?_
      refine VS_nil ?_
      refine QS_then ?_
      refine TS_ret ?_
      exact QS_ret [_] ⟨rfl, trivial⟩ [] (Pick.nil _) ⟨rfl, false, rfl, fun h => (by cases h), fun h => absurd (hr.2 h.2.2.2.1) (by decide)⟩
    | true =>
    have hr2 := hr.1 rfl
    clear hr
    iterate 3 (refine VS_pure (P_move rfl) rfl rfl rfl ?_)
    refine VS_pure (P_nilCheck rfl) rfl rfl rfl ?_
    refine VS_pure (P_fieldAddr fo31_10 rfl) rfl rfl rfl ?_
    refine VS_read (S_load sg29 rfl (hat.at_ rfl)) rfl rfl rfl ?_
    refine VS_step ((S_call cl16 rfl (fun m1 hm1 he => list16 _ m1 D cd b1 1 ul false (hW.mono hm1) ⟨bm, mc_blk (HE0 he) rfl, mc_blk (HE0 he) rfl, hmap.mono hm1⟩ (by omega)) rfl ?_)) rfl
    rintro _ _ ⟨rfl, r, rfl, hr⟩
    refine VS_pure (P_pick_t rfl rfl) rfl rfl rfl ?_
    refine VS_pure (P_assign rfl) rfl rfl rfl ?_
    refine VS_nil ?_
    refine QS_then ?_
    refine TS_ret ?_
    exact QS_ret [_] ⟨rfl, trivial⟩ [] (Pick.nil _) ⟨rfl, r, rfl, fun h => ⟨HA, HB, hr1, hr2, hr.1 h⟩, fun h => hr.2 h.2.2.2.2⟩
  | false =>
    rw [hun] at hat
    by_cases hs : x.power + x.health + x.shield + x.apow + x.aheal > 0
    · refine VS_pure (P_move rfl) rfl rfl rfl ?_
      iterate 5 (refine VS_skip rfl rfl rfl ?_)
      refine VS_pure (P_pick_f rfl rfl) rfl rfl rfl ?_
      refine VS_pure (P_assign rfl) rfl rfl rfl ?_
      refine VS_nil ?_
      refine QS_then ?_
      refine TS_false rfl ?_
      refine TS_seq ?_
      refine TS_draw (.step 0 .pure (.step 1 .pure (.step 2 .pure (.step 3 .read (.step 4 .pure (.step 5 .pure (.step 6 .pure (.step 7 .pure (.step 8 .pure (.step 10 .pure (.step 11 .pure (.step 12 .pure (.step 15 .pure (.step 16 .pure (.step 17 .pure (.step 20 .pure (.step 21 .pure (.step 22 .pure (.step 25 .pure (.step 26 .pure (.step 27 .pure (.step 9 .read (.step 13 .read (.step 14 .pure (.step 18 .read (.step 19 .pure (.step 23 .read (.step 24 .pure (.step 28 .read (.step 29 .pure (.step 30 .pure (.step 31 .pure (.step 32 .pure (.step 33 .pure (.step 34 .pure (.step 37 .pure (.step 38 .pure (.step 39 .pure (.step 35 .read (.step 36 .pure (.step 40 .read (.step 41 .pure (.step 42 .pure (.step 43 .pure (.step 44 .pure (.step 45 .pure (.step 46 .pure (.done)))))))))))))))))))))))))))))))))))))))))))))))) mixed (by kernel_rfl) (fun _ _ _ _ hq => hq) ?_
      refine VTS_pure rfl (P_move rfl) rfl rfl rfl ?_
      refine VTS_pure rfl (P_nilCheck rfl) rfl rfl rfl ?_
      refine VTS_pure rfl (P_fieldAddr fo31_1 rfl) rfl rfl rfl ?_
      refine VTS_read rfl (S_load sg4 rfl (hat.at_ rfl)) rfl rfl rfl ?_
      refine VTS_pure rfl (P_not rfl) rfl rfl rfl ?_
      refine VTS_pure rfl (P_move rfl) rfl rfl rfl ?_
      refine VTS_pure rfl (P_move rfl) rfl rfl rfl ?_
      refine VTS_pure rfl (P_nilCheck rfl) rfl rfl rfl ?_
      refine VTS_pure rfl (P_fieldAddr fo31_3 rfl) rfl rfl rfl ?_
      refine VTS_pure rfl (P_move rfl) rfl rfl rfl ?_
      refine VTS_pure rfl (P_nilCheck rfl) rfl rfl rfl ?_
      refine VTS_pure rfl (P_fieldAddr fo31_4 rfl) rfl rfl rfl ?_
      refine VTS_pure rfl (P_move rfl) rfl rfl rfl ?_
      refine VTS_pure rfl (P_nilCheck rfl) rfl rfl rfl ?_
      refine VTS_pure rfl (P_fieldAddr fo31_5 rfl) rfl rfl rfl ?_
      refine VTS_pure rfl (P_move rfl) rfl rfl rfl ?_
      refine VTS_pure rfl (P_nilCheck rfl) rfl rfl rfl ?_
      refine VTS_pure rfl (P_fieldAddr fo31_6 rfl) rfl rfl rfl ?_
      refine VTS_pure rfl (P_move rfl) rfl rfl rfl ?_
      refine VTS_pure rfl (P_nilCheck rfl) rfl rfl rfl ?_
      refine VTS_pure rfl (P_fieldAddr fo31_7 rfl) rfl rfl rfl ?_
      refine VTS_read rfl (S_load sg3 rfl (hat.at_ rfl)) rfl rfl rfl ?_
      refine VTS_read rfl (S_load sg3 rfl (hat.at_ rfl)) rfl rfl rfl ?_
      refine VTS_pure rfl ((P_add rfl rfl (w64 (by omega) (by omega)))) rfl rfl rfl ?_
      refine VTS_read rfl (S_load sg3 rfl (hat.at_ rfl)) rfl rfl rfl ?_
      refine VTS_pure rfl ((P_add rfl rfl (w64 (by omega) (by omega)))) rfl rfl rfl ?_
      refine VTS_read rfl (S_load sg3 rfl (hat.at_ rfl)) rfl rfl rfl ?_
      refine VTS_pure rfl ((P_add rfl rfl (w64 (by omega) (by omega)))) rfl rfl rfl ?_
      refine VTS_read rfl (S_load sg3 rfl (hat.at_ rfl)) rfl rfl rfl ?_
      refine VTS_pure rfl ((P_add rfl rfl (w64 (by omega) (by omega)))) rfl rfl rfl ?_
      refine VTS_pure rfl (dt (P_gtr rfl rfl) (by assumption)) rfl rfl rfl ?_
      refine VTS_pure rfl (P_move rfl) rfl rfl rfl ?_
      iterate 12 (refine VTS_skip rfl rfl rfl rfl rfl ?_)
      refine VTS_pure rfl (P_pick_t rfl rfl) rfl rfl rfl ?_
      refine VTS_pure rfl (P_pick_t rfl rfl) rfl rfl rfl ?_
      refine VTS_pure rfl (P_assign rfl) rfl rfl rfl ?_
      refine VTS_nil ?_
      refine QS_then ?_
      refine TS_true rfl ?_
      refine TS_seq ?_
      refine TS_region ?_
      refine VS_pure (P_assign rfl) rfl rfl rfl ?_
      refine VS_nil ?_
      refine QS_then ?_
      refine TS_ret ?_
      refine QS_block_ret ?_
      refine QS_then_ret ?_
      exact QS_ret [_] ⟨rfl, trivial⟩ [] (Pick.nil _) ⟨rfl, false, rfl, fun h => (by cases h), fun h => absurd ⟨rfl, .inl hs⟩ h.2.1⟩
    by_cases hs2 : x.dead.length + x.dawn.length > 0
    · refine VS_pure (P_move rfl) rfl rfl rfl ?_
      iterate 5 (refine VS_skip rfl rfl rfl ?_)
      refine VS_pure (P_pick_f rfl rfl) rfl rfl rfl ?_
      refine VS_pure (P_assign rfl) rfl rfl rfl ?_
      refine VS_nil ?_
      refine QS_then ?_
      refine TS_false rfl ?_
      refine TS_seq ?_
      refine TS_draw (.step 0 .pure (.step 1 .pure (.step 2 .pure (.step 3 .read (.step 4 .pure (.step 5 .pure (.step 6 .pure (.step 7 .pure (.step 8 .pure (.step 10 .pure (.step 11 .pure (.step 12 .pure (.step 15 .pure (.step 16 .pure (.step 17 .pure (.step 20 .pure (.step 21 .pure (.step 22 .pure (.step 25 .pure (.step 26 .pure (.step 27 .pure (.step 9 .read (.step 13 .read (.step 14 .pure (.step 18 .read (.step 19 .pure (.step 23 .read (.step 24 .pure (.step 28 .read (.step 29 .pure (.step 30 .pure (.step 31 .pure (.step 32 .pure (.step 33 .pure (.step 34 .pure (.step 37 .pure (.step 38 .pure (.step 39 .pure (.step 35 .read (.step 36 .pure (.step 40 .read (.step 41 .pure (.step 42 .pure (.step 43 .pure (.step 44 .pure (.step 45 .pure (.step 46 .pure (.done)))))))))))))))))))))))))))))))))))))))))))))))) mixed (by kernel_rfl) (fun _ _ _ _ hq => hq) ?_
      refine VTS_pure rfl (P_move rfl) rfl rfl rfl ?_
      refine VTS_pure rfl (P_nilCheck rfl) rfl rfl rfl ?_
      refine VTS_pure rfl (P_fieldAddr fo31_1 rfl) rfl rfl rfl ?_
      refine VTS_read rfl (S_load sg4 rfl (hat.at_ rfl)) rfl rfl rfl ?_
      refine VTS_pure rfl (P_not rfl) rfl rfl rfl ?_
      refine VTS_pure rfl (P_move rfl) rfl rfl rfl ?_
      refine VTS_pure rfl (P_move rfl) rfl rfl rfl ?_
      refine VTS_pure rfl (P_nilCheck rfl) rfl rfl rfl ?_
      refine VTS_pure rfl (P_fieldAddr fo31_3 rfl) rfl rfl rfl ?_
      refine VTS_pure rfl (P_move rfl) rfl rfl rfl ?_
      refine VTS_pure rfl (P_nilCheck rfl) rfl rfl rfl ?_
      refine VTS_pure rfl (P_fieldAddr fo31_4 rfl) rfl rfl rfl ?_
      refine VTS_pure rfl (P_move rfl) rfl rfl rfl ?_
      refine VTS_pure rfl (P_nilCheck rfl) rfl rfl rfl ?_
      refine VTS_pure rfl (P_fieldAddr fo31_5 rfl) rfl rfl rfl ?_
      refine VTS_pure rfl (P_move rfl) rfl rfl rfl ?_
      refine VTS_pure rfl (P_nilCheck rfl) rfl rfl rfl ?_
      refine VTS_pure rfl (P_fieldAddr fo31_6 rfl) rfl rfl rfl ?_
      refine VTS_pure rfl (P_move rfl) rfl rfl rfl ?_
      refine VTS_pure rfl (P_nilCheck rfl) rfl rfl rfl ?_
      refine VTS_pure rfl (P_fieldAddr fo31_7 rfl) rfl rfl rfl ?_
      refine VTS_read rfl (S_load sg3 rfl (hat.at_ rfl)) rfl rfl rfl ?_
      refine VTS_read rfl (S_load sg3 rfl (hat.at_ rfl)) rfl rfl rfl ?_
      refine VTS_pure rfl ((P_add rfl rfl (w64 (by omega) (by omega)))) rfl rfl rfl ?_
      refine VTS_read rfl (S_load sg3 rfl (hat.at_ rfl)) rfl rfl rfl ?_
      refine VTS_pure rfl ((P_add rfl rfl (w64 (by omega) (by omega)))) rfl rfl rfl ?_
      refine VTS_read rfl (S_load sg3 rfl (hat.at_ rfl)) rfl rfl rfl ?_
      refine VTS_pure rfl ((P_add rfl rfl (w64 (by omega) (by omega)))) rfl rfl rfl ?_
      refine VTS_read rfl (S_load sg3 rfl (hat.at_ rfl)) rfl rfl rfl ?_
      refine VTS_pure rfl ((P_add rfl rfl (w64 (by omega) (by omega)))) rfl rfl rfl ?_
      refine VTS_pure rfl (df (P_gtr rfl rfl) (by assumption)) rfl rfl rfl ?_
      refine VTS_pure rfl (P_move rfl) rfl rfl rfl ?_
      refine VTS_pure rfl (P_move rfl) rfl rfl rfl ?_
      refine VTS_pure rfl (P_nilCheck rfl) rfl rfl rfl ?_
      refine VTS_pure rfl (P_fieldAddr fo31_9 rfl) rfl rfl rfl ?_
      refine VTS_pure rfl (P_move rfl) rfl rfl rfl ?_
      refine VTS_pure rfl (P_nilCheck rfl) rfl rfl rfl ?_
      refine VTS_pure rfl (P_fieldAddr fo31_10 rfl) rfl rfl rfl ?_
      refine VTS_read rfl (S_load sg29 rfl (hat.at_ rfl)) rfl rfl rfl ?_
      refine VTS_pure rfl (P_len il29 rfl) rfl rfl rfl ?_
      refine VTS_read rfl (S_load sg29 rfl (hat.at_ rfl)) rfl rfl rfl ?_
      refine VTS_pure rfl (P_len il29 rfl) rfl rfl rfl ?_
      refine VTS_pure rfl (P_addN rfl rfl (by omega)) rfl rfl rfl ?_
      refine VTS_pure rfl (dt (P_gtr rfl rfl) (by omega)) rfl rfl rfl ?_
      refine VTS_pure rfl (P_pick_f rfl rfl) rfl rfl rfl ?_
      refine VTS_pure rfl (P_pick_t rfl rfl) rfl rfl rfl ?_
      refine VTS_pure rfl (P_assign rfl) rfl rfl rfl ?_
      refine VTS_nil ?_
      refine QS_then ?_
      refine TS_true rfl ?_
      refine TS_seq ?_
      refine TS_region ?_
      refine VS_pure (P_assign rfl) rfl rfl rfl ?_
      refine VS_nil ?_
      refine QS_then ?_
      refine TS_ret ?_
      refine QS_block_ret ?_
      refine QS_then_ret ?_
      exact QS_ret [_] ⟨rfl, trivial⟩ [] (Pick.nil _) ⟨rfl, false, rfl, fun h => (by cases h), fun h => absurd ⟨rfl, .inr hs2⟩ h.2.1⟩
    have HA : ¬ (false = true ∧ x.health < 1) := fun h => by cases h.1
    have HB : ¬ (false = false ∧ (x.power + x.health + x.shield + x.apow + x.aheal > 0 ∨ x.dead.length + x.dawn.length > 0)) := fun h => h.2.elim hs hs2
    refine VS_pure (P_move rfl) rfl rfl rfl ?_
    iterate 5 (refine VS_skip rfl rfl rfl ?_)
    refine VS_pure (P_pick_f rfl rfl) rfl rfl rfl ?_
    refine VS_pure (P_assign rfl) rfl rfl rfl ?_
    refine VS_nil ?_
    refine QS_then ?_
    refine TS_false rfl ?_
    refine TS_seq ?_
    refine TS_draw (.step 0 .pure (.step 1 .pure (.step 2 .pure (.step 3 .read (.step 4 .pure (.step 5 .pure (.step 6 .pure (.step 7 .pure (.step 8 .pure (.step 10 .pure (.step 11 .pure (.step 12 .pure (.step 15 .pure (.step 16 .pure (.step 17 .pure (.step 20 .pure (.step 21 .pure (.step 22 .pure (.step 25 .pure (.step 26 .pure (.step 27 .pure (.step 9 .read (.step 13 .read (.step 14 .pure (.step 18 .read (.step 19 .pure (.step 23 .read (.step 24 .pure (.step 28 .read (.step 29 .pure (.step 30 .pure (.step 31 .pure (.step 32 .pure (.step 33 .pure (.step 34 .pure (.step 37 .pure (.step 38 .pure (.step 39 .pure (.step 35 .read (.step 36 .pure (.step 40 .read (.step 41 .pure (.step 42 .pure (.step 43 .pure (.step 44 .pure (.step 45 .pure (.step 46 .pure (.done)))))))))))))))))))))))))))))))))))))))))))))))) mixed (by kernel_rfl) (fun _ _ _ _ hq => hq) ?_
    refine VTS_pure rfl (P_move rfl) rfl rfl rfl ?_
    refine VTS_pure rfl (P_nilCheck rfl) rfl rfl rfl ?_
    refine VTS_pure rfl (P_fieldAddr fo31_1 rfl) rfl rfl rfl ?_
    refine VTS_read rfl (S_load sg4 rfl (hat.at_ rfl)) rfl rfl rfl ?_
    refine VTS_pure rfl (P_not rfl) rfl rfl rfl ?_
    refine VTS_pure rfl (P_move rfl) rfl rfl rfl ?_
    refine VTS_pure rfl (P_move rfl) rfl rfl rfl ?_
    refine VTS_pure rfl (P_nilCheck rfl) rfl rfl rfl ?_
    refine VTS_pure rfl (P_fieldAddr fo31_3 rfl) rfl rfl rfl ?_
    refine VTS_pure rfl (P_move rfl) rfl rfl rfl ?_
    refine VTS_pure rfl (P_nilCheck rfl) rfl rfl rfl ?_
    refine VTS_pure rfl (P_fieldAddr fo31_4 rfl) rfl rfl rfl ?_
    refine VTS_pure rfl (P_move rfl) rfl rfl rfl ?_
    refine VTS_pure rfl (P_nilCheck rfl) rfl rfl rfl ?_
    refine VTS_pure rfl (P_fieldAddr fo31_5 rfl) rfl rfl rfl ?_
    refine VTS_pure rfl (P_move rfl) rfl rfl rfl ?_
    refine VTS_pure rfl (P_nilCheck rfl) rfl rfl rfl ?_
    refine VTS_pure rfl (P_fieldAddr fo31_6 rfl) rfl rfl rfl ?_
    refine VTS_pure rfl (P_move rfl) rfl rfl rfl ?_
    refine VTS_pure rfl (P_nilCheck rfl) rfl rfl rfl ?_
    refine VTS_pure rfl (P_fieldAddr fo31_7 rfl) rfl rfl rfl ?_
    refine VTS_read rfl (S_load sg3 rfl (hat.at_ rfl)) rfl rfl rfl ?_
    refine VTS_read rfl (S_load sg3 rfl (hat.at_ rfl)) rfl rfl rfl ?_
    refine VTS_pure rfl ((P_add rfl rfl (w64 (by omega) (by omega)))) rfl rfl rfl ?_
    refine VTS_read rfl (S_load sg3 rfl (hat.at_ rfl)) rfl rfl rfl ?_
    refine VTS_pure rfl ((P_add rfl rfl (w64 (by omega) (by omega)))) rfl rfl rfl ?_
    refine VTS_read rfl (S_load sg3 rfl (hat.at_ rfl)) rfl rfl rfl ?_
    refine VTS_pure rfl ((P_add rfl rfl (w64 (by omega) (by omega)))) rfl rfl rfl ?_
    refine VTS_read rfl (S_load sg3 rfl (hat.at_ rfl)) rfl rfl rfl ?_
    refine VTS_pure rfl ((P_add rfl rfl (w64 (by omega) (by omega)))) rfl rfl rfl ?_
    refine VTS_pure rfl (df (P_gtr rfl rfl) (by assumption)) rfl rfl rfl ?_
    refine VTS_pure rfl (P_move rfl) rfl rfl rfl ?_
    refine VTS_pure rfl (P_move rfl) rfl rfl rfl ?_
    refine VTS_pure rfl (P_nilCheck rfl) rfl rfl rfl ?_
    refine VTS_pure rfl (P_fieldAddr fo31_9 rfl) rfl rfl rfl ?_
    refine VTS_pure rfl (P_move rfl) rfl rfl rfl ?_
    refine VTS_pure rfl (P_nilCheck rfl) rfl rfl rfl ?_
    refine VTS_pure rfl (P_fieldAddr fo31_10 rfl) rfl rfl rfl ?_
    refine VTS_read rfl (S_load sg29 rfl (hat.at_ rfl)) rfl rfl rfl ?_
    refine VTS_pure rfl (P_len il29 rfl) rfl rfl rfl ?_
    refine VTS_read rfl (S_load sg29 rfl (hat.at_ rfl)) rfl rfl rfl ?_
    refine VTS_pure rfl (P_len il29 rfl) rfl rfl rfl ?_
    refine VTS_pure rfl (P_addN rfl rfl (by omega)) rfl rfl rfl ?_
    refine VTS_pure rfl (df (P_gtr rfl rfl) (by omega)) rfl rfl rfl ?_
    refine VTS_pure rfl (P_pick_f rfl rfl) rfl rfl rfl ?_
    refine VTS_pure rfl (P_pick_t rfl rfl) rfl rfl rfl ?_
    refine VTS_pure rfl (P_assign rfl) rfl rfl rfl ?_
    refine VTS_nil ?_
    refine QS_then ?_
    refine TS_false rfl ?_
    refine TS_skip ?_
    refine QS_block ?_
    refine QS_then ?_
    refine TS_seq ?_
    refine TS_region ?_
    refine VS_pure (P_move rfl) rfl rfl rfl ?_
    refine VS_pure (P_build zl55 pl55 rfl rfl) rfl rfl rfl ?_
    refine VS_step (S_box rfl rfl (fun b1 => ?_)) rfl
    refine VS_pure (P_assign rfl) rfl rfl rfl ?_
    refine VS_nil ?_
    refine QS_then ?_
    refine TS_seq ?_
    refine TS_seq ?_
    refine TS_region ?_
    refine VS_pure (P_move rfl) rfl rfl rfl ?_
    refine VS_pure (P_move rfl) rfl rfl rfl ?_
    refine VS_pure (P_nilCheck rfl) rfl rfl rfl ?_
    refine VS_pure (P_fieldAddr fo31_8 rfl) rfl rfl rfl ?_
    refine VS_read (S_load sg29 rfl (hat.at_ rfl)) rfl rfl rfl ?_
    refine VS_step ((S_call cl16 rfl (fun m1 hm1 he => list16 _ m1 A ca b1 1 ul true (hP.mono hm1) ⟨bm, mc_blk (HE0 he) rfl, mc_blk (HE0 he) rfl, hmap.mono hm1⟩ (by omega)) rfl ?_)) rfl
    rintro _ _ ⟨rfl, r, rfl, hr⟩
    cases r with
    | false =>
      refine VS_pure (P_not rfl) rfl rfl rfl ?_
      refine VS_nil ?_
      refine QS_then ?_
      refine TS_true rfl ?_
      refine TS_seq ?_
      refine TS_region ?_
      refine VS_pure (P_assign rfl) rfl rfl rfl ?_
      refine VS_nil ?_
      refine QS_then ?_
      refine TS_ret ?_
      refine QS_then_ret ?_
      exact QS_ret [_] ⟨rfl, trivial⟩ [] (Pick.nil _) ⟨rfl, false, rfl, fun h => (by cases h), fun h => absurd (hr.2 h.2.2.1) (by decide)⟩
    | true =>
    have hr1 := hr.1 rfl
    clear hr
    refine VS_pure (P_not rfl) rfl rfl rfl ?_
    refine VS_nil ?_
    refine QS_then ?_
    refine TS_false rfl ?_
    refine TS_skip ?_
    refine QS_then ?_
    refine TS_seq ?_
    refine TS_region ?_
    refine VS_pure (P_move rfl) rfl rfl rfl ?_
    refine VS_pure (P_nilCheck rfl) rfl rfl rfl ?_
    refine VS_pure (P_fieldAddr0 fo55_1 rfl) rfl rfl rfl ?_
    refine VS_step (S_store co4 rfl rfl rfl (.here) (.there (.here)) ?_) rfl
    refine VS_nil ?_
    refine QS_then ?_
    refine TS_seq ?_
    refine TS_region ?_
    refine VS_pure (P_move rfl) rfl rfl rfl ?_
    refine VS_pure (P_move rfl) rfl rfl rfl ?_
    refine VS_pure (P_nilCheck rfl) rfl rfl rfl ?_
    refine VS_pure (P_fieldAddr fo31_9 rfl) rfl rfl rfl ?_
    refine VS_read (S_load sg29 rfl (hat.at_ rfl)) rfl rfl rfl ?_
    refine VS_step ((S_call cl16 rfl (fun m1 hm1 he => list16 _ m1 B cb b1 1 ul false (hD.mono hm1) ⟨bm, mc_blk (HE0 he) rfl, mc_blk (HE0 he) rfl, hmap.mono hm1⟩ (by omega)) rfl ?_)) rfl
    rintro _ _ ⟨rfl, r, rfl, hr⟩
    cases r with
    | false =>
      refine VS_pure (P_move rfl) rfl rfl rfl ?_
      iterate 6 (refine VS_skip rfl rfl rfl ?_)
      refine VS_pure (P_pick_f rfl rfl) rfl rfl rfl ?_
      refine VS_pure (P_assign rfl) rfl rfl rfl ?_
      refine VS_nil ?_
      refine QS_then ?_
      refine TS_ret ?_
      exact QS_ret [_] ⟨rfl, trivial⟩ [] (Pick.nil _) ⟨rfl, false, rfl, fun h => (by cases h), fun h => absurd (hr.2 h.2.2.2.1) (by decide)⟩
    | true =>
    have hr2 := hr.1 rfl
    clear hr
    iterate 3 (refine VS_pure (P_move rfl) rfl rfl rfl ?_)
    refine VS_pure (P_nilCheck rfl) rfl rfl rfl ?_
    refine VS_pure (P_fieldAddr fo31_10 rfl) rfl rfl rfl ?_
    refine VS_read (S_load sg29 rfl (hat.at_ rfl)) rfl rfl rfl ?_
    refine VS_step ((S_call cl16 rfl (fun m1 hm1 he => list16 _ m1 D cd b1 1 ul false (hW.mono hm1) ⟨bm, mc_blk (HE0 he) rfl, mc_blk (HE0 he) rfl, hmap.mono hm1⟩ (by omega)) rfl ?_)) rfl
    rintro _ _ ⟨rfl, r, rfl, hr⟩
    refine VS_pure (P_pick_t rfl rfl) rfl rfl rfl ?_
    refine VS_pure (P_assign rfl) rfl rfl rfl ?_
    refine VS_nil ?_
    refine QS_then ?_
    refine TS_ret ?_
    exact QS_ret [_] ⟨rfl, trivial⟩ [] (Pick.nil _) ⟨rfl, r, rfl, fun h => ⟨HA, HB, hr1, hr2, hr.1 h⟩, fun h => hr.2 h.2.2.2.2⟩
end Go.Proofs.YtbghonkgflolaaaDoor
