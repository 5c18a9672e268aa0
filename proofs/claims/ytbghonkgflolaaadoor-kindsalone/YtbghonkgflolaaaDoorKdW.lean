/- A part of the proof: contracts of functions of the program. No condition. -/
import Derived.Test.YtbghonkgflolaaaDoorKdV
namespace Go.Proofs.YtbghonkgflolaaaDoor
open Go.Eng Wd Kd
set_option maxRecDepth 100000
theorem capW_small {n : Nat} (h : capW n ≤ 3000) : n ≤ 3000 := by unfold capW at h; omega
set_option maxHeartbeats 16000000 in
theorem Great4 {m : Mp} {A : Option Addr} {cap : Nat} {cards : List CardT} (hc : CardsR m A cards.length cards) :
    CS Tryd.prog 4 [.slice A cards.length cap] m [] (fun v L' => L' = [] ∧ ∃ r, v = .bool r ∧ (r = false → cards.length ≤ 250 ∧ ∀ (i : Nat) (h : i < cards.length), cards[i].name.length ≤ 2000 ∧ cardW cards[i] ≤ 3999)) := by
  obtain ⟨-, hml, vs, hrd, hvl, hel⟩ := hc
  unfold maxLen at hml
  refine CS_of [.tmp 2] Tryd.func4 rfl rfl rfl ?_
  refine TS_seq ?_
  refine TS_region ?_
  refine VS_pure (P_assign rfl) rfl rfl rfl ?_
  refine VS_nil ?_
  refine QS_then ?_
  refine TS_seq ?_
  refine TS_region ?_
  refine VS_pure (P_assign rfl) rfl rfl rfl ?_
  refine VS_nil ?_
  refine QS_then ?_
  refine TS_seq ?_
  refine TS_seq ?_
  refine TS_region ?_
  refine VS_pure (P_move rfl) rfl rfl rfl ?_
  refine VS_pure (P_len il22 rfl) rfl rfl rfl ?_
  refine VS_pure (P_move rfl) rfl rfl rfl ?_
  refine VS_nil ?_
  refine QS_then ?_
  refine TS_block ?_
  refine TS_loop (α := Nat × Int) (fun y => [(0, .slice A cards.length cap), (3, .int .i64 y.2), (6, .int .i64 (cards.length : Nat)), (7, .int .i64 (y.1 : Nat))]) (fun _ => []) (fun y => y.1 ≤ cards.length ∧ 0 ≤ y.2 ∧ y.2 ≤ 3000 ∧ ∀ (j : Nat) (h : j < cards.length), j < y.1 → cards[j].name.length ≤ 2000 ∧ cardW cards[j] ≤ 3999) (fun y => cards.length - y.1) (0, 0) ⟨rfl, rfl, rfl, rfl, trivial⟩ (Pick.refl _) ⟨Nat.zero_le _, by decide, by decide, fun _ _ h => by cases h⟩ ?_
  rintro ⟨i, z⟩ ⟨hi, hz0, hz1, hdone⟩
  dsimp only at hi hz0 hz1 hdone
  dsimp only
  by_cases hlt : i < cards.length
  rotate_left
  · by_cases h250 : cards.length ≤ 250
    · refine TS_seq ?_
      refine TS_region ?_
      refine VS_pure (df (P_lss rfl rfl) (by omega)) rfl rfl rfl ?_
      refine VS_nil ?_
      refine QS_then ?_
      refine TS_seq ?_
      refine TS_false rfl ?_
      refine TS_exit ?_
      refine QS_then_exit ?_
      refine QS_round_exit ?_
      refine QS_block_here ?_
      refine QS_then ?_
      refine TS_seq ?_
      refine TS_region ?_
      refine VS_pure (P_move rfl) rfl rfl rfl ?_
      refine VS_pure (P_len il22 rfl) rfl rfl rfl ?_
      refine VS_pure (df (P_gtr rfl rfl) (by omega)) rfl rfl rfl ?_
      refine VS_pure (P_assign rfl) rfl rfl rfl ?_
      refine VS_nil ?_
      refine QS_then ?_
      refine TS_ret ?_
      exact QS_ret [_] ⟨rfl, trivial⟩ [] (Pick.nil _) ⟨rfl, _, rfl, fun _ => ⟨h250, fun j h => hdone j h (by omega)⟩⟩
    · refine TS_seq ?_
      refine TS_region ?_
      refine VS_pure (df (P_lss rfl rfl) (by omega)) rfl rfl rfl ?_
      refine VS_nil ?_
      refine QS_then ?_
      refine TS_seq ?_
      refine TS_false rfl ?_
      refine TS_exit ?_
      refine QS_then_exit ?_
      refine QS_round_exit ?_
      refine QS_block_here ?_
      refine QS_then ?_
      refine TS_seq ?_
      refine TS_region ?_
      refine VS_pure (P_move rfl) rfl rfl rfl ?_
      refine VS_pure (P_len il22 rfl) rfl rfl rfl ?_
      refine VS_pure (dt (P_gtr rfl rfl) (by omega)) rfl rfl rfl ?_
      refine VS_pure (P_assign rfl) rfl rfl rfl ?_
      refine VS_nil ?_
      refine QS_then ?_
      refine TS_ret ?_
      exact QS_ret [_] ⟨rfl, trivial⟩ [] (Pick.nil _) ⟨rfl, true, rfl, fun h => (by cases h)⟩
  have hA : A.isSome = true := hrd.isSome (by omega)
  have hx := hel i hlt
  have hat := hrd.elem (i * 12) 12
  have hnext : cards[i].name.length ≤ 2000 ∧ cardW cards[i] ≤ 3999 → ∀ (j : Nat) (h : j < cards.length), j < i + 1 → cards[j].name.length ≤ 2000 ∧ cardW cards[j] ≤ 3999 := fun h2 j h hj => by
    by_cases hji : j < i
    · exact hdone j h hji
    · obtain rfl : j = i := by omega
      exact h2
  generalize cards[i] = x at hx hnext
  generalize (vs.drop (i * 12)).take 12 = cs at hx hat
  have hx0 := hx
  obtain ⟨PA, la, ca, PB, lb, cb, PD, ld, cd, rfl, hnl, -⟩ := hx
  unfold maxLen at hnl
  have hw := capW_le (cardW x)
  have hsm := @capW_small (cardW x)
  refine TS_seq ?_
  refine TS_region ?_
  refine VS_pure (dt (P_lss rfl rfl) (by omega)) rfl rfl rfl ?_
  refine VS_nil ?_
  refine QS_then ?_
  refine TS_seq ?_
  refine TS_true rfl ?_
  refine TS_skip ?_
  refine QS_then ?_
  refine TS_seq ?_
  refine TS_block ?_
  refine TS_seq ?_
  refine TS_region ?_
  refine VS_pure (P_move rfl) rfl rfl rfl ?_
  refine VS_pure (P_assign rfl) rfl rfl rfl ?_
  refine VS_nil ?_
  refine QS_then ?_
  refine TS_seq ?_
  refine TS_region ?_
  iterate 3 (refine VS_pure (P_move rfl) rfl rfl rfl ?_)
  refine VS_pure (P_indexAddrN ez22 rfl rfl hA (by omega)) rfl rfl rfl ?_
  refine VS_read (S_loadAt ag31 rfl rfl hat) rfl rfl rfl ?_
  refine VS_step (S_callR cl8 rfl (fun m' hm he => (Weight8 (hx0.mono hm))) rfl ?_) rfl
  rintro _ rfl
  unfold iV
  generalize capW (cardW x) = w at hw hsm
  skip
  refine VS_pure ((P_add rfl rfl (w64 (by omega) (by omega)))) rfl rfl rfl ?_
  have hout : ∀ r : Bool, (r = false → cards.length ≤ 250 ∧ ∀ (i : Nat) (h : i < cards.length), cards[i].name.length ≤ 2000 ∧ cardW cards[i] ≤ 3999) → True := fun _ _ => trivial
  by_cases h3 : z + w ≤ 3000
  rotate_left
  · refine VS_pure (P_assign rfl) rfl rfl rfl ?_
    refine VS_nil ?_
    refine QS_then ?_
    refine TS_seq ?_
    refine TS_region ?_
    refine VS_pure (P_move rfl) rfl rfl rfl ?_
    refine VS_pure (dt (P_gtr rfl rfl) (by omega)) rfl rfl rfl ?_
    refine VS_pure (P_move rfl) rfl rfl rfl ?_
    iterate 7 (refine VS_skip rfl rfl rfl ?_)
    refine VS_pure (P_pick_t rfl rfl) rfl rfl rfl ?_
    refine VS_pure (P_move rfl) rfl rfl rfl ?_
    iterate 7 (refine VS_skip rfl rfl rfl ?_)
    refine VS_pure (P_pick_t rfl rfl) rfl rfl rfl ?_
    refine VS_nil ?_
    refine QS_then ?_
    refine TS_true rfl ?_
    refine TS_seq ?_
    refine TS_region ?_
    refine VS_pure (P_assign rfl) rfl rfl rfl ?_
    refine VS_nil ?_
    refine QS_then ?_
    refine TS_ret ?_
    refine QS_block_ret ?_
    refine QS_then_ret ?_
    refine QS_round_ret ?_
    refine QS_block_ret ?_
    refine QS_then_ret ?_
    exact QS_ret [_] ⟨rfl, trivial⟩ [] (Pick.nil _) ⟨rfl, true, rfl, fun h => (by cases h)⟩
  by_cases hn2 : x.name.length ≤ 2000
  rotate_left
  · refine VS_pure (P_assign rfl) rfl rfl rfl ?_
    refine VS_nil ?_
    refine QS_then ?_
    refine TS_seq ?_
    refine TS_region ?_
    refine VS_pure (P_move rfl) rfl rfl rfl ?_
    refine VS_pure (df (P_gtr rfl rfl) (by omega)) rfl rfl rfl ?_
    iterate 3 (refine VS_pure (P_move rfl) rfl rfl rfl ?_)
    refine VS_pure (P_indexAddrN ez22 rfl rfl hA (by omega)) rfl rfl rfl ?_
    refine VS_pure (P_fieldAddr fo31_0 rfl) rfl rfl rfl ?_
    refine VS_read (S_load sg9 rfl (hat.at_ rfl)) rfl rfl rfl ?_
    refine VS_pure (P_len_str rfl st9) rfl rfl rfl ?_
    refine VS_pure (dt (P_gtr rfl rfl) (by omega)) rfl rfl rfl ?_
    refine VS_pure (P_pick_f rfl rfl) rfl rfl rfl ?_
    refine VS_pure (P_move rfl) rfl rfl rfl ?_
    iterate 7 (refine VS_skip rfl rfl rfl ?_)
    refine VS_pure (P_pick_t rfl rfl) rfl rfl rfl ?_
    refine VS_nil ?_
    refine QS_then ?_
    refine TS_true rfl ?_
    refine TS_seq ?_
    refine TS_region ?_
    refine VS_pure (P_assign rfl) rfl rfl rfl ?_
    refine VS_nil ?_
    refine QS_then ?_
    refine TS_ret ?_
    refine QS_block_ret ?_
    refine QS_then_ret ?_
    refine QS_round_ret ?_
    refine QS_block_ret ?_
    refine QS_then_ret ?_
    exact QS_ret [_] ⟨rfl, trivial⟩ [] (Pick.nil _) ⟨rfl, true, rfl, fun h => (by cases h)⟩
  have hgo := hnext ⟨hn2, by have := hsm (by omega); omega⟩
  by_cases h60 : i ≤ 60
  · refine VS_pure (P_assign rfl) rfl rfl rfl ?_
    refine VS_nil ?_
    refine QS_then ?_
    refine TS_seq ?_
    refine TS_region ?_
    refine VS_pure (P_move rfl) rfl rfl rfl ?_
    refine VS_pure (df (P_gtr rfl rfl) (by omega)) rfl rfl rfl ?_
    iterate 3 (refine VS_pure (P_move rfl) rfl rfl rfl ?_)
    refine VS_pure (P_indexAddrN ez22 rfl rfl hA (by omega)) rfl rfl rfl ?_
    refine VS_pure (P_fieldAddr fo31_0 rfl) rfl rfl rfl ?_
    refine VS_read (S_load sg9 rfl (hat.at_ rfl)) rfl rfl rfl ?_
    refine VS_pure (P_len_str rfl st9) rfl rfl rfl ?_
    refine VS_pure (df (P_gtr rfl rfl) (by omega)) rfl rfl rfl ?_
    refine VS_pure (P_pick_f rfl rfl) rfl rfl rfl ?_
    refine VS_pure (P_move rfl) rfl rfl rfl ?_
    refine VS_pure (P_move rfl) rfl rfl rfl ?_
    refine VS_pure (df (P_gtr rfl rfl) (by omega)) rfl rfl rfl ?_
    refine VS_pure (P_move rfl) rfl rfl rfl ?_
    iterate 3 (refine VS_skip rfl rfl rfl ?_)
    refine VS_pure (P_pick_f rfl rfl) rfl rfl rfl ?_
    refine VS_pure (P_pick_f rfl rfl) rfl rfl rfl ?_
    refine VS_nil ?_
    refine QS_then ?_
    refine TS_false rfl ?_
    refine TS_skip ?_
    refine QS_block ?_
    refine QS_then ?_
    refine TS_region ?_
    refine VS_pure (P_add rfl rfl (w64 (by omega) (by omega))) rfl rfl rfl ?_
    refine VS_pure (P_move rfl) rfl rfl rfl ?_
    refine VS_nil ?_
    exact QS_round (i + 1, z + w) ⟨rfl, rfl, rfl, rfl, trivial⟩ (Pick.refl _) ⟨hlt, by dsimp only; omega, h3, hgo⟩ (by dsimp only; omega)
  by_cases h240 : cards.length ≤ 240
  · refine VS_pure (P_assign rfl) rfl rfl rfl ?_
    refine VS_nil ?_
    refine QS_then ?_
    refine TS_seq ?_
    refine TS_region ?_
    refine VS_pure (P_move rfl) rfl rfl rfl ?_
    refine VS_pure (df (P_gtr rfl rfl) (by omega)) rfl rfl rfl ?_
    iterate 3 (refine VS_pure (P_move rfl) rfl rfl rfl ?_)
    refine VS_pure (P_indexAddrN ez22 rfl rfl hA (by omega)) rfl rfl rfl ?_
    refine VS_pure (P_fieldAddr fo31_0 rfl) rfl rfl rfl ?_
    refine VS_read (S_load sg9 rfl (hat.at_ rfl)) rfl rfl rfl ?_
    refine VS_pure (P_len_str rfl st9) rfl rfl rfl ?_
    refine VS_pure (df (P_gtr rfl rfl) (by omega)) rfl rfl rfl ?_
    refine VS_pure (P_pick_f rfl rfl) rfl rfl rfl ?_
    refine VS_pure (P_move rfl) rfl rfl rfl ?_
    refine VS_pure (P_move rfl) rfl rfl rfl ?_
    refine VS_pure (dt (P_gtr rfl rfl) (by omega)) rfl rfl rfl ?_
    refine VS_pure (P_move rfl) rfl rfl rfl ?_
    refine VS_pure (P_move rfl) rfl rfl rfl ?_
    refine VS_pure (P_len il22 rfl) rfl rfl rfl ?_
    refine VS_pure (dt (P_leq rfl rfl) (by omega)) rfl rfl rfl ?_
    refine VS_pure (P_pick_t rfl rfl) rfl rfl rfl ?_
    refine VS_pure (P_pick_f rfl rfl) rfl rfl rfl ?_
    refine VS_nil ?_
    refine QS_then ?_
    refine TS_true rfl ?_
    refine TS_seq ?_
    refine TS_region ?_
    refine VS_pure (P_assign rfl) rfl rfl rfl ?_
    refine VS_nil ?_
    refine QS_then ?_
    refine TS_ret ?_
    refine QS_block_ret ?_
    refine QS_then_ret ?_
    refine QS_round_ret ?_
    refine QS_block_ret ?_
    refine QS_then_ret ?_
    exact QS_ret [_] ⟨rfl, trivial⟩ [] (Pick.nil _) ⟨rfl, true, rfl, fun h => (by cases h)⟩
  · refine VS_pure (P_assign rfl) rfl rfl rfl ?_
    refine VS_nil ?_
    refine QS_then ?_
    refine TS_seq ?_
    refine TS_region ?_
    refine VS_pure (P_move rfl) rfl rfl rfl ?_
    refine VS_pure (df (P_gtr rfl rfl) (by omega)) rfl rfl rfl ?_
    iterate 3 (refine VS_pure (P_move rfl) rfl rfl rfl ?_)
    refine VS_pure (P_indexAddrN ez22 rfl rfl hA (by omega)) rfl rfl rfl ?_
    refine VS_pure (P_fieldAddr fo31_0 rfl) rfl rfl rfl ?_
    refine VS_read (S_load sg9 rfl (hat.at_ rfl)) rfl rfl rfl ?_
    refine VS_pure (P_len_str rfl st9) rfl rfl rfl ?_
    refine VS_pure (df (P_gtr rfl rfl) (by omega)) rfl rfl rfl ?_
    refine VS_pure (P_pick_f rfl rfl) rfl rfl rfl ?_
    refine VS_pure (P_move rfl) rfl rfl rfl ?_
    refine VS_pure (P_move rfl) rfl rfl rfl ?_
    refine VS_pure (dt (P_gtr rfl rfl) (by omega)) rfl rfl rfl ?_
    refine VS_pure (P_move rfl) rfl rfl rfl ?_
    refine VS_pure (P_move rfl) rfl rfl rfl ?_
    refine VS_pure (P_len il22 rfl) rfl rfl rfl ?_
    refine VS_pure (df (P_leq rfl rfl) (by omega)) rfl rfl rfl ?_
    refine VS_pure (P_pick_t rfl rfl) rfl rfl rfl ?_
    refine VS_pure (P_pick_f rfl rfl) rfl rfl rfl ?_
    refine VS_nil ?_
    refine QS_then ?_
    refine TS_false rfl ?_
    refine TS_skip ?_
    refine QS_block ?_
    refine QS_then ?_
    refine TS_region ?_
    refine VS_pure (P_add rfl rfl (w64 (by omega) (by omega))) rfl rfl rfl ?_
    refine VS_pure (P_move rfl) rfl rfl rfl ?_
    refine VS_nil ?_
    exact QS_round (i + 1, z + w) ⟨rfl, rfl, rfl, rfl, trivial⟩ (Pick.refl _) ⟨hlt, by dsimp only; omega, h3, hgo⟩ (by dsimp only; omega)
end Go.Proofs.YtbghonkgflolaaaDoor
