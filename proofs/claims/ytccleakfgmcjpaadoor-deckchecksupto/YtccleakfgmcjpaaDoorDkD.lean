/- A part of the proof: contracts of functions of the program. No condition. -/
import Derived.Test.YtccleakfgmcjpaaDoorDkC
namespace Go.Proofs.YtccleakfgmcjpaaDoor
open Go.Eng Dk
set_option maxRecDepth 100000
set_option maxHeartbeats 4000000 in
theorem Find_ok {m : Mp} {bv : List Value} {b : BkT} (hb : BkR m bv b) (s : List UInt8) : CS Tryd.prog 25 [.agg bv.toArray, sV s] m [] (Gives (.tuple [iV (ix0 (ix s (names b))), .bool (ix s (names b)).isSome].toArray)) := by
  obtain ⟨A, c, F, k, rfl, hc, hf⟩ := hb
  have FI := fun m' (hm : Le m m') b1 hb1 => first38 (c := c) (m := m') (s := s) (b := b1) hm hc hb1
  refine CS_of [.tmp 4, .tmp 5] Tryd.func25 rfl rfl rfl ?_
  refine TS_seq ?_
  refine TS_region ?_
  refine VS_step (S_box rfl rfl (fun b1 => ?_)) rfl
  refine VS_step (S_box rfl rfl (fun b2 => ?_)) rfl
  refine VS_pure (P_assign rfl) rfl rfl rfl ?_
  refine VS_pure (P_assign rfl) rfl rfl rfl ?_
  refine VS_nil ?_
  refine QS_then ?_
  refine TS_seq ?_
  refine TS_region ?_
  refine VS_pure (P_fieldAddr0 fo25_0 rfl) rfl rfl rfl ?_
  refine VS_read (S_loadB sg22 rfl (.there (.here)) rfl) rfl rfl rfl ?_
  refine VS_pure (P_makeFunc rfl rfl) rfl rfl rfl ?_
  refine VS_step ((S_call cl38 rfl (fun m' hm he => FI m' hm b2 (mc_blk (he _ List.mem_cons_self) rfl)) rfl ?_)) rfl
  rintro _ _ ⟨rfl, ⟨hi, rfl⟩ | ⟨i, hi, cs, hx, hr, rfl⟩⟩
  · refine VS_pure (P_move rfl) rfl rfl rfl ?_
    iterate 3 (refine VS_pure (P_extract rfl rfl) rfl rfl rfl ?_)
    refine VS_step (S_alloc zl69 rfl (fun b3 => ?_)) rfl
    refine VS_step (S_storeAgg ag69 rfl rfl rfl (.here) rfl rfl ?_) rfl
    refine VS_pure (P_assign rfl) rfl rfl rfl ?_
    refine VS_pure (P_assign rfl) rfl rfl rfl ?_
    refine VS_nil ?_
    refine QS_then ?_
    refine TS_seq ?_
    refine TS_region ?_
    refine VS_pure (P_move rfl) rfl rfl rfl ?_
    refine VS_pure (P_move rfl) rfl rfl rfl ?_
    refine VS_pure (P_assign rfl) rfl rfl rfl ?_
    refine VS_pure (P_assign rfl) rfl rfl rfl ?_
    refine VS_nil ?_
    refine QS_then ?_
    refine TS_ret ?_
    exact QS_ret [_, _] ⟨rfl, rfl, trivial⟩ [] (Pick.nil _) ⟨by rw [show ix s (names b) = none from hi]; rfl, rfl⟩
  · obtain ⟨u, a1, a2, a3, a4, a5, a6, A1, la, ca, B, lb, cb, D, ld, cd, z, rfl⟩ := CardR.form hr
    refine VS_pure (P_move rfl) rfl rfl rfl ?_
    iterate 3 (refine VS_pure (P_extract rfl rfl) rfl rfl rfl ?_)
    refine VS_step (S_alloc zl69 rfl (fun b3 => ?_)) rfl
    refine VS_step (S_storeAgg ag69 rfl rfl rfl (.here) rfl rfl ?_) rfl
    refine VS_pure (P_assign rfl) rfl rfl rfl ?_
    refine VS_pure (P_assign rfl) rfl rfl rfl ?_
    refine VS_nil ?_
    refine QS_then ?_
    refine TS_seq ?_
    refine TS_region ?_
    refine VS_pure (P_move rfl) rfl rfl rfl ?_
    refine VS_pure (P_move rfl) rfl rfl rfl ?_
    refine VS_pure (P_assign rfl) rfl rfl rfl ?_
    refine VS_pure (P_assign rfl) rfl rfl rfl ?_
    refine VS_nil ?_
    refine QS_then ?_
    refine TS_ret ?_
    exact QS_ret [_, _] ⟨rfl, rfl, trivial⟩ [] (Pick.nil _) ⟨by rw [show ix s (names b) = some i from hx]; rfl, rfl⟩
set_option maxHeartbeats 4000000 in
theorem rFind_ok {m : Mp} {bv : List Value} {b : BkT} (hb : BkR m bv b) (s : List UInt8) : CS Tryd.prog 29 [.agg bv.toArray, sV s] m [] (Gives (.tuple [iV (ix0 (ix s (names b))), .bool (ix s (names b)).isSome].toArray)) := by
  obtain ⟨A, c, F, k, rfl, hl, hf⟩ := hb
  obtain ⟨_, q2, vs, q3, q4, q5⟩ := hl
  have q2 : b.cards.length ≤ 9223372036854775807 := q2
  have hnl : (names b).length = b.cards.length := by simp [names]
  refine CS_of [.tmp 4, .tmp 5] Tryd.func29 rfl rfl rfl ?_
  refine TS_seq ?_
  refine TS_region ?_
  refine VS_step (S_box rfl rfl (fun b1 => ?_)) rfl
  refine VS_pure (P_assign rfl) rfl rfl rfl ?_
  refine VS_pure (P_assign rfl) rfl rfl rfl ?_
  refine VS_nil ?_
  refine QS_then ?_
  refine TS_seq ?_
  refine TS_seq ?_
  refine TS_region ?_
  refine VS_pure (P_assign rfl) rfl rfl rfl ?_
  refine VS_nil ?_
  refine QS_then ?_
  refine TS_block ?_
  refine TS_loop (α := Nat) (fun i => [(1, sV s), (2, .pointer (some ⟨b1, 0, none⟩)), (6, .int .i64 (i : Nat))]) (fun _ => [cel b1 [.slice A b.cards.length c, .slice F b.fmts.length k] 25]) (fun i => i ≤ b.cards.length ∧ ∀ j (hj : j < b.cards.length), j < i → b.cards[j].name ≠ s) (fun i => b.cards.length - i) 0 ⟨rfl, rfl, rfl, trivial⟩ (Pick.refl _) ⟨Nat.zero_le _, fun j hj h => by omega⟩ ?_
  rintro i ⟨hi, hn⟩
  by_cases hlt : i < b.cards.length
  · have hA : A.isSome = true := q3.isSome (by omega)
    have hcard := q5 i hlt
    have hat := q3.elem (i * 12) 12
    obtain ⟨u, a1, a2, a3, a4, a5, a6, A1, la, ca, B, lb, cb, D, ld, cd, z, hc⟩ := CardR.form hcard
    rw [hc] at hat
    by_cases he : b.cards[i].name = s
    · rw [he] at hat
      refine TS_seq ?_
      refine TS_seq ?_
      refine TS_region ?_
      refine VS_pure (P_move rfl) rfl rfl rfl ?_
      refine VS_pure (P_fieldAddr0 fo25_0 rfl) rfl rfl rfl ?_
      refine VS_read (S_loadB sg22 rfl (.here) rfl) rfl rfl rfl ?_
      refine VS_pure (P_len il22 rfl) rfl rfl rfl ?_
      refine VS_pure (dt (P_lss rfl rfl) (by omega)) rfl rfl rfl ?_
      refine VS_nil ?_
      refine QS_then ?_
      refine TS_true rfl ?_
      refine TS_skip ?_
      refine QS_then ?_
      refine TS_seq ?_
      refine TS_block ?_
      refine TS_seq ?_
      refine TS_region ?_
      refine VS_pure (P_fieldAddr0 fo25_0 rfl) rfl rfl rfl ?_
      refine VS_read (S_loadB sg22 rfl (.here) rfl) rfl rfl rfl ?_
      refine VS_pure (P_move rfl) rfl rfl rfl ?_
      refine VS_pure (P_indexAddrN ez22 rfl rfl hA (by omega)) rfl rfl rfl ?_
      refine VS_pure (P_fieldAddr fo69_0 rfl) rfl rfl rfl ?_
      refine VS_read (S_load sg9 rfl (hat.at_ rfl)) rfl rfl rfl ?_
      refine VS_pure (P_move rfl) rfl rfl rfl ?_
      refine VS_pure (dt (P_seql rfl rfl) rfl) rfl rfl rfl ?_
      refine VS_nil ?_
      refine QS_then ?_
      refine TS_true rfl ?_
      refine TS_seq ?_
      refine TS_region ?_
      refine VS_pure (P_move rfl) rfl rfl rfl ?_
      refine VS_pure (P_assign rfl) rfl rfl rfl ?_
      refine VS_pure (P_assign rfl) rfl rfl rfl ?_
      refine VS_nil ?_
      refine QS_then ?_
      refine TS_ret ?_
      refine QS_block_ret ?_
      refine QS_then_ret ?_
      refine QS_round_ret ?_
      refine QS_block_ret ?_
      refine QS_then_ret ?_
      exact QS_ret [_, _] ⟨rfl, rfl, trivial⟩ [] (Pick.nil _) ⟨by rw [ix_some (i := i) (by omega) (by unfold names; rw [List.getElem_map]; exact he) (fun j hj => by unfold names; rw [List.getElem_map]; exact hn j (by omega) hj)]; rfl, rfl⟩
    · refine TS_seq ?_
      refine TS_seq ?_
      refine TS_region ?_
      refine VS_pure (P_move rfl) rfl rfl rfl ?_
      refine VS_pure (P_fieldAddr0 fo25_0 rfl) rfl rfl rfl ?_
      refine VS_read (S_loadB sg22 rfl (.here) rfl) rfl rfl rfl ?_
      refine VS_pure (P_len il22 rfl) rfl rfl rfl ?_
      refine VS_pure (dt (P_lss rfl rfl) (by omega)) rfl rfl rfl ?_
      refine VS_nil ?_
      refine QS_then ?_
      refine TS_true rfl ?_
      refine TS_skip ?_
      refine QS_then ?_
      refine TS_seq ?_
      refine TS_block ?_
      refine TS_seq ?_
      refine TS_region ?_
      refine VS_pure (P_fieldAddr0 fo25_0 rfl) rfl rfl rfl ?_
      refine VS_read (S_loadB sg22 rfl (.here) rfl) rfl rfl rfl ?_
      refine VS_pure (P_move rfl) rfl rfl rfl ?_
      refine VS_pure (P_indexAddrN ez22 rfl rfl hA (by omega)) rfl rfl rfl ?_
      refine VS_pure (P_fieldAddr fo69_0 rfl) rfl rfl rfl ?_
      refine VS_read (S_load sg9 rfl (hat.at_ rfl)) rfl rfl rfl ?_
      refine VS_pure (P_move rfl) rfl rfl rfl ?_
      refine VS_pure (df (P_seql rfl rfl) (by assumption)) rfl rfl rfl ?_
      refine VS_nil ?_
      refine QS_then ?_
      refine TS_false rfl ?_
      refine TS_skip ?_
      refine QS_block ?_
      refine QS_then ?_
      refine TS_region ?_
      refine VS_pure (P_move rfl) rfl rfl rfl ?_
      refine VS_pure (P_add rfl rfl (w64 (by omega) (by omega))) rfl rfl rfl ?_
      refine VS_pure (P_assign rfl) rfl rfl rfl ?_
      refine VS_nil ?_
      exact QS_round (i + 1) ⟨rfl, rfl, rfl, trivial⟩ (Pick.refl _) ⟨hlt, fun j hj h => by
        by_cases hji : j = i
        · subst hji; exact he
        · exact hn j hj (by omega)⟩ (by omega)
  · refine TS_seq ?_
    refine TS_seq ?_
    refine TS_region ?_
    refine VS_pure (P_move rfl) rfl rfl rfl ?_
    refine VS_pure (P_fieldAddr0 fo25_0 rfl) rfl rfl rfl ?_
    refine VS_read (S_loadB sg22 rfl (.here) rfl) rfl rfl rfl ?_
    refine VS_pure (P_len il22 rfl) rfl rfl rfl ?_
    refine VS_pure (df (P_lss rfl rfl) (by omega)) rfl rfl rfl ?_
    refine VS_nil ?_
    refine QS_then ?_
    refine TS_false rfl ?_
    refine TS_exit ?_
    refine QS_then_exit ?_
    refine QS_round_exit ?_
    refine QS_block_here ?_
    refine QS_then ?_
    refine TS_seq ?_
    refine TS_region ?_
    refine VS_pure (P_assign rfl) rfl rfl rfl ?_
    refine VS_pure (P_assign rfl) rfl rfl rfl ?_
    refine VS_nil ?_
    refine QS_then ?_
    refine TS_ret ?_
    exact QS_ret [_, _] ⟨rfl, rfl, trivial⟩ [] (Pick.nil _) ⟨by rw [ix_none (fun j hj => by simpa [names] using hn j (by omega) (by omega))]; rfl, rfl⟩
set_option maxHeartbeats 4000000 in
theorem Index_ok {m : Mp} {A : Option Addr} {c : Nat} {xs : List (List UInt8)} (hx : StrsR m A xs) (s : List UInt8) : CS Tryd.prog 40 [.slice A xs.length c, sV s] m [] (Gives (.int .i64 (ixI (ix s xs)))) := by
  obtain ⟨q3, q2⟩ := hx
  refine CS_of [.tmp 4] Tryd.func40 rfl rfl rfl ?_
  refine TS_seq ?_
  refine TS_region ?_
  refine VS_pure (P_assign rfl) rfl rfl rfl ?_
  refine VS_nil ?_
  refine QS_then ?_
  refine TS_seq ?_
  refine TS_seq ?_
  refine TS_region ?_
  refine VS_pure (P_move rfl) rfl rfl rfl ?_
  refine VS_pure (P_len il26 rfl) rfl rfl rfl ?_
  refine VS_pure (P_move rfl) rfl rfl rfl ?_
  refine VS_nil ?_
  refine QS_then ?_
  refine TS_block ?_
  refine TS_loop (α := Nat) (fun i => [(0, .slice A xs.length c), (1, sV s), (7, .int .i64 (xs.length : Nat)), (8, .int .i64 (i : Nat))]) (fun _ => []) (fun i => i ≤ xs.length ∧ ∀ j (hj : j < xs.length), j < i → xs[j] ≠ s) (fun i => xs.length - i) 0 ⟨rfl, rfl, rfl, rfl, trivial⟩ (Pick.refl _) ⟨Nat.zero_le _, fun j hj h => by omega⟩ ?_
  rintro i ⟨hi, hn⟩
  by_cases hlt : i < xs.length
  · have hA : A.isSome = true := q3.isSome (by simp; omega)
    have hat : mc m ((sa A).add i) = some (sV xs[i]) := q3.at_ (by simp [hlt])
    by_cases he : xs[i] = s
    · rw [he] at hat
      refine TS_seq ?_
      refine TS_region ?_
      refine VS_pure (dt (P_lss rfl rfl) (by omega)) rfl rfl rfl ?_
      refine VS_nil ?_
      refine QS_then ?_
      refine TS_seq ?_
      refine TS_true rfl ?_
      refine TS_skip ?_
      refine QS_then ?_
      refine TS_seq ?_
      refine TS_block ?_
      refine TS_seq ?_
      refine TS_region ?_
      refine VS_pure (P_move rfl) rfl rfl rfl ?_
      refine VS_pure (P_assign rfl) rfl rfl rfl ?_
      refine VS_nil ?_
      refine QS_then ?_
      refine TS_seq ?_
      refine TS_region ?_
      iterate 3 (refine VS_pure (P_move rfl) rfl rfl rfl ?_)
      refine VS_pure (P_indexAddr1N ez26 rfl rfl hA (by omega)) rfl rfl rfl ?_
      refine VS_read (S_load sg9 rfl hat) rfl rfl rfl ?_
      refine VS_pure (dt (P_seql rfl rfl) rfl) rfl rfl rfl ?_
      refine VS_nil ?_
      refine QS_then ?_
      refine TS_true rfl ?_
      refine TS_seq ?_
      refine TS_region ?_
      refine VS_pure (P_move rfl) rfl rfl rfl ?_
      refine VS_pure (P_assign rfl) rfl rfl rfl ?_
      refine VS_nil ?_
      refine QS_then ?_
      refine TS_ret ?_
      refine QS_block_ret ?_
      refine QS_then_ret ?_
      refine QS_round_ret ?_
      refine QS_block_ret ?_
      refine QS_then_ret ?_
      exact QS_ret [_] ⟨rfl, trivial⟩ [] (Pick.nil _) ⟨by rw [ix_some (i := i) hlt he (fun j hj => hn j (by omega) hj)]; rfl, rfl⟩
    · have he2 : s ≠ xs[i] := fun h => he h.symm
      refine TS_seq ?_
      refine TS_region ?_
      refine VS_pure (dt (P_lss rfl rfl) (by omega)) rfl rfl rfl ?_
      refine VS_nil ?_
      refine QS_then ?_
      refine TS_seq ?_
      refine TS_true rfl ?_
      refine TS_skip ?_
      refine QS_then ?_
      refine TS_seq ?_
      refine TS_block ?_
      refine TS_seq ?_
      refine TS_region ?_
      refine VS_pure (P_move rfl) rfl rfl rfl ?_
      refine VS_pure (P_assign rfl) rfl rfl rfl ?_
      refine VS_nil ?_
      refine QS_then ?_
      refine TS_seq ?_
      refine TS_region ?_
      iterate 3 (refine VS_pure (P_move rfl) rfl rfl rfl ?_)
      refine VS_pure (P_indexAddr1N ez26 rfl rfl hA (by omega)) rfl rfl rfl ?_
      refine VS_read (S_load sg9 rfl hat) rfl rfl rfl ?_
      refine VS_pure (df (P_seql rfl rfl) (by assumption)) rfl rfl rfl ?_
      refine VS_nil ?_
      refine QS_then ?_
      refine TS_false rfl ?_
      refine TS_skip ?_
      refine QS_block ?_
      refine QS_then ?_
      refine TS_region ?_
      refine VS_pure (P_add rfl rfl (w64 (by omega) (by omega))) rfl rfl rfl ?_
      refine VS_pure (P_move rfl) rfl rfl rfl ?_
      refine VS_nil ?_
      exact QS_round (i + 1) ⟨rfl, rfl, rfl, rfl, trivial⟩ (Pick.refl _) ⟨hlt, fun j hj h => by
        by_cases hji : j = i
        · subst hji; exact he
        · exact hn j hj (by omega)⟩ (by omega)
  · refine TS_seq ?_
    refine TS_region ?_
    refine VS_pure (df (P_lss rfl rfl) (by omega)) rfl rfl rfl ?_
    refine VS_nil ?_
    refine QS_then ?_
    refine TS_seq ?_
    refine TS_false rfl ?_
    refine TS_exit ?_
    refine QS_then_exit ?_
    refine QS_round_exit ?_
    refine QS_block_here ?_
    refine QS_then ?_
    refine TS_seq ?_
    refine TS_region ?_
    refine VS_pure (P_assign rfl) rfl rfl rfl ?_
    refine VS_nil ?_
    refine QS_then ?_
    refine TS_ret ?_
    exact QS_ret [_] ⟨rfl, trivial⟩ [] (Pick.nil _) ⟨by rw [ix_none (fun j hj => hn j hj (by omega))]; rfl, rfl⟩
set_option maxHeartbeats 4000000 in
theorem Contains_ok {m : Mp} {A : Option Addr} {c : Nat} {xs : List (List UInt8)} (hx : StrsR m A xs) (s : List UInt8) : CS Tryd.prog 26 [.slice A xs.length c, sV s] m [] (Gives (.bool (ix s xs).isSome)) := by
  have IX := fun m' (hm : Le m m') => Index_ok (c := c) (hx.mono hm) s
  refine CS_of [.tmp 4] Tryd.func26 rfl rfl rfl ?_
  cases hi : ix s xs with
  | none =>
    rw [hi] at IX
    refine TS_seq ?_
    refine TS_region ?_
    refine VS_pure (P_assign rfl) rfl rfl rfl ?_
    refine VS_nil ?_
    refine QS_then ?_
    refine TS_seq ?_
    refine TS_region ?_
    refine VS_pure (P_move rfl) rfl rfl rfl ?_
    refine VS_pure (P_move rfl) rfl rfl rfl ?_
    refine VS_step (S_callR cl40 rfl (fun m' hm he => (IX m' hm)) rfl ?_) rfl
    rintro _ rfl
    dsimp only [ixI]
    refine VS_pure (df (P_geq rfl rfl) (by omega)) rfl rfl rfl ?_
    refine VS_pure (P_assign rfl) rfl rfl rfl ?_
    refine VS_nil ?_
    refine QS_then ?_
    refine TS_ret ?_
    exact QS_ret [_] ⟨rfl, trivial⟩ [] (Pick.nil _) ⟨rfl, rfl⟩
  | some i =>
    rw [hi] at IX
    refine TS_seq ?_
    refine TS_region ?_
    refine VS_pure (P_assign rfl) rfl rfl rfl ?_
    refine VS_nil ?_
    refine QS_then ?_
    refine TS_seq ?_
    refine TS_region ?_
    refine VS_pure (P_move rfl) rfl rfl rfl ?_
    refine VS_pure (P_move rfl) rfl rfl rfl ?_
    refine VS_step (S_callR cl40 rfl (fun m' hm he => (IX m' hm)) rfl ?_) rfl
    rintro _ rfl
    dsimp only [ixI]
    refine VS_pure (dt (P_geq rfl rfl) (by omega)) rfl rfl rfl ?_
    refine VS_pure (P_assign rfl) rfl rfl rfl ?_
    refine VS_nil ?_
    refine QS_then ?_
    refine TS_ret ?_
    exact QS_ret [_] ⟨rfl, trivial⟩ [] (Pick.nil _) ⟨rfl, rfl⟩
set_option maxHeartbeats 4000000 in
theorem count_ok {m : Mp} {A : Option Addr} {c : Nat} {xs : List (List UInt8)} (hx : StrsR m A xs) (s : List UInt8) : CS Tryd.prog 28 [.slice A xs.length c, sV s] m [] (Gives (.int .i64 (count s xs : Nat))) := by
  obtain ⟨q3, q2⟩ := hx
  refine CS_of [.tmp 4] Tryd.func28 rfl rfl rfl ?_
  refine TS_seq ?_
  refine TS_region ?_
  refine VS_pure (P_assign rfl) rfl rfl rfl ?_
  refine VS_nil ?_
  refine QS_then ?_
  refine TS_seq ?_
  refine TS_region ?_
  refine VS_pure (P_assign rfl) rfl rfl rfl ?_
  refine VS_nil ?_
  refine QS_then ?_
  refine TS_seq ?_
  refine TS_seq ?_
  refine TS_region ?_
  refine VS_pure (P_assign rfl) rfl rfl rfl ?_
  refine VS_nil ?_
  refine QS_then ?_
  refine TS_block ?_
  refine TS_loop (α := Nat) (fun i => [(0, .slice A xs.length c), (1, sV s), (5, .int .i64 (count s (xs.take i) : Nat)), (6, .int .i64 (i : Nat))]) (fun _ => []) (fun i => i ≤ xs.length) (fun i => xs.length - i) 0 ⟨rfl, rfl, rfl, rfl, trivial⟩ (Pick.refl _) (Nat.zero_le _) ?_
  rintro i hi
  have hcl : count s (xs.take i) ≤ i := Nat.le_trans count_le (by simp; omega)
  by_cases hlt : i < xs.length
  · have hA : A.isSome = true := q3.isSome (by simp; omega)
    have hat : mc m ((sa A).add i) = some (sV xs[i]) := q3.at_ (by simp [hlt])
    by_cases he : xs[i] = s
    · have hct := count_take (s := s) hlt
      rw [if_pos he] at hct
      rw [he] at hat
      refine TS_seq ?_
      refine TS_seq ?_
      refine TS_region ?_
      refine VS_pure (P_move rfl) rfl rfl rfl ?_
      refine VS_pure (P_move rfl) rfl rfl rfl ?_
      refine VS_pure (P_len il26 rfl) rfl rfl rfl ?_
      refine VS_pure (dt (P_lss rfl rfl) (by omega)) rfl rfl rfl ?_
      refine VS_nil ?_
      refine QS_then ?_
      refine TS_true rfl ?_
      refine TS_skip ?_
      refine QS_then ?_
      refine TS_seq ?_
      refine TS_block ?_
      refine TS_seq ?_
      refine TS_region ?_
      refine VS_pure (P_move rfl) rfl rfl rfl ?_
      refine VS_pure (P_move rfl) rfl rfl rfl ?_
      refine VS_pure (P_indexAddr1N ez26 rfl rfl hA (by omega)) rfl rfl rfl ?_
      refine VS_read (S_load sg9 rfl hat) rfl rfl rfl ?_
      refine VS_pure (P_move rfl) rfl rfl rfl ?_
      refine VS_pure (dt (P_seql rfl rfl) rfl) rfl rfl rfl ?_
      refine VS_nil ?_
      refine QS_then ?_
      refine TS_true rfl ?_
      refine TS_region ?_
      refine VS_pure (P_move rfl) rfl rfl rfl ?_
      refine VS_pure (P_add rfl rfl (w64 (by omega) (by omega))) rfl rfl rfl ?_
      refine VS_pure (P_assign rfl) rfl rfl rfl ?_
      refine VS_nil ?_
      refine QS_block ?_
      refine QS_then ?_
      refine TS_region ?_
      refine VS_pure (P_move rfl) rfl rfl rfl ?_
      refine VS_pure (P_add rfl rfl (w64 (by omega) (by omega))) rfl rfl rfl ?_
      refine VS_pure (P_assign rfl) rfl rfl rfl ?_
      refine VS_nil ?_
      exact QS_round (i + 1) ⟨rfl, rfl, by rw [hct]; rfl, rfl, trivial⟩ (Pick.refl _) hlt (by omega)
    · have hct := count_take (s := s) hlt
      rw [if_neg he] at hct
      refine TS_seq ?_
      refine TS_seq ?_
      refine TS_region ?_
      refine VS_pure (P_move rfl) rfl rfl rfl ?_
      refine VS_pure (P_move rfl) rfl rfl rfl ?_
      refine VS_pure (P_len il26 rfl) rfl rfl rfl ?_
      refine VS_pure (dt (P_lss rfl rfl) (by omega)) rfl rfl rfl ?_
      refine VS_nil ?_
      refine QS_then ?_
      refine TS_true rfl ?_
      refine TS_skip ?_
      refine QS_then ?_
      refine TS_seq ?_
      refine TS_block ?_
      refine TS_seq ?_
      refine TS_region ?_
      refine VS_pure (P_move rfl) rfl rfl rfl ?_
      refine VS_pure (P_move rfl) rfl rfl rfl ?_
      refine VS_pure (P_indexAddr1N ez26 rfl rfl hA (by omega)) rfl rfl rfl ?_
      refine VS_read (S_load sg9 rfl hat) rfl rfl rfl ?_
      refine VS_pure (P_move rfl) rfl rfl rfl ?_
      refine VS_pure (df (P_seql rfl rfl) (by assumption)) rfl rfl rfl ?_
      refine VS_nil ?_
      refine QS_then ?_
      refine TS_false rfl ?_
      refine TS_skip ?_
      refine QS_block ?_
      refine QS_then ?_
      refine TS_region ?_
      refine VS_pure (P_move rfl) rfl rfl rfl ?_
      refine VS_pure (P_add rfl rfl (w64 (by omega) (by omega))) rfl rfl rfl ?_
      refine VS_pure (P_assign rfl) rfl rfl rfl ?_
      refine VS_nil ?_
      exact QS_round (i + 1) ⟨rfl, rfl, by rw [hct]; rfl, rfl, trivial⟩ (Pick.refl _) hlt (by omega)
  · refine TS_seq ?_
    refine TS_seq ?_
    refine TS_region ?_
    refine VS_pure (P_move rfl) rfl rfl rfl ?_
    refine VS_pure (P_move rfl) rfl rfl rfl ?_
    refine VS_pure (P_len il26 rfl) rfl rfl rfl ?_
    refine VS_pure (df (P_lss rfl rfl) (by omega)) rfl rfl rfl ?_
    refine VS_nil ?_
    refine QS_then ?_
    refine TS_false rfl ?_
    refine TS_exit ?_
    refine QS_then_exit ?_
    refine QS_round_exit ?_
    refine QS_block_here ?_
    refine QS_then ?_
    refine TS_seq ?_
    refine TS_region ?_
    refine VS_pure (P_move rfl) rfl rfl rfl ?_
    refine VS_pure (P_assign rfl) rfl rfl rfl ?_
    refine VS_nil ?_
    refine QS_then ?_
    refine TS_ret ?_
    exact QS_ret [_] ⟨rfl, trivial⟩ [] (Pick.nil _) ⟨by rw [List.take_of_length_le (by omega)]; rfl, rfl⟩
end Go.Proofs.YtccleakfgmcjpaaDoor
