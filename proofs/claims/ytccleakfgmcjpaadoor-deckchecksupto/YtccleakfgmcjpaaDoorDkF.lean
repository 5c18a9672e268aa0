/- A part of the proof: contracts of functions of the program. No condition. -/
import Derived.Test.YtccleakfgmcjpaaDoorDkE
namespace Go.Proofs.YtccleakfgmcjpaaDoor
open Go.Eng Dk
set_option maxRecDepth 100000
set_option maxHeartbeats 8000000 in
theorem piles_ok {m : Mp} {A : Option Addr} {c : Nat} {xs : List (List UInt8)} (hx : StrsR m A xs) (hx3 : xs.length ≤ 300) : CS Tryd.prog 24 [.slice A xs.length c] m [] (fun v L' => ∃ ps A2 c2, PilesOf ps xs ∧ v = .slice A2 ps.length c2 ∧ L' = [own 57 1 A2 ps.length c2 (ps.map pptr), pack (ps.map pcel)]) := by
  obtain ⟨q3, q2⟩ := hx
  refine CS_of [.tmp 2] Tryd.func24 rfl rfl rfl ?_
  refine TS_seq ?_
  refine TS_region ?_
  refine VS_pure (P_assign rfl) rfl rfl rfl ?_
  refine VS_nil ?_
  refine QS_then ?_
  refine TS_seq ?_
  refine TS_region ?_
  refine VS_step (S_makeMap rfl (fun b1 => ?_)) rfl
  refine VS_pure (P_assign rfl) rfl rfl rfl ?_
  refine VS_nil ?_
  refine QS_then ?_
  refine TS_seq ?_
  refine TS_seq ?_
  refine TS_region ?_
  refine VS_pure (P_move rfl) rfl rfl rfl ?_
  refine VS_pure (P_len il26 rfl) rfl rfl rfl ?_
  refine VS_pure (P_move rfl) rfl rfl rfl ?_
  refine VS_nil ?_
  refine QS_then ?_
  refine TS_block ?_
  refine TS_nilOwn 57 1 (TS_packNil ?_)
  refine TS_loop4 (β := List Pile) (fun i A' c' ps => [(2, .slice A' ps.length c'), (3, .map (some b1)), (9, .slice A xs.length c), (10, .int .i64 (xs.length : Nat)), (11, .int .i64 (i : Nat))]) (fun i A' c' ps => [smap b1 (mapE ps), own 57 1 A' ps.length c' (ps.map pptr), pack (ps.map pcel)]) (fun i ps => i ≤ xs.length ∧ ps.length ≤ i ∧ PilesOf ps (xs.take i)) (fun i => xs.length - i) 0 none 0 [] ⟨rfl, rfl, rfl, rfl, rfl, trivial⟩ (.cons (.there (.there .here)) (.cons (.there .here) (.cons .here (.nil _)))) ⟨Nat.zero_le _, Nat.le_refl _, rfl, fun _ h => by cases h⟩ ?_
  rintro i A' c' ps ⟨hi, hpl, hps⟩
  try dsimp only at hps ⊢
  by_cases hlt : i < xs.length
  · have hA : A.isSome = true := q3.isSome (by simp; omega)
    have hat : mc m ((sa A).add i) = some (sV xs[i]) := q3.at_ (by simp [hlt])
    by_cases hnew : ∃ p ∈ ps, p.name = xs[i]
    · obtain ⟨a, p, b, rfl, hp, ha⟩ := split_first hnew
      have hg := getM_yes (b := b) hp ha
      have hpn : p.n ≤ i := by
        rw [hps.2 p (by simp)]
        exact Nat.le_trans count_le (by simp; omega)
      have e0 : (a ++ p :: b).map pcel = a.map pcel ++ pcel p :: b.map pcel := by simp
      have e1 : mapE (a ++ ⟨p.name, p.blk, p.n + 1⟩ :: b) = mapE (a ++ p :: b) := by simp [mapE, pptr]
      have e2 : (a ++ ⟨p.name, p.blk, p.n + 1⟩ :: b : List Pile).map pptr = (a ++ p :: b).map pptr := by simp [pptr]
      have e3 : (a ++ ⟨p.name, p.blk, p.n + 1⟩ :: b : List Pile).map pcel = a.map pcel ++ cel p.blk [sV p.name, .int .i64 ((p.n : Nat) + 1)] 61 :: b.map pcel := by simp [pcel, iV]
      have e4 : (a ++ ⟨p.name, p.blk, p.n + 1⟩ :: b : List Pile).length = (a ++ p :: b).length := by simp
      refine TS_seq ?_
      refine TS_region ?_
      refine VS_pure (dt (P_lss rfl rfl) (by omega)) rfl rfl rfl ?_
      refine VS_nil ?_
      refine QS_then ?_
      refine TS_seq ?_
      refine TS_true rfl ?_
      refine TS_skip ?_
      refine QS_then ?_
      refine TS_seq ?_
      refine TS_block ?_
      refine TS_seq ?_
      refine TS_region ?_
      refine VS_pure (P_indexAddr1N ez26 rfl rfl hA (by omega)) rfl rfl rfl ?_
      refine VS_read (S_load sg9 rfl hat) rfl rfl rfl ?_
      refine VS_pure (P_assign rfl) rfl rfl rfl ?_
      refine VS_nil ?_
      refine QS_then ?_
      refine TS_seq ?_
      refine TS_region ?_
      refine VS_pure (P_move rfl) rfl rfl rfl ?_
      refine VS_pure (P_move rfl) rfl rfl rfl ?_
      refine VS_read (S_lookup2 ms75 rfl rfl (.here) mz75) rfl rfl rfl ?_
      rw [hg]
      refine VS_pure (P_move rfl) rfl rfl rfl ?_
      refine VS_pure (P_extract rfl rfl) rfl rfl rfl ?_
      refine VS_pure (P_extract rfl rfl) rfl rfl rfl ?_
      refine VS_pure (P_assign rfl) rfl rfl rfl ?_
      refine VS_pure (P_assign rfl) rfl rfl rfl ?_
      refine VS_nil ?_
      refine QS_then ?_
      refine TS_seq ?_
      refine TS_seq ?_
      refine TS_region ?_
      refine VS_pure (P_move rfl) rfl rfl rfl ?_
      refine VS_pure (P_not rfl) rfl rfl rfl ?_
      refine VS_nil ?_
      refine QS_then ?_
      refine TS_false rfl ?_
      refine TS_skip ?_
      refine QS_then ?_
      rw [e0]
      refine TS_pick [cel p.blk [sV p.name, iV p.n] 61, pack (a.map pcel ++ b.map pcel), smap b1 (mapE (a ++ p :: b)), own 57 1 A' (a ++ p :: b).length c' ((a ++ p :: b).map pptr)] (Pick.tr (.cons (.there (.there .here)) (.cons .here (.cons .here (.nil _)))) Pick.unpackAt) ?_
      unfold iV
      refine TS_region ?_
      refine VS_pure (P_move rfl) rfl rfl rfl ?_
      refine VS_pure (P_nilCheck rfl) rfl rfl rfl ?_
      refine VS_pure (P_fieldAddr0 fo61_1 rfl) rfl rfl rfl ?_
      refine VS_read (S_loadB sg3 rfl (.here) rfl) rfl rfl rfl ?_
      refine VS_pure (P_add rfl rfl (w64 (by omega) (by omega))) rfl rfl rfl ?_
      refine VS_pure (P_nilCheck rfl) rfl rfl rfl ?_
      refine VS_pure (P_fieldAddr0 fo61_1 rfl) rfl rfl rfl ?_
      refine VS_step (S_store co3 rfl rfl rfl (.here) (.there (.here)) ?_) rfl
      refine VS_nil ?_
      refine QS_block ?_
      refine QS_then ?_
      refine TS_region ?_
      refine VS_pure (P_add rfl rfl (w64 (by omega) (by omega))) rfl rfl rfl ?_
      refine VS_pure (P_move rfl) rfl rfl rfl ?_
      refine VS_nil ?_
      refine QS_round4 (Le.refl _) (i + 1) A' c' (a ++ ⟨p.name, p.blk, p.n + 1⟩ :: b) ⟨by rw [e4]; rfl, rfl, rfl, rfl, rfl, trivial⟩ ?_ ⟨hlt, by rw [e4]; omega, hps.more hlt hp⟩ (by omega)
      rw [e1, e2, e3, e4]
      exact Pick.tr Pick.repackAt (.cons (.there .here) (.cons (.there .here) (.cons .here (.nil _))))
    · have hn : ∀ p ∈ ps, p.name ≠ xs[i] := fun p hp e => hnew ⟨p, hp, e⟩
      have hg := getM_no hn
      refine TS_seq ?_
      refine TS_region ?_
      refine VS_pure (dt (P_lss rfl rfl) (by omega)) rfl rfl rfl ?_
      refine VS_nil ?_
      refine QS_then ?_
      refine TS_seq ?_
      refine TS_true rfl ?_
      refine TS_skip ?_
      refine QS_then ?_
      refine TS_seq ?_
      refine TS_block ?_
      refine TS_seq ?_
      refine TS_region ?_
      refine VS_pure (P_indexAddr1N ez26 rfl rfl hA (by omega)) rfl rfl rfl ?_
      refine VS_read (S_load sg9 rfl hat) rfl rfl rfl ?_
      refine VS_pure (P_assign rfl) rfl rfl rfl ?_
      refine VS_nil ?_
      refine QS_then ?_
      refine TS_seq ?_
      refine TS_region ?_
      refine VS_pure (P_move rfl) rfl rfl rfl ?_
      refine VS_pure (P_move rfl) rfl rfl rfl ?_
      refine VS_read (S_lookup2 ms75 rfl rfl (.here) mz75) rfl rfl rfl ?_
      rw [hg]
      refine VS_pure (P_move rfl) rfl rfl rfl ?_
      refine VS_pure (P_extract rfl rfl) rfl rfl rfl ?_
      refine VS_pure (P_extract rfl rfl) rfl rfl rfl ?_
      refine VS_pure (P_assign rfl) rfl rfl rfl ?_
      refine VS_pure (P_assign rfl) rfl rfl rfl ?_
      refine VS_nil ?_
      refine QS_then ?_
      refine TS_seq ?_
      refine TS_seq ?_
      refine TS_region ?_
      refine VS_pure (P_move rfl) rfl rfl rfl ?_
      refine VS_pure (P_not rfl) rfl rfl rfl ?_
      refine VS_nil ?_
      refine QS_then ?_
      refine TS_true rfl ?_
      refine TS_seq ?_
      refine TS_region ?_
      refine VS_pure (P_move rfl) rfl rfl rfl ?_
      refine VS_pure (P_build zl61 pl61 rfl rfl) rfl rfl rfl ?_
      refine VS_step (S_box rfl rfl (fun b2 => ?_)) rfl
      refine VS_pure (P_assign rfl) rfl rfl rfl ?_
      refine VS_nil ?_
      refine QS_then ?_
      refine TS_seq ?_
      refine TS_region ?_
      iterate 3 (refine VS_pure (P_move rfl) rfl rfl rfl ?_)
      refine VS_step (S_mapUpdate ms75 rfl rfl rfl (.there (.here)) ?_) rfl
      refine VS_nil ?_
      refine QS_then ?_
      refine TS_region ?_
      refine VS_pure (P_move rfl) rfl rfl rfl ?_
      refine VS_pure (P_move rfl) rfl rfl rfl ?_
      refine VS_step (S_buildSlice sl55 rfl rfl rfl rfl (fun b3 => ?_)) rfl
      refine VS_step (S_append sl55 rfl rfl rfl rfl (.here) (fun _ _ => (.there (.there (.there (.here))))) rfl rfl (by first | omega | (simp only [maxLen]; omega)) (by omega) rfl (fun A1 c1 => ?_)) rfl
      refine VS_pure (P_assign rfl) rfl rfl rfl ?_
      refine VS_nil ?_
      refine QS_then ?_
      refine TS_region ?_
      refine VS_pure (P_move rfl) rfl rfl rfl ?_
      refine VS_pure (P_nilCheck rfl) rfl rfl rfl ?_
      refine VS_pure (P_fieldAddr0 fo61_1 rfl) rfl rfl rfl ?_
      refine VS_read (S_loadB sg3 rfl (.there (.here)) rfl) rfl rfl rfl ?_
      refine VS_pure (P_add rfl rfl (w64 (by omega) (by omega))) rfl rfl rfl ?_
      refine VS_pure (P_nilCheck rfl) rfl rfl rfl ?_
      refine VS_pure (P_fieldAddr0 fo61_1 rfl) rfl rfl rfl ?_
      refine VS_step (S_store co3 rfl rfl rfl (.there (.here)) (.there (.here)) ?_) rfl
      refine VS_nil ?_
      refine QS_block ?_
      refine QS_then ?_
      refine TS_region ?_
      refine VS_pure (P_add rfl rfl (w64 (by omega) (by omega))) rfl rfl rfl ?_
      refine VS_pure (P_move rfl) rfl rfl rfl ?_
      refine VS_nil ?_
      have e1 : mapE (ps ++ [Pile.mk xs[i] b2 1]) = putM (mapE ps) xs[i] (.pointer (some ⟨b2, 0, none⟩)) := by rw [putM_no hn]; simp [mapE, pptr]
      have e2 : (ps ++ [Pile.mk xs[i] b2 1]).map pptr = ps.map pptr ++ [.pointer (some ⟨b2, 0, none⟩)] := by simp [pptr]
      have e3 : (ps ++ [Pile.mk xs[i] b2 1]).map pcel = ps.map pcel ++ [cel b2 [sV xs[i], .int .i64 (0 + 1)] 61] := by simp [pcel, iV]
      have e4 : (ps ++ [Pile.mk xs[i] b2 1]).length = ps.length + 1 := by simp
      refine QS_round4 (Le.refl _) (i + 1) A1 c1 (ps ++ [Pile.mk xs[i] b2 1]) ⟨by rw [e4]; rfl, rfl, rfl, rfl, rfl, trivial⟩ ?_ ⟨hlt, by rw [e4]; omega, hps.new hlt hn b2⟩ (by omega)
      rw [e1, e2, e3, e4]
      exact Pick.tr (Pick.tr (.cons (.there (.there (.there (.there .here)))) (.cons (.there .here) (.cons (.there .here) (.cons (.there .here) (.nil _))))) Pick.packSnoc) (.cons (.there .here) (.cons (.there .here) (.cons .here (.nil _))))
  · refine TS_seq ?_
    refine TS_region ?_
    refine VS_pure (df (P_lss rfl rfl) (by omega)) rfl rfl rfl ?_
    refine VS_nil ?_
    refine QS_then ?_
    refine TS_seq ?_
    refine TS_false rfl ?_
    refine TS_exit ?_
    refine QS_then_exit ?_
    refine QS_round4_exit ?_
    refine QS_block_here ?_
    refine QS_then ?_
    refine TS_seq ?_
    refine TS_region ?_
    refine VS_pure (P_move rfl) rfl rfl rfl ?_
    refine VS_pure (P_assign rfl) rfl rfl rfl ?_
    refine VS_nil ?_
    refine QS_then ?_
    refine TS_ret ?_
    rw [List.take_of_length_le (by omega)] at hps
    exact QS_ret [_] ⟨rfl, trivial⟩ [_, _] (.cons (.there .here) (.cons (.there .here) (.nil _))) ⟨ps, A', c', hps, rfl, rfl⟩
end Go.Proofs.YtccleakfgmcjpaaDoor
