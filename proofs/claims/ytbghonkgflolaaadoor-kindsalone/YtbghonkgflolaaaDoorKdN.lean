/- A part of the proof: contracts of functions of the program. No condition. -/
import Derived.Test.YtbghonkgflolaaaDoorKdM
import Derived.Test.YtbghonkgflolaaaDoorWdK
namespace Go.Proofs.YtbghonkgflolaaaDoor
open Go.Eng Wd Kd Go.RowKit
set_option maxRecDepth 100000

theorem key_at {i : Nat} (h : i < 41) : (keysP.map strV)[i]? = some (strV (keysP.getD i [])) := by
  have hl : i < keysP.length := h
  simp [List.getD_eq_getElem?_getD, hl]
theorem key_len : (keysP.map strV).length = 41 := rfl
set_option maxHeartbeats 4000000 in
theorem own_ok {m : Mp} (hT : Tabs m) : CS Tryd.prog 37 [] m [] fun v L' => ∃ b, v = .map (some b) ∧ L' = [smap b (entK keysP)] := by
  refine CS_of [.tmp 0] Tryd.func37 rfl rfl rfl ?_
  refine TS_seq ?_
  refine TS_region ?_
  refine VS_pure (P_assign rfl) rfl rfl rfl ?_
  refine VS_nil ?_
  refine QS_then ?_
  refine TS_seq ?_
  refine TS_region ?_
  refine VS_step (S_makeMap rfl (fun b1 => ?_)) rfl
  refine VS_pure (P_assign rfl) rfl rfl rfl ?_
  refine VS_nil ?_
  refine QS_then ?_
  refine TS_seq ?_
  refine TS_seq ?_
  refine TS_region ?_
  have F := fun m' (hm : Le m m') => fields_ok (s := ownText) (hT.mono hm) (by decide +kernel) own_ascii
  rw [keys_fields, show keysP.length = 41 from rfl] at F
  refine VS_step ((S_call cl38 rfl (fun m' hm he => F m' hm) rfl ?_)) rfl
  rintro _ _ ⟨b2, rfl, rfl⟩
  refine VS_pure (P_len il70 rfl) rfl rfl rfl ?_
  refine VS_pure (P_move rfl) rfl rfl rfl ?_
  refine VS_nil ?_
  refine QS_then ?_
  refine TS_block ?_
  refine TS_loop (fun i : Nat => [(1, .map (some b1)), (5, .slice (some ⟨b2, 0, none⟩) 41 41), (6, .int .i64 (41 : Nat)), (7, .int .i64 (i : Nat))]) (fun i => [cel b2 (keysP.map strV) 9, smap b1 (entK (keysP.take i))]) (fun i => i ≤ 41) (fun i => 41 - i) 0
    ⟨rfl, rfl, rfl, rfl, trivial⟩ (Pick.refl _) (Nat.zero_le _) ?_
  rintro i hi
  by_cases hlt : i < 41
  · have hk := key_at hlt
    have hput := put_keys hlt
    refine TS_seq ?_
    refine TS_region ?_
    refine VS_pure (dt (P_lss rfl rfl) (by omega)) rfl rfl rfl ?_
    refine VS_nil ?_
    refine QS_then ?_
    refine TS_seq ?_
    refine TS_true rfl ?_
    refine TS_skip ?_
    refine QS_then ?_
    refine TS_seq ?_
    refine TS_block ?_
    refine TS_seq ?_
    refine TS_region ?_
    refine VS_pure ((P_indexAddr1N ez70 rfl rfl rfl (by omega))) rfl rfl rfl ?_
    refine VS_read (S_loadE sg9 rfl (.here) hk) rfl rfl rfl ?_
    refine VS_pure (P_assign rfl) rfl rfl rfl ?_
    refine VS_nil ?_
    refine QS_then ?_
    refine TS_region ?_
    refine VS_pure (P_move rfl) rfl rfl rfl ?_
    refine VS_pure (P_move rfl) rfl rfl rfl ?_
    refine VS_step (S_mapUpdate ms35 rfl rfl rfl (.there (.here)) ?_) rfl
    refine VS_nil ?_
    refine QS_block ?_
    refine QS_then ?_
    refine TS_region ?_
    refine VS_pure (P_add rfl rfl (w64 (by omega) (by omega))) rfl rfl rfl ?_
    refine VS_pure (P_move rfl) rfl rfl rfl ?_
    refine VS_nil ?_
    exact QS_round (i + 1) ⟨rfl, rfl, rfl, rfl, trivial⟩ (by rw [← hput]; exact Pick.refl _) (by omega) (by omega)
  · have : i = 41 := by omega
    subst this
    refine TS_seq ?_
    refine TS_region ?_
    refine VS_pure (df (P_lss rfl rfl) (by omega)) rfl rfl rfl ?_
    refine VS_nil ?_
    refine QS_then ?_
    refine TS_seq ?_
    refine TS_false rfl ?_
    refine TS_exit ?_
    refine QS_then_exit ?_
    refine QS_round_exit ?_
    refine QS_block_here ?_
    refine QS_then ?_
    refine TS_seq ?_
    refine TS_region ?_
    refine VS_pure (P_move rfl) rfl rfl rfl ?_
    refine VS_pure (P_assign rfl) rfl rfl rfl ?_
    refine VS_nil ?_
    refine QS_then ?_
    refine TS_ret ?_
    exact QS_ret [_] ⟨rfl, trivial⟩ _ (Pick.cons (.there .here) (Pick.nil _)) ⟨b1, rfl, rfl⟩
theorem Own_ok {m : Mp} (hT : Tabs m) (s : List UInt8) : CS Tryd.prog 28 [.string (bs s)] m [] (Gives (.bool (ownP s))) := by
  refine CS_of [.tmp 2] Tryd.func28 rfl rfl rfl ?_
  refine TS_seq ?_
  refine TS_region ?_
  refine VS_pure (P_assign rfl) rfl rfl rfl ?_
  refine VS_nil ?_
  refine QS_then ?_
  refine TS_seq ?_
  refine TS_region ?_
  refine VS_step ((S_call cl37 rfl (fun m' hm he => own_ok (hT.mono hm)) rfl ?_)) rfl
  rintro _ _ ⟨b2, rfl, rfl⟩
  refine VS_pure (P_move rfl) rfl rfl rfl ?_
  refine VS_read (S_lookup ms35 rfl rfl (.here) mz35) rfl rfl rfl ?_
  refine VS_pure (P_assign rfl) rfl rfl rfl ?_
  refine VS_nil ?_
  refine QS_then ?_
  refine TS_ret ?_
  rw [get_keys]
  skip
  exact QS_ret [_] ⟨rfl, trivial⟩ [] (Pick.nil _) ⟨rfl, rfl⟩
theorem Keys_ok {m : Mp} : CS Tryd.prog 23 [] m [] fun v L' => ∃ b, v = .slice (some ⟨b, 0, none⟩) 41 41 ∧ L' = [cel b (keysP.map strV) 9] := by
  refine CS_of [.tmp 0] Tryd.func23 rfl rfl rfl ?_
  refine TS_seq ?_
  refine TS_region ?_
  refine VS_pure (P_assign rfl) rfl rfl rfl ?_
  refine VS_nil ?_
  refine QS_then ?_
  refine TS_seq ?_
  refine TS_region ?_
  refine VS_step (S_buildSlice sl70 rfl rfl rfl rfl (fun b1 => ?_)) rfl
  refine VS_pure (P_assign rfl) rfl rfl rfl ?_
  refine VS_nil ?_
  refine QS_then ?_
  refine TS_ret ?_
  exact QS_ret [_] ⟨rfl, trivial⟩ _ (Pick.refl _) ⟨b1, rfl, rfl⟩
theorem mem_take {s : List UInt8} {i : Nat} (h : i < 41) : (s ∈ keysP.take (i + 1)) ↔ (s ∈ keysP.take i ∨ s = keysP.getD i []) := by
  have hl : i < keysP.length := h
  rw [List.take_succ_eq_append_getElem hl, List.mem_append, List.mem_singleton, show keysP.getD i [] = keysP[i] by simp [List.getD_eq_getElem?_getD, hl]]
set_option maxHeartbeats 4000000 in
theorem OwnR_ok {m : Mp} (s : List UInt8) : CS Tryd.prog 13 [.string (bs s)] m [] (Gives (.bool (ownP s))) := by
  refine CS_of [.tmp 2] Tryd.func13 rfl rfl rfl ?_
  refine TS_seq ?_
  refine TS_region ?_
  refine VS_pure (P_assign rfl) rfl rfl rfl ?_
  refine VS_nil ?_
  refine QS_then ?_
  refine TS_seq ?_
  refine TS_region ?_
  refine VS_step ((S_call cl23 rfl (fun m' hm he => Keys_ok) rfl ?_)) rfl
  rintro _ _ ⟨b2, rfl, rfl⟩
  refine VS_pure (P_assign rfl) rfl rfl rfl ?_
  refine VS_nil ?_
  refine QS_then ?_
  refine TS_seq ?_
  refine TS_seq ?_
  refine TS_region ?_
  refine VS_pure (P_assign rfl) rfl rfl rfl ?_
  refine VS_nil ?_
  refine QS_then ?_
  refine TS_block ?_
  refine TS_loop (fun i : Nat => [(0, .string (bs s)), (3, .slice (some ⟨b2, 0, none⟩) 41 41), (4, .int .i64 (i : Nat))]) (fun i => [cel b2 (keysP.map strV) 9]) (fun i => i ≤ 41 ∧ s ∉ keysP.take i) (fun i => 41 - i) 0
    ⟨rfl, rfl, rfl, trivial⟩ (Pick.refl _) ⟨Nat.zero_le _, by simp⟩ ?_
  rintro i ⟨hi, hno⟩
  by_cases hlt : i < 41
  · have hk := key_at hlt
    have hmt := mem_take (s := s) hlt
    by_cases he : keysP.getD i [] = s
    · have hin : s ∈ keysP := List.mem_of_mem_take (hmt.2 (.inr he.symm))
      refine TS_seq ?_
      refine TS_seq ?_
      refine TS_region ?_
      refine VS_pure (P_move rfl) rfl rfl rfl ?_
      refine VS_pure (P_move rfl) rfl rfl rfl ?_
      refine VS_pure (P_len il70 rfl) rfl rfl rfl ?_
      refine VS_pure (dt (P_lss rfl rfl) (by omega)) rfl rfl rfl ?_
      refine VS_nil ?_
      refine QS_then ?_
      refine TS_true rfl ?_
      refine TS_skip ?_
      refine QS_then ?_
      refine TS_seq ?_
      refine TS_block ?_
      refine TS_seq ?_
      refine TS_region ?_
      refine VS_pure (P_move rfl) rfl rfl rfl ?_
      refine VS_pure (P_move rfl) rfl rfl rfl ?_
      refine VS_pure ((P_indexAddr1N ez70 rfl rfl rfl (by omega))) rfl rfl rfl ?_
      refine VS_read (S_loadE sg9 rfl (.here) hk) rfl rfl rfl ?_
      refine VS_pure (P_move rfl) rfl rfl rfl ?_
      refine VS_pure ((dt (P_seql rfl rfl) he)) rfl rfl rfl ?_
      refine VS_nil ?_
      refine QS_then ?_
      refine TS_true rfl ?_
      refine TS_seq ?_
      refine TS_region ?_
      refine VS_pure (P_assign rfl) rfl rfl rfl ?_
      refine VS_nil ?_
      refine QS_then ?_
      refine TS_ret ?_
      refine QS_block_ret ?_
      refine QS_then_ret ?_
      refine QS_round_ret ?_
      refine QS_block_ret ?_
      refine QS_then_ret ?_
      exact QS_ret [_] ⟨rfl, trivial⟩ [] (Pick.nil _) ⟨by unfold ownP; rw [decide_eq_true hin]; rfl, rfl⟩
    · refine TS_seq ?_
      refine TS_seq ?_
      refine TS_region ?_
      refine VS_pure (P_move rfl) rfl rfl rfl ?_
      refine VS_pure (P_move rfl) rfl rfl rfl ?_
      refine VS_pure (P_len il70 rfl) rfl rfl rfl ?_
      refine VS_pure (dt (P_lss rfl rfl) (by omega)) rfl rfl rfl ?_
      refine VS_nil ?_
      refine QS_then ?_
      refine TS_true rfl ?_
      refine TS_skip ?_
      refine QS_then ?_
      refine TS_seq ?_
      refine TS_block ?_
      refine TS_seq ?_
      refine TS_region ?_
      refine VS_pure (P_move rfl) rfl rfl rfl ?_
      refine VS_pure (P_move rfl) rfl rfl rfl ?_
      refine VS_pure ((P_indexAddr1N ez70 rfl rfl rfl (by omega))) rfl rfl rfl ?_
      refine VS_read (S_loadE sg9 rfl (.here) hk) rfl rfl rfl ?_
      refine VS_pure (P_move rfl) rfl rfl rfl ?_
      refine VS_pure ((df (P_seql rfl rfl) he)) rfl rfl rfl ?_
      refine VS_nil ?_
      refine QS_then ?_
      refine TS_false rfl ?_
      refine TS_skip ?_
      refine QS_block ?_
      refine QS_then ?_
      refine TS_region ?_
      refine VS_pure (P_move rfl) rfl rfl rfl ?_
      refine VS_pure (P_add rfl rfl (w64 (by omega) (by omega))) rfl rfl rfl ?_
      refine VS_pure (P_assign rfl) rfl rfl rfl ?_
      refine VS_nil ?_
      exact QS_round (i + 1) ⟨rfl, rfl, rfl, trivial⟩ (Pick.refl _) ⟨by omega, fun h => by rcases hmt.1 h with h | h; exact hno h; exact he h.symm⟩ (by omega)
  · have : i = 41 := by omega
    subst this
    refine TS_seq ?_
    refine TS_seq ?_
    refine TS_region ?_
    refine VS_pure (P_move rfl) rfl rfl rfl ?_
    refine VS_pure (P_move rfl) rfl rfl rfl ?_
    refine VS_pure (P_len il70 rfl) rfl rfl rfl ?_
    refine VS_pure (df (P_lss rfl rfl) (by omega)) rfl rfl rfl ?_
    refine VS_nil ?_
    refine QS_then ?_
    refine TS_false rfl ?_
    refine TS_exit ?_
    refine QS_then_exit ?_
    refine QS_round_exit ?_
    refine QS_block_here ?_
    refine QS_then ?_
    refine TS_seq ?_
    refine TS_region ?_
    refine VS_pure (P_assign rfl) rfl rfl rfl ?_
    refine VS_nil ?_
    refine QS_then ?_
    refine TS_ret ?_
    exact QS_ret [_] ⟨rfl, trivial⟩ [] (Pick.nil _) ⟨by unfold ownP; rw [decide_eq_false (show s ∉ keysP from hno)]; rfl, rfl⟩
def nameP (s : List UInt8) : Bool := decide (1 ≤ (nameGo s 0 0).2 ∧ (nameGo s 0 0).2 ≤ 24 ∧ (nameGo s 0 0).1 = s.length ∧ s.length ≤ 40) && !ownP s
set_option maxHeartbeats 4000000 in
theorem Name_ok {m : Mp} (hT : Tabs m) {s : List UInt8} (hs : s.length ≤ 140737488355328) : CS Tryd.prog 15 [.string (bs s)] m [] (Gives (.bool (nameP s))) := by
  refine CS_of [.tmp 2] Tryd.func15 rfl rfl rfl ?_
  have e : lengthGo s 0 0 = nameGo s 0 0 := by have := name_eq (s := s) (p := 0) (Nat.zero_le _); simpa using this
  have hle := (nameGo_tiles s 0 0).len (Nat.zero_le _)
  unfold nameP
  by_cases hall : 1 ≤ (nameGo s 0 0).2 ∧ (nameGo s 0 0).2 ≤ 24 ∧ (nameGo s 0 0).1 = s.length ∧ s.length ≤ 40
  · obtain ⟨a1, a2, a3, a4⟩ := hall
    refine TS_seq ?_
    refine TS_region ?_
    refine VS_pure (P_assign rfl) rfl rfl rfl ?_
    refine VS_nil ?_
    refine QS_then ?_
    refine TS_seq ?_
    refine TS_region ?_
    refine VS_pure (P_move rfl) rfl rfl rfl ?_
    refine VS_step (S_callR cl27 rfl (fun m' hm he => (e ▸ length_ok hs)) rfl ?_) rfl
    rintro _ rfl
    refine VS_pure (P_move rfl) rfl rfl rfl ?_
    refine VS_pure (P_extract rfl rfl) rfl rfl rfl ?_
    refine VS_pure (P_extract rfl rfl) rfl rfl rfl ?_
    refine VS_pure (P_assign rfl) rfl rfl rfl ?_
    refine VS_pure (P_assign rfl) rfl rfl rfl ?_
    refine VS_nil ?_
    refine QS_then ?_
    refine TS_seq ?_
    refine TS_region ?_
    refine VS_pure (P_move rfl) rfl rfl rfl ?_
    refine VS_pure (dt (P_gtr rfl rfl) (by omega)) rfl rfl rfl ?_
    refine VS_pure (P_move rfl) rfl rfl rfl ?_
    refine VS_pure (P_move rfl) rfl rfl rfl ?_
    refine VS_pure (dt (P_leq rfl rfl) (by omega)) rfl rfl rfl ?_
    refine VS_pure (P_pick_t rfl rfl) rfl rfl rfl ?_
    iterate 3 (refine VS_pure (P_move rfl) rfl rfl rfl ?_)
    refine VS_pure (P_len_str rfl st9) rfl rfl rfl ?_
    refine VS_pure (dt (P_eql rfl rfl) (by omega)) rfl rfl rfl ?_
    refine VS_pure (P_pick_t rfl rfl) rfl rfl rfl ?_
    refine VS_pure (P_move rfl) rfl rfl rfl ?_
    refine VS_pure (P_move rfl) rfl rfl rfl ?_
    refine VS_pure (dt (P_leq rfl rfl) (by omega)) rfl rfl rfl ?_
    refine VS_pure (P_pick_t rfl rfl) rfl rfl rfl ?_
    refine VS_pure (P_move rfl) rfl rfl rfl ?_
    refine VS_pure (P_move rfl) rfl rfl rfl ?_
    refine VS_step (S_callR cl28 rfl (fun m' hm he => (Own_ok (hT.mono hm) s)) rfl ?_) rfl
    rintro _ rfl
    refine VS_pure (P_not rfl) rfl rfl rfl ?_
    refine VS_pure (P_pick_t rfl rfl) rfl rfl rfl ?_
    refine VS_pure (P_assign rfl) rfl rfl rfl ?_
    refine VS_nil ?_
    refine QS_then ?_
    refine TS_ret ?_
    exact QS_ret [_] ⟨rfl, trivial⟩ [] (Pick.nil _) ⟨by rw [decide_eq_true ⟨a1, a2, a3, a4⟩]; rfl, rfl⟩
  · refine TS_seq ?_
    refine TS_region ?_
    refine VS_pure (P_assign rfl) rfl rfl rfl ?_
    refine VS_nil ?_
    refine QS_then ?_
    refine TS_seq ?_
    refine TS_region ?_
    refine VS_pure (P_move rfl) rfl rfl rfl ?_
    refine VS_step (S_callR cl27 rfl (fun m' hm he => (e ▸ length_ok hs)) rfl ?_) rfl
    rintro _ rfl
    refine VS_pure (P_move rfl) rfl rfl rfl ?_
    refine VS_pure (P_extract rfl rfl) rfl rfl rfl ?_
    refine VS_pure (P_extract rfl rfl) rfl rfl rfl ?_
    refine VS_pure (P_assign rfl) rfl rfl rfl ?_
    refine VS_pure (P_assign rfl) rfl rfl rfl ?_
    refine VS_nil ?_
    refine QS_then ?_
    refine TS_seq ?_
    refine TS_region ?_
    refine VS_pure (P_move rfl) rfl rfl rfl ?_
    refine VS_if (P_gtr rfl rfl) rfl rfl rfl (fun hc1 => ?_) (fun hc1 => ?_)
    refine VS_pure (P_move rfl) rfl rfl rfl ?_
    refine VS_pure (P_move rfl) rfl rfl rfl ?_
    refine VS_if (P_leq rfl rfl) rfl rfl rfl (fun hc2 => ?_) (fun hc2 => ?_)
    refine VS_pure (P_pick_t rfl rfl) rfl rfl rfl ?_
    iterate 3 (refine VS_pure (P_move rfl) rfl rfl rfl ?_)
    refine VS_pure (P_len_str rfl st9) rfl rfl rfl ?_
    refine VS_if (P_eql rfl rfl) rfl rfl rfl (fun hc3 => ?_) (fun hc3 => ?_)
    refine VS_pure (P_pick_t rfl rfl) rfl rfl rfl ?_
    refine VS_pure (P_move rfl) rfl rfl rfl ?_
    refine VS_pure (P_move rfl) rfl rfl rfl ?_
    refine VS_pure (df (P_leq rfl rfl) (by omega)) rfl rfl rfl ?_
    refine VS_pure (P_pick_t rfl rfl) rfl rfl rfl ?_
    refine VS_pure (P_move rfl) rfl rfl rfl ?_
    iterate 3 (refine VS_skip rfl rfl rfl ?_)
    refine VS_pure (P_pick_f rfl rfl) rfl rfl rfl ?_
    refine VS_pure (P_assign rfl) rfl rfl rfl ?_
    refine VS_nil ?_
    refine QS_then ?_
    refine TS_ret ?_
    (exact QS_ret [_] ⟨rfl, trivial⟩ [] (Pick.nil _) ⟨by rw [decide_eq_false hall]; rfl, rfl⟩)
    refine VS_pure (P_pick_t rfl rfl) rfl rfl rfl ?_
    refine VS_pure (P_move rfl) rfl rfl rfl ?_
    refine VS_skip rfl rfl rfl ?_
    refine VS_skip rfl rfl rfl ?_
    refine VS_pure (P_pick_f rfl rfl) rfl rfl rfl ?_
    refine VS_pure (P_move rfl) rfl rfl rfl ?_
    iterate 3 (refine VS_skip rfl rfl rfl ?_)
    refine VS_pure (P_pick_f rfl rfl) rfl rfl rfl ?_
    refine VS_pure (P_assign rfl) rfl rfl rfl ?_
    refine VS_nil ?_
    refine QS_then ?_
    refine TS_ret ?_
    (exact QS_ret [_] ⟨rfl, trivial⟩ [] (Pick.nil _) ⟨by rw [decide_eq_false hall]; rfl, rfl⟩)
    refine VS_pure (P_pick_t rfl rfl) rfl rfl rfl ?_
    refine VS_pure (P_move rfl) rfl rfl rfl ?_
    iterate 4 (refine VS_skip rfl rfl rfl ?_)
    refine VS_pure (P_pick_f rfl rfl) rfl rfl rfl ?_
    refine VS_pure (P_move rfl) rfl rfl rfl ?_
    refine VS_skip rfl rfl rfl ?_
    refine VS_skip rfl rfl rfl ?_
    refine VS_pure (P_pick_f rfl rfl) rfl rfl rfl ?_
    refine VS_pure (P_move rfl) rfl rfl rfl ?_
    iterate 3 (refine VS_skip rfl rfl rfl ?_)
    refine VS_pure (P_pick_f rfl rfl) rfl rfl rfl ?_
    refine VS_pure (P_assign rfl) rfl rfl rfl ?_
    refine VS_nil ?_
    refine QS_then ?_
    refine TS_ret ?_
    (exact QS_ret [_] ⟨rfl, trivial⟩ [] (Pick.nil _) ⟨by rw [decide_eq_false hall]; rfl, rfl⟩)
    refine VS_pure (P_move rfl) rfl rfl rfl ?_
    refine VS_skip rfl rfl rfl ?_
    refine VS_skip rfl rfl rfl ?_
    refine VS_pure (P_pick_f rfl rfl) rfl rfl rfl ?_
    refine VS_pure (P_move rfl) rfl rfl rfl ?_
    iterate 4 (refine VS_skip rfl rfl rfl ?_)
    refine VS_pure (P_pick_f rfl rfl) rfl rfl rfl ?_
    refine VS_pure (P_move rfl) rfl rfl rfl ?_
    refine VS_skip rfl rfl rfl ?_
    refine VS_skip rfl rfl rfl ?_
    refine VS_pure (P_pick_f rfl rfl) rfl rfl rfl ?_
    refine VS_pure (P_move rfl) rfl rfl rfl ?_
    iterate 3 (refine VS_skip rfl rfl rfl ?_)
    refine VS_pure (P_pick_f rfl rfl) rfl rfl rfl ?_
    refine VS_pure (P_assign rfl) rfl rfl rfl ?_
    refine VS_nil ?_
    refine QS_then ?_
    refine TS_ret ?_
    (exact QS_ret [_] ⟨rfl, trivial⟩ [] (Pick.nil _) ⟨by rw [decide_eq_false hall]; rfl, rfl⟩)
set_option maxHeartbeats 4000000 in
theorem NameR_ok {m : Mp} {s : List UInt8} (hs : s.length ≤ 140737488355328) : CS Tryd.prog 7 [.string (bs s)] m [] (Gives (.bool (nameP s))) := by
  refine CS_of [.tmp 2] Tryd.func7 rfl rfl rfl ?_
  have hle := (nameGo_tiles s 0 0).len (Nat.zero_le _)
  unfold nameP
  by_cases hall : 1 ≤ (nameGo s 0 0).2 ∧ (nameGo s 0 0).2 ≤ 24 ∧ (nameGo s 0 0).1 = s.length ∧ s.length ≤ 40
  · obtain ⟨a1, a2, a3, a4⟩ := hall
    refine TS_seq ?_
    refine TS_region ?_
    refine VS_pure (P_assign rfl) rfl rfl rfl ?_
    refine VS_nil ?_
    refine QS_then ?_
    refine TS_seq ?_
    refine TS_region ?_
    refine VS_pure (P_move rfl) rfl rfl rfl ?_
    refine VS_step (S_callR cl12 rfl (fun m' hm he => (name_ok (p := 0) (Nat.zero_le _) hs)) rfl ?_) rfl
    rintro _ rfl
    refine VS_pure (P_move rfl) rfl rfl rfl ?_
    refine VS_pure (P_extract rfl rfl) rfl rfl rfl ?_
    refine VS_pure (P_extract rfl rfl) rfl rfl rfl ?_
    refine VS_pure (P_assign rfl) rfl rfl rfl ?_
    refine VS_pure (P_assign rfl) rfl rfl rfl ?_
    refine VS_nil ?_
    refine QS_then ?_
    refine TS_seq ?_
    refine TS_region ?_
    refine VS_pure (P_move rfl) rfl rfl rfl ?_
    refine VS_pure (dt (P_geq rfl rfl) (by omega)) rfl rfl rfl ?_
    refine VS_pure (P_move rfl) rfl rfl rfl ?_
    refine VS_pure (P_move rfl) rfl rfl rfl ?_
    refine VS_pure (dt (P_leq rfl rfl) (by omega)) rfl rfl rfl ?_
    refine VS_pure (P_pick_t rfl rfl) rfl rfl rfl ?_
    iterate 3 (refine VS_pure (P_move rfl) rfl rfl rfl ?_)
    refine VS_pure (P_len_str rfl st9) rfl rfl rfl ?_
    refine VS_pure (dt (P_eql rfl rfl) (by omega)) rfl rfl rfl ?_
    refine VS_pure (P_pick_t rfl rfl) rfl rfl rfl ?_
    refine VS_pure (P_move rfl) rfl rfl rfl ?_
    refine VS_pure (P_move rfl) rfl rfl rfl ?_
    refine VS_pure (P_len_str rfl st9) rfl rfl rfl ?_
    refine VS_pure (dt (P_leq rfl rfl) (by omega)) rfl rfl rfl ?_
    refine VS_pure (P_pick_t rfl rfl) rfl rfl rfl ?_
    refine VS_pure (P_move rfl) rfl rfl rfl ?_
    refine VS_pure (P_move rfl) rfl rfl rfl ?_
    refine VS_step (S_callR cl13 rfl (fun m' hm he => (OwnR_ok s)) rfl ?_) rfl
    rintro _ rfl
    refine VS_pure (P_not rfl) rfl rfl rfl ?_
    refine VS_pure (P_pick_t rfl rfl) rfl rfl rfl ?_
    refine VS_pure (P_assign rfl) rfl rfl rfl ?_
    refine VS_nil ?_
    refine QS_then ?_
    refine TS_ret ?_
    exact QS_ret [_] ⟨rfl, trivial⟩ [] (Pick.nil _) ⟨by rw [decide_eq_true ⟨a1, a2, a3, a4⟩]; rfl, rfl⟩
  · refine TS_seq ?_
    refine TS_region ?_
    refine VS_pure (P_assign rfl) rfl rfl rfl ?_
    refine VS_nil ?_
    refine QS_then ?_
    refine TS_seq ?_
    refine TS_region ?_
    refine VS_pure (P_move rfl) rfl rfl rfl ?_
    refine VS_step (S_callR cl12 rfl (fun m' hm he => (name_ok (p := 0) (Nat.zero_le _) hs)) rfl ?_) rfl
    rintro _ rfl
    refine VS_pure (P_move rfl) rfl rfl rfl ?_
    refine VS_pure (P_extract rfl rfl) rfl rfl rfl ?_
    refine VS_pure (P_extract rfl rfl) rfl rfl rfl ?_
    refine VS_pure (P_assign rfl) rfl rfl rfl ?_
    refine VS_pure (P_assign rfl) rfl rfl rfl ?_
    refine VS_nil ?_
    refine QS_then ?_
    refine TS_seq ?_
    refine TS_region ?_
    refine VS_pure (P_move rfl) rfl rfl rfl ?_
    refine VS_if (P_geq rfl rfl) rfl rfl rfl (fun hc1 => ?_) (fun hc1 => ?_)
    refine VS_pure (P_move rfl) rfl rfl rfl ?_
    refine VS_pure (P_move rfl) rfl rfl rfl ?_
    refine VS_if (P_leq rfl rfl) rfl rfl rfl (fun hc2 => ?_) (fun hc2 => ?_)
    refine VS_pure (P_pick_t rfl rfl) rfl rfl rfl ?_
    iterate 3 (refine VS_pure (P_move rfl) rfl rfl rfl ?_)
    refine VS_pure (P_len_str rfl st9) rfl rfl rfl ?_
    refine VS_if (P_eql rfl rfl) rfl rfl rfl (fun hc3 => ?_) (fun hc3 => ?_)
    refine VS_pure (P_pick_t rfl rfl) rfl rfl rfl ?_
    refine VS_pure (P_move rfl) rfl rfl rfl ?_
    refine VS_pure (P_move rfl) rfl rfl rfl ?_
    refine VS_pure (P_len_str rfl st9) rfl rfl rfl ?_
    refine VS_pure (df (P_leq rfl rfl) (by omega)) rfl rfl rfl ?_
    refine VS_pure (P_pick_t rfl rfl) rfl rfl rfl ?_
    refine VS_pure (P_move rfl) rfl rfl rfl ?_
    iterate 3 (refine VS_skip rfl rfl rfl ?_)
    refine VS_pure (P_pick_f rfl rfl) rfl rfl rfl ?_
    refine VS_pure (P_assign rfl) rfl rfl rfl ?_
    refine VS_nil ?_
    refine QS_then ?_
    refine TS_ret ?_
    (exact QS_ret [_] ⟨rfl, trivial⟩ [] (Pick.nil _) ⟨by rw [decide_eq_false hall]; rfl, rfl⟩)
    refine VS_pure (P_pick_t rfl rfl) rfl rfl rfl ?_
    refine VS_pure (P_move rfl) rfl rfl rfl ?_
    iterate 3 (refine VS_skip rfl rfl rfl ?_)
    refine VS_pure (P_pick_f rfl rfl) rfl rfl rfl ?_
    refine VS_pure (P_move rfl) rfl rfl rfl ?_
    iterate 3 (refine VS_skip rfl rfl rfl ?_)
    refine VS_pure (P_pick_f rfl rfl) rfl rfl rfl ?_
    refine VS_pure (P_assign rfl) rfl rfl rfl ?_
    refine VS_nil ?_
    refine QS_then ?_
    refine TS_ret ?_
    (exact QS_ret [_] ⟨rfl, trivial⟩ [] (Pick.nil _) ⟨by rw [decide_eq_false hall]; rfl, rfl⟩)
    refine VS_pure (P_pick_t rfl rfl) rfl rfl rfl ?_
    refine VS_pure (P_move rfl) rfl rfl rfl ?_
    iterate 4 (refine VS_skip rfl rfl rfl ?_)
    refine VS_pure (P_pick_f rfl rfl) rfl rfl rfl ?_
    refine VS_pure (P_move rfl) rfl rfl rfl ?_
    iterate 3 (refine VS_skip rfl rfl rfl ?_)
    refine VS_pure (P_pick_f rfl rfl) rfl rfl rfl ?_
    refine VS_pure (P_move rfl) rfl rfl rfl ?_
    iterate 3 (refine VS_skip rfl rfl rfl ?_)
    refine VS_pure (P_pick_f rfl rfl) rfl rfl rfl ?_
    refine VS_pure (P_assign rfl) rfl rfl rfl ?_
    refine VS_nil ?_
    refine QS_then ?_
    refine TS_ret ?_
    (exact QS_ret [_] ⟨rfl, trivial⟩ [] (Pick.nil _) ⟨by rw [decide_eq_false hall]; rfl, rfl⟩)
    refine VS_pure (P_move rfl) rfl rfl rfl ?_
    refine VS_skip rfl rfl rfl ?_
    refine VS_skip rfl rfl rfl ?_
    refine VS_pure (P_pick_f rfl rfl) rfl rfl rfl ?_
    refine VS_pure (P_move rfl) rfl rfl rfl ?_
    iterate 4 (refine VS_skip rfl rfl rfl ?_)
    refine VS_pure (P_pick_f rfl rfl) rfl rfl rfl ?_
    refine VS_pure (P_move rfl) rfl rfl rfl ?_
    iterate 3 (refine VS_skip rfl rfl rfl ?_)
    refine VS_pure (P_pick_f rfl rfl) rfl rfl rfl ?_
    refine VS_pure (P_move rfl) rfl rfl rfl ?_
    iterate 3 (refine VS_skip rfl rfl rfl ?_)
    refine VS_pure (P_pick_f rfl rfl) rfl rfl rfl ?_
    refine VS_pure (P_assign rfl) rfl rfl rfl ?_
    refine VS_nil ?_
    refine QS_then ?_
    refine TS_ret ?_
    (exact QS_ret [_] ⟨rfl, trivial⟩ [] (Pick.nil _) ⟨by rw [decide_eq_false hall]; rfl, rfl⟩)
end Go.Proofs.YtbghonkgflolaaaDoor
