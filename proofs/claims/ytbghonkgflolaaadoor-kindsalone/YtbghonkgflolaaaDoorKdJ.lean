/- A part of the proof: contracts of functions of the program. No condition. -/
import Derived.Test.YtbghonkgflolaaaDoorKdI
import Derived.Test.YtbghonkgflolaaaDoorWdQ
namespace Go.Proofs.YtbghonkgflolaaaDoor
open Go.Eng Wd Kd

theorem letter_ok {m : Mp} (x : Nat) : CS Tryd.prog 35 [.int .i32 x] m [] (Gives (.bool (letterP x))) := by
  refine CS_of [.tmp 2] Tryd.func35 rfl rfl rfl ?_
  refine TS_seq ?_
  refine TS_region ?_
  refine VS_pure (P_assign rfl) rfl rfl rfl ?_
  refine VS_nil ?_
  refine QS_then ?_
  refine TS_seq ?_
  refine TS_block ?_
  refine TS_seq ?_
  refine TS_seq ?_
  refine TS_region ?_
  refine VS_pure (P_move rfl) rfl rfl rfl ?_
  refine VS_if (P_geq rfl rfl) rfl rfl rfl (fun hc1 => ?_) (fun hc1 => ?_)
  refine VS_pure (P_move rfl) rfl rfl rfl ?_
  refine VS_pure (P_move rfl) rfl rfl rfl ?_
  refine VS_if (P_leq rfl rfl) rfl rfl rfl (fun hc2 => ?_) (fun hc2 => ?_)
  refine VS_pure (P_pick_t rfl rfl) rfl rfl rfl ?_
  refine VS_pure (P_assign rfl) rfl rfl rfl ?_
  refine VS_nil ?_
  refine QS_then ?_
  refine TS_true rfl ?_
  refine TS_skip ?_
  refine QS_then ?_
  refine TS_true rfl ?_
  refine TS_seq ?_
  refine TS_region ?_
  refine VS_pure (P_assign rfl) rfl rfl rfl ?_
  refine VS_nil ?_
  refine QS_then ?_
  refine TS_ret ?_
  refine QS_block_ret ?_
  refine QS_then_ret ?_
  (exact QS_ret [_] ⟨rfl, trivial⟩ [] (Pick.nil _) ⟨congrArg Value.bool (by simp [letterP] <;> omega), rfl⟩)
  refine VS_pure (P_pick_t rfl rfl) rfl rfl rfl ?_
  refine VS_pure (P_assign rfl) rfl rfl rfl ?_
  refine VS_nil ?_
  refine QS_then ?_
  refine TS_false rfl ?_
  refine TS_region ?_
  refine VS_pure (P_move rfl) rfl rfl rfl ?_
  refine VS_pure (dt (P_geq rfl rfl) (by omega)) rfl rfl rfl ?_
  refine VS_pure (P_move rfl) rfl rfl rfl ?_
  refine VS_pure (P_move rfl) rfl rfl rfl ?_
  refine VS_pure (df (P_leq rfl rfl) (by omega)) rfl rfl rfl ?_
  refine VS_pure (P_pick_t rfl rfl) rfl rfl rfl ?_
  refine VS_pure (P_assign rfl) rfl rfl rfl ?_
  refine VS_nil ?_
  refine QS_then ?_
  refine TS_false rfl ?_
  refine TS_seq ?_
  refine TS_seq ?_
  refine TS_region ?_
  refine VS_pure (P_move rfl) rfl rfl rfl ?_
  refine VS_if (P_eql rfl rfl) rfl rfl rfl (fun hc3 => ?_) (fun hc3 => ?_)
  refine VS_pure (P_assign rfl) rfl rfl rfl ?_
  refine VS_nil ?_
  refine QS_then ?_
  refine TS_true rfl ?_
  refine TS_skip ?_
  refine QS_then ?_
  refine TS_true rfl ?_
  refine TS_seq ?_
  refine TS_region ?_
  refine VS_pure (P_assign rfl) rfl rfl rfl ?_
  refine VS_nil ?_
  refine QS_then ?_
  refine TS_ret ?_
  refine QS_block_ret ?_
  refine QS_then_ret ?_
  (exact QS_ret [_] ⟨rfl, trivial⟩ [] (Pick.nil _) ⟨congrArg Value.bool (by simp [letterP] <;> omega), rfl⟩)
  refine VS_pure (P_assign rfl) rfl rfl rfl ?_
  refine VS_nil ?_
  refine QS_then ?_
  refine TS_false rfl ?_
  refine TS_region ?_
  refine VS_pure (P_move rfl) rfl rfl rfl ?_
  refine VS_if (P_eql rfl rfl) rfl rfl rfl (fun hc4 => ?_) (fun hc4 => ?_)
  refine VS_pure (P_assign rfl) rfl rfl rfl ?_
  refine VS_nil ?_
  refine QS_then ?_
  refine TS_true rfl ?_
  refine TS_seq ?_
  refine TS_region ?_
  refine VS_pure (P_assign rfl) rfl rfl rfl ?_
  refine VS_nil ?_
  refine QS_then ?_
  refine TS_ret ?_
  refine QS_block_ret ?_
  refine QS_then_ret ?_
  (exact QS_ret [_] ⟨rfl, trivial⟩ [] (Pick.nil _) ⟨congrArg Value.bool (by simp [letterP] <;> omega), rfl⟩)
  refine VS_pure (P_assign rfl) rfl rfl rfl ?_
  refine VS_nil ?_
  refine QS_then ?_
  refine TS_false rfl ?_
  refine TS_skip ?_
  refine QS_block ?_
  refine QS_then ?_
  refine TS_seq ?_
  refine TS_region ?_
  refine VS_pure (P_move rfl) rfl rfl rfl ?_
  refine VS_if (P_geq rfl rfl) rfl rfl rfl (fun hc5 => ?_) (fun hc5 => ?_)
  refine VS_pure (P_move rfl) rfl rfl rfl ?_
  refine VS_pure (P_move rfl) rfl rfl rfl ?_
  refine VS_if (P_leq rfl rfl) rfl rfl rfl (fun hc6 => ?_) (fun hc6 => ?_)
  refine VS_pure (P_pick_t rfl rfl) rfl rfl rfl ?_
  refine VS_pure (P_assign rfl) rfl rfl rfl ?_
  refine VS_nil ?_
  refine QS_then ?_
  refine TS_ret ?_
  (exact QS_ret [_] ⟨rfl, trivial⟩ [] (Pick.nil _) ⟨congrArg Value.bool (by simp [letterP] <;> omega), rfl⟩)
  refine VS_pure (P_pick_t rfl rfl) rfl rfl rfl ?_
  refine VS_pure (P_assign rfl) rfl rfl rfl ?_
  refine VS_nil ?_
  refine QS_then ?_
  refine TS_ret ?_
  (exact QS_ret [_] ⟨rfl, trivial⟩ [] (Pick.nil _) ⟨congrArg Value.bool (by simp [letterP] <;> omega), rfl⟩)
  refine VS_pure (P_move rfl) rfl rfl rfl ?_
  refine VS_skip rfl rfl rfl ?_
  refine VS_skip rfl rfl rfl ?_
  refine VS_pure (P_pick_f rfl rfl) rfl rfl rfl ?_
  refine VS_pure (P_assign rfl) rfl rfl rfl ?_
  refine VS_nil ?_
  refine QS_then ?_
  refine TS_ret ?_
  (exact QS_ret [_] ⟨rfl, trivial⟩ [] (Pick.nil _) ⟨congrArg Value.bool (by simp [letterP] <;> omega), rfl⟩)
  refine VS_pure (P_move rfl) rfl rfl rfl ?_
  refine VS_skip rfl rfl rfl ?_
  refine VS_skip rfl rfl rfl ?_
  refine VS_pure (P_pick_f rfl rfl) rfl rfl rfl ?_
  refine VS_pure (P_assign rfl) rfl rfl rfl ?_
  refine VS_nil ?_
  refine QS_then ?_
  refine TS_false rfl ?_
  refine TS_region ?_
  refine VS_pure (P_move rfl) rfl rfl rfl ?_
  refine VS_if (P_geq rfl rfl) rfl rfl rfl (fun hc2 => ?_) (fun hc2 => ?_)
  refine VS_pure (P_move rfl) rfl rfl rfl ?_
  refine VS_pure (P_move rfl) rfl rfl rfl ?_
  refine VS_if (P_leq rfl rfl) rfl rfl rfl (fun hc3 => ?_) (fun hc3 => ?_)
  refine VS_pure (P_pick_t rfl rfl) rfl rfl rfl ?_
  refine VS_pure (P_assign rfl) rfl rfl rfl ?_
  refine VS_nil ?_
  refine QS_then ?_
  refine TS_true rfl ?_
  refine TS_seq ?_
  refine TS_region ?_
  refine VS_pure (P_assign rfl) rfl rfl rfl ?_
  refine VS_nil ?_
  refine QS_then ?_
  refine TS_ret ?_
  refine QS_block_ret ?_
  refine QS_then_ret ?_
  (exact QS_ret [_] ⟨rfl, trivial⟩ [] (Pick.nil _) ⟨congrArg Value.bool (by simp [letterP] <;> omega), rfl⟩)
  refine VS_pure (P_pick_t rfl rfl) rfl rfl rfl ?_
  refine VS_pure (P_assign rfl) rfl rfl rfl ?_
  refine VS_nil ?_
  refine QS_then ?_
  refine TS_false rfl ?_
  refine TS_seq ?_
  refine TS_seq ?_
  refine TS_region ?_
  refine VS_pure (P_move rfl) rfl rfl rfl ?_
  refine VS_pure (df (P_eql rfl rfl) (by omega)) rfl rfl rfl ?_
  refine VS_pure (P_assign rfl) rfl rfl rfl ?_
  refine VS_nil ?_
  refine QS_then ?_
  refine TS_false rfl ?_
  refine TS_region ?_
  refine VS_pure (P_move rfl) rfl rfl rfl ?_
  refine VS_pure (df (P_eql rfl rfl) (by omega)) rfl rfl rfl ?_
  refine VS_pure (P_assign rfl) rfl rfl rfl ?_
  refine VS_nil ?_
  refine QS_then ?_
  refine TS_false rfl ?_
  refine TS_skip ?_
  refine QS_block ?_
  refine QS_then ?_
  refine TS_seq ?_
  refine TS_region ?_
  refine VS_pure (P_move rfl) rfl rfl rfl ?_
  refine VS_pure (df (P_geq rfl rfl) (by omega)) rfl rfl rfl ?_
  refine VS_pure (P_move rfl) rfl rfl rfl ?_
  refine VS_skip rfl rfl rfl ?_
  refine VS_skip rfl rfl rfl ?_
  refine VS_pure (P_pick_f rfl rfl) rfl rfl rfl ?_
  refine VS_pure (P_assign rfl) rfl rfl rfl ?_
  refine VS_nil ?_
  refine QS_then ?_
  refine TS_ret ?_
  (exact QS_ret [_] ⟨rfl, trivial⟩ [] (Pick.nil _) ⟨congrArg Value.bool (by simp [letterP] <;> omega), rfl⟩)
  refine VS_pure (P_move rfl) rfl rfl rfl ?_
  refine VS_skip rfl rfl rfl ?_
  refine VS_skip rfl rfl rfl ?_
  refine VS_pure (P_pick_f rfl rfl) rfl rfl rfl ?_
  refine VS_pure (P_assign rfl) rfl rfl rfl ?_
  refine VS_nil ?_
  refine QS_then ?_
  refine TS_false rfl ?_
  refine TS_seq ?_
  refine TS_seq ?_
  refine TS_region ?_
  refine VS_pure (P_move rfl) rfl rfl rfl ?_
  refine VS_pure (df (P_eql rfl rfl) (by omega)) rfl rfl rfl ?_
  refine VS_pure (P_assign rfl) rfl rfl rfl ?_
  refine VS_nil ?_
  refine QS_then ?_
  refine TS_false rfl ?_
  refine TS_region ?_
  refine VS_pure (P_move rfl) rfl rfl rfl ?_
  refine VS_pure (df (P_eql rfl rfl) (by omega)) rfl rfl rfl ?_
  refine VS_pure (P_assign rfl) rfl rfl rfl ?_
  refine VS_nil ?_
  refine QS_then ?_
  refine TS_false rfl ?_
  refine TS_skip ?_
  refine QS_block ?_
  refine QS_then ?_
  refine TS_seq ?_
  refine TS_region ?_
  refine VS_pure (P_move rfl) rfl rfl rfl ?_
  refine VS_pure (df (P_geq rfl rfl) (by omega)) rfl rfl rfl ?_
  refine VS_pure (P_move rfl) rfl rfl rfl ?_
  refine VS_skip rfl rfl rfl ?_
  refine VS_skip rfl rfl rfl ?_
  refine VS_pure (P_pick_f rfl rfl) rfl rfl rfl ?_
  refine VS_pure (P_assign rfl) rfl rfl rfl ?_
  refine VS_nil ?_
  refine QS_then ?_
  refine TS_ret ?_
  (exact QS_ret [_] ⟨rfl, trivial⟩ [] (Pick.nil _) ⟨congrArg Value.bool (by simp [letterP] <;> omega), rfl⟩)
theorem digit_ok {m : Mp} (x : Nat) : CS Tryd.prog 36 [.int .i32 x] m [] (Gives (.bool (digitP x))) := by
  refine CS_of [.tmp 2] Tryd.func36 rfl rfl rfl ?_
  refine TS_seq ?_
  refine TS_region ?_
  refine VS_pure (P_assign rfl) rfl rfl rfl ?_
  refine VS_nil ?_
  refine QS_then ?_
  refine TS_seq ?_
  refine TS_region ?_
  refine VS_pure (P_move rfl) rfl rfl rfl ?_
  refine VS_if (P_geq rfl rfl) rfl rfl rfl (fun hc1 => ?_) (fun hc1 => ?_)
  refine VS_pure (P_move rfl) rfl rfl rfl ?_
  refine VS_pure (P_move rfl) rfl rfl rfl ?_
  refine VS_if (P_leq rfl rfl) rfl rfl rfl (fun hc2 => ?_) (fun hc2 => ?_)
  refine VS_pure (P_pick_t rfl rfl) rfl rfl rfl ?_
  refine VS_pure (P_assign rfl) rfl rfl rfl ?_
  refine VS_nil ?_
  refine QS_then ?_
  refine TS_ret ?_
  (exact QS_ret [_] ⟨rfl, trivial⟩ [] (Pick.nil _) ⟨congrArg Value.bool (by simp [digitP] <;> omega), rfl⟩)
  refine VS_pure (P_pick_t rfl rfl) rfl rfl rfl ?_
  refine VS_pure (P_assign rfl) rfl rfl rfl ?_
  refine VS_nil ?_
  refine QS_then ?_
  refine TS_ret ?_
  (exact QS_ret [_] ⟨rfl, trivial⟩ [] (Pick.nil _) ⟨congrArg Value.bool (by simp [digitP] <;> omega), rfl⟩)
  refine VS_pure (P_move rfl) rfl rfl rfl ?_
  refine VS_skip rfl rfl rfl ?_
  refine VS_skip rfl rfl rfl ?_
  refine VS_pure (P_pick_f rfl rfl) rfl rfl rfl ?_
  refine VS_pure (P_assign rfl) rfl rfl rfl ?_
  refine VS_nil ?_
  refine QS_then ?_
  refine TS_ret ?_
  (exact QS_ret [_] ⟨rfl, trivial⟩ [] (Pick.nil _) ⟨congrArg Value.bool (by simp [digitP] <;> omega), rfl⟩)
theorem letterR_ok {m : Mp} (x : Nat) : CS Tryd.prog 21 [.int .i64 x] m [] (Gives (.bool (letterP x))) := by
  refine CS_of [.tmp 2] Tryd.func21 rfl rfl rfl ?_
  refine TS_seq ?_
  refine TS_region ?_
  refine VS_pure (P_assign rfl) rfl rfl rfl ?_
  refine VS_nil ?_
  refine QS_then ?_
  refine TS_seq ?_
  refine TS_region ?_
  refine VS_pure (P_move rfl) rfl rfl rfl ?_
  refine VS_if (P_geq rfl rfl) rfl rfl rfl (fun hc1 => ?_) (fun hc1 => ?_)
  refine VS_pure (P_move rfl) rfl rfl rfl ?_
  refine VS_pure (P_move rfl) rfl rfl rfl ?_
  refine VS_if (P_leq rfl rfl) rfl rfl rfl (fun hc2 => ?_) (fun hc2 => ?_)
  refine VS_pure (P_pick_t rfl rfl) rfl rfl rfl ?_
  refine VS_pure (P_move rfl) rfl rfl rfl ?_
  iterate 6 (refine VS_skip rfl rfl rfl ?_)
  refine VS_pure (P_pick_t rfl rfl) rfl rfl rfl ?_
  refine VS_pure (P_move rfl) rfl rfl rfl ?_
  iterate 14 (refine VS_skip rfl rfl rfl ?_)
  refine VS_pure (P_pick_t rfl rfl) rfl rfl rfl ?_
  refine VS_pure (P_assign rfl) rfl rfl rfl ?_
  refine VS_nil ?_
  refine QS_then ?_
  refine TS_ret ?_
  (exact QS_ret [_] ⟨rfl, trivial⟩ [] (Pick.nil _) ⟨congrArg Value.bool (by simp [letterP] <;> omega), rfl⟩)
  refine VS_pure (P_pick_t rfl rfl) rfl rfl rfl ?_
  refine VS_pure (P_move rfl) rfl rfl rfl ?_
  refine VS_pure (P_move rfl) rfl rfl rfl ?_
  refine VS_pure (dt (P_geq rfl rfl) (by omega)) rfl rfl rfl ?_
  refine VS_pure (P_move rfl) rfl rfl rfl ?_
  refine VS_pure (P_move rfl) rfl rfl rfl ?_
  refine VS_pure (df (P_leq rfl rfl) (by omega)) rfl rfl rfl ?_
  refine VS_pure (P_pick_t rfl rfl) rfl rfl rfl ?_
  refine VS_pure (P_pick_f rfl rfl) rfl rfl rfl ?_
  refine VS_pure (P_move rfl) rfl rfl rfl ?_
  refine VS_pure (P_move rfl) rfl rfl rfl ?_
  refine VS_if (P_geq rfl rfl) rfl rfl rfl (fun hc3 => ?_) (fun hc3 => ?_)
  refine VS_pure (P_move rfl) rfl rfl rfl ?_
  refine VS_pure (P_move rfl) rfl rfl rfl ?_
  refine VS_if (P_leq rfl rfl) rfl rfl rfl (fun hc4 => ?_) (fun hc4 => ?_)
  refine VS_pure (P_pick_t rfl rfl) rfl rfl rfl ?_
  refine VS_pure (P_move rfl) rfl rfl rfl ?_
  refine VS_pure (P_move rfl) rfl rfl rfl ?_
  refine VS_if (P_neq rfl rfl) rfl rfl rfl (fun hc5 => ?_) (fun hc5 => ?_)
  refine VS_pure (P_pick_t rfl rfl) rfl rfl rfl ?_
  refine VS_pure (P_move rfl) rfl rfl rfl ?_
  refine VS_pure (P_move rfl) rfl rfl rfl ?_
  refine VS_if (P_neq rfl rfl) rfl rfl rfl (fun hc6 => ?_) (fun hc6 => ?_)
  refine VS_pure (P_pick_t rfl rfl) rfl rfl rfl ?_
  refine VS_pure (P_pick_f rfl rfl) rfl rfl rfl ?_
  refine VS_pure (P_assign rfl) rfl rfl rfl ?_
  refine VS_nil ?_
  refine QS_then ?_
  refine TS_ret ?_
  (exact QS_ret [_] ⟨rfl, trivial⟩ [] (Pick.nil _) ⟨congrArg Value.bool (by simp [letterP] <;> omega), rfl⟩)
  refine VS_pure (P_pick_t rfl rfl) rfl rfl rfl ?_
  refine VS_pure (P_pick_f rfl rfl) rfl rfl rfl ?_
  refine VS_pure (P_assign rfl) rfl rfl rfl ?_
  refine VS_nil ?_
  refine QS_then ?_
  refine TS_ret ?_
  (exact QS_ret [_] ⟨rfl, trivial⟩ [] (Pick.nil _) ⟨congrArg Value.bool (by simp [letterP] <;> omega), rfl⟩)
  refine VS_pure (P_pick_t rfl rfl) rfl rfl rfl ?_
  refine VS_pure (P_move rfl) rfl rfl rfl ?_
  refine VS_skip rfl rfl rfl ?_
  refine VS_skip rfl rfl rfl ?_
  refine VS_pure (P_pick_f rfl rfl) rfl rfl rfl ?_
  refine VS_pure (P_pick_f rfl rfl) rfl rfl rfl ?_
  refine VS_pure (P_assign rfl) rfl rfl rfl ?_
  refine VS_nil ?_
  refine QS_then ?_
  refine TS_ret ?_
  (exact QS_ret [_] ⟨rfl, trivial⟩ [] (Pick.nil _) ⟨congrArg Value.bool (by simp [letterP] <;> omega), rfl⟩)
  refine VS_pure (P_pick_t rfl rfl) rfl rfl rfl ?_
  refine VS_pure (P_move rfl) rfl rfl rfl ?_
  refine VS_skip rfl rfl rfl ?_
  refine VS_skip rfl rfl rfl ?_
  refine VS_pure (P_pick_f rfl rfl) rfl rfl rfl ?_
  refine VS_pure (P_move rfl) rfl rfl rfl ?_
  refine VS_skip rfl rfl rfl ?_
  refine VS_skip rfl rfl rfl ?_
  refine VS_pure (P_pick_f rfl rfl) rfl rfl rfl ?_
  refine VS_pure (P_pick_f rfl rfl) rfl rfl rfl ?_
  refine VS_pure (P_assign rfl) rfl rfl rfl ?_
  refine VS_nil ?_
  refine QS_then ?_
  refine TS_ret ?_
  (exact QS_ret [_] ⟨rfl, trivial⟩ [] (Pick.nil _) ⟨congrArg Value.bool (by simp [letterP] <;> omega), rfl⟩)
  refine VS_pure (P_move rfl) rfl rfl rfl ?_
  refine VS_skip rfl rfl rfl ?_
  refine VS_skip rfl rfl rfl ?_
  refine VS_pure (P_pick_f rfl rfl) rfl rfl rfl ?_
  refine VS_pure (P_move rfl) rfl rfl rfl ?_
  refine VS_skip rfl rfl rfl ?_
  refine VS_skip rfl rfl rfl ?_
  refine VS_pure (P_pick_f rfl rfl) rfl rfl rfl ?_
  refine VS_pure (P_move rfl) rfl rfl rfl ?_
  refine VS_skip rfl rfl rfl ?_
  refine VS_skip rfl rfl rfl ?_
  refine VS_pure (P_pick_f rfl rfl) rfl rfl rfl ?_
  refine VS_pure (P_pick_f rfl rfl) rfl rfl rfl ?_
  refine VS_pure (P_assign rfl) rfl rfl rfl ?_
  refine VS_nil ?_
  refine QS_then ?_
  refine TS_ret ?_
  (exact QS_ret [_] ⟨rfl, trivial⟩ [] (Pick.nil _) ⟨congrArg Value.bool (by simp [letterP] <;> omega), rfl⟩)
  refine VS_pure (P_move rfl) rfl rfl rfl ?_
  refine VS_skip rfl rfl rfl ?_
  refine VS_skip rfl rfl rfl ?_
  refine VS_pure (P_pick_f rfl rfl) rfl rfl rfl ?_
  refine VS_pure (P_move rfl) rfl rfl rfl ?_
  refine VS_pure (P_move rfl) rfl rfl rfl ?_
  refine VS_if (P_geq rfl rfl) rfl rfl rfl (fun hc2 => ?_) (fun hc2 => ?_)
  refine VS_pure (P_move rfl) rfl rfl rfl ?_
  refine VS_pure (P_move rfl) rfl rfl rfl ?_
  refine VS_if (P_leq rfl rfl) rfl rfl rfl (fun hc3 => ?_) (fun hc3 => ?_)
  refine VS_pure (P_pick_t rfl rfl) rfl rfl rfl ?_
  refine VS_pure (P_pick_f rfl rfl) rfl rfl rfl ?_
  refine VS_pure (P_move rfl) rfl rfl rfl ?_
  iterate 14 (refine VS_skip rfl rfl rfl ?_)
  refine VS_pure (P_pick_t rfl rfl) rfl rfl rfl ?_
  refine VS_pure (P_assign rfl) rfl rfl rfl ?_
  refine VS_nil ?_
  refine QS_then ?_
  refine TS_ret ?_
  (exact QS_ret [_] ⟨rfl, trivial⟩ [] (Pick.nil _) ⟨congrArg Value.bool (by simp [letterP] <;> omega), rfl⟩)
  refine VS_pure (P_pick_t rfl rfl) rfl rfl rfl ?_
  refine VS_pure (P_pick_f rfl rfl) rfl rfl rfl ?_
  refine VS_pure (P_move rfl) rfl rfl rfl ?_
  refine VS_pure (P_move rfl) rfl rfl rfl ?_
  refine VS_pure (df (P_geq rfl rfl) (by omega)) rfl rfl rfl ?_
  refine VS_pure (P_move rfl) rfl rfl rfl ?_
  refine VS_skip rfl rfl rfl ?_
  refine VS_skip rfl rfl rfl ?_
  refine VS_pure (P_pick_f rfl rfl) rfl rfl rfl ?_
  refine VS_pure (P_move rfl) rfl rfl rfl ?_
  refine VS_skip rfl rfl rfl ?_
  refine VS_skip rfl rfl rfl ?_
  refine VS_pure (P_pick_f rfl rfl) rfl rfl rfl ?_
  refine VS_pure (P_move rfl) rfl rfl rfl ?_
  refine VS_skip rfl rfl rfl ?_
  refine VS_skip rfl rfl rfl ?_
  refine VS_pure (P_pick_f rfl rfl) rfl rfl rfl ?_
  refine VS_pure (P_pick_f rfl rfl) rfl rfl rfl ?_
  refine VS_pure (P_assign rfl) rfl rfl rfl ?_
  refine VS_nil ?_
  refine QS_then ?_
  refine TS_ret ?_
  (exact QS_ret [_] ⟨rfl, trivial⟩ [] (Pick.nil _) ⟨congrArg Value.bool (by simp [letterP] <;> omega), rfl⟩)
  refine VS_pure (P_move rfl) rfl rfl rfl ?_
  refine VS_skip rfl rfl rfl ?_
  refine VS_skip rfl rfl rfl ?_
  refine VS_pure (P_pick_f rfl rfl) rfl rfl rfl ?_
  refine VS_pure (P_pick_f rfl rfl) rfl rfl rfl ?_
  refine VS_pure (P_move rfl) rfl rfl rfl ?_
  refine VS_pure (P_move rfl) rfl rfl rfl ?_
  refine VS_pure (df (P_geq rfl rfl) (by omega)) rfl rfl rfl ?_
  refine VS_pure (P_move rfl) rfl rfl rfl ?_
  refine VS_skip rfl rfl rfl ?_
  refine VS_skip rfl rfl rfl ?_
  refine VS_pure (P_pick_f rfl rfl) rfl rfl rfl ?_
  refine VS_pure (P_move rfl) rfl rfl rfl ?_
  refine VS_skip rfl rfl rfl ?_
  refine VS_skip rfl rfl rfl ?_
  refine VS_pure (P_pick_f rfl rfl) rfl rfl rfl ?_
  refine VS_pure (P_move rfl) rfl rfl rfl ?_
  refine VS_skip rfl rfl rfl ?_
  refine VS_skip rfl rfl rfl ?_
  refine VS_pure (P_pick_f rfl rfl) rfl rfl rfl ?_
  refine VS_pure (P_pick_f rfl rfl) rfl rfl rfl ?_
  refine VS_pure (P_assign rfl) rfl rfl rfl ?_
  refine VS_nil ?_
  refine QS_then ?_
  refine TS_ret ?_
  (exact QS_ret [_] ⟨rfl, trivial⟩ [] (Pick.nil _) ⟨congrArg Value.bool (by simp [letterP] <;> omega), rfl⟩)
theorem digitR_ok {m : Mp} (x : Nat) : CS Tryd.prog 22 [.int .i64 x] m [] (Gives (.bool (digitP x))) := by
  refine CS_of [.tmp 2] Tryd.func22 rfl rfl rfl ?_
  refine TS_seq ?_
  refine TS_region ?_
  refine VS_pure (P_assign rfl) rfl rfl rfl ?_
  refine VS_nil ?_
  refine QS_then ?_
  refine TS_seq ?_
  refine TS_region ?_
  refine VS_pure (P_move rfl) rfl rfl rfl ?_
  refine VS_if (P_geq rfl rfl) rfl rfl rfl (fun hc1 => ?_) (fun hc1 => ?_)
  refine VS_pure (P_move rfl) rfl rfl rfl ?_
  refine VS_pure (P_move rfl) rfl rfl rfl ?_
  refine VS_if (P_leq rfl rfl) rfl rfl rfl (fun hc2 => ?_) (fun hc2 => ?_)
  refine VS_pure (P_pick_t rfl rfl) rfl rfl rfl ?_
  refine VS_pure (P_assign rfl) rfl rfl rfl ?_
  refine VS_nil ?_
  refine QS_then ?_
  refine TS_ret ?_
  (exact QS_ret [_] ⟨rfl, trivial⟩ [] (Pick.nil _) ⟨congrArg Value.bool (by simp [digitP] <;> omega), rfl⟩)
  refine VS_pure (P_pick_t rfl rfl) rfl rfl rfl ?_
  refine VS_pure (P_assign rfl) rfl rfl rfl ?_
  refine VS_nil ?_
  refine QS_then ?_
  refine TS_ret ?_
  (exact QS_ret [_] ⟨rfl, trivial⟩ [] (Pick.nil _) ⟨congrArg Value.bool (by simp [digitP] <;> omega), rfl⟩)
  refine VS_pure (P_move rfl) rfl rfl rfl ?_
  refine VS_skip rfl rfl rfl ?_
  refine VS_skip rfl rfl rfl ?_
  refine VS_pure (P_pick_f rfl rfl) rfl rfl rfl ?_
  refine VS_pure (P_assign rfl) rfl rfl rfl ?_
  refine VS_nil ?_
  refine QS_then ?_
  refine TS_ret ?_
  (exact QS_ret [_] ⟨rfl, trivial⟩ [] (Pick.nil _) ⟨congrArg Value.bool (by simp [digitP] <;> omega), rfl⟩)
end Go.Proofs.YtbghonkgflolaaaDoor
