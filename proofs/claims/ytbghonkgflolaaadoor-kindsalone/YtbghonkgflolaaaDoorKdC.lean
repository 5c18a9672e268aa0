/- A part of the proof: contracts of functions of the program. No condition. -/
import Derived.Test.YtbghonkgflolaaaDoorFacts
import Derived.Test.YtbghonkgflolaaaDoorKdP
import Derived.Test.YtbghonkgflolaaaDoorEng2
namespace Go.Proofs.YtbghonkgflolaaaDoor
open Go.Eng Kd
set_option maxRecDepth 100000
set_option maxHeartbeats 4000000 in
theorem counts30 {m : Mp} (op : Int) : CS Tryd.prog 30 [.int .i8 op] m [] (Gives (.bool (countsB op))) := by
  refine CS_of [.tmp 2] Tryd.func30 rfl rfl rfl ?_
  by_cases h0 : op = 0
  · refine TS_seq ?_
    refine TS_region ?_
    refine VS_pure (P_assign rfl) rfl rfl rfl ?_
    refine VS_nil ?_
    refine QS_then ?_
    refine TS_seq ?_
    refine TS_seq ?_
    refine TS_region ?_
    refine VS_pure (P_move rfl) rfl rfl rfl ?_
    refine VS_nil ?_
    refine QS_then ?_
    refine TS_block ?_
    refine TS_seq ?_
    refine TS_seq ?_
    refine TS_region ?_
    refine VS_pure (dt (P_eql rfl rfl) (by assumption)) rfl rfl rfl ?_
    refine VS_pure (P_assign rfl) rfl rfl rfl ?_
    refine VS_nil ?_
    refine QS_then ?_
    refine TS_true rfl ?_
    refine TS_skip ?_
    refine QS_then ?_
    refine TS_true rfl ?_
    refine TS_seq ?_
    refine TS_region ?_
    refine VS_pure (P_assign rfl) rfl rfl rfl ?_
    refine VS_nil ?_
    refine QS_then ?_
    refine TS_ret ?_
    refine QS_block_ret ?_
    refine QS_then_ret ?_
    (exact QS_ret [_] ⟨rfl, trivial⟩ [] (Pick.nil _) ⟨congrArg Value.bool (by simp [countsB, *]), rfl⟩)
  by_cases h1 : op = 1
  · refine TS_seq ?_
    refine TS_region ?_
    refine VS_pure (P_assign rfl) rfl rfl rfl ?_
    refine VS_nil ?_
    refine QS_then ?_
    refine TS_seq ?_
    refine TS_seq ?_
    refine TS_region ?_
    refine VS_pure (P_move rfl) rfl rfl rfl ?_
    refine VS_nil ?_
    refine QS_then ?_
    refine TS_block ?_
    refine TS_seq ?_
    refine TS_seq ?_
    refine TS_region ?_
    refine VS_pure (df (P_eql rfl rfl) (by assumption)) rfl rfl rfl ?_
    refine VS_pure (P_assign rfl) rfl rfl rfl ?_
    refine VS_nil ?_
    refine QS_then ?_
    refine TS_false rfl ?_
    refine TS_seq ?_
    refine TS_region ?_
    refine VS_pure (dt (P_eql rfl rfl) (by assumption)) rfl rfl rfl ?_
    refine VS_pure (P_assign rfl) rfl rfl rfl ?_
    refine VS_nil ?_
    refine QS_then ?_
    refine TS_true rfl ?_
    refine TS_skip ?_
    refine QS_then ?_
    refine TS_true rfl ?_
    refine TS_seq ?_
    refine TS_region ?_
    refine VS_pure (P_assign rfl) rfl rfl rfl ?_
    refine VS_nil ?_
    refine QS_then ?_
    refine TS_ret ?_
    refine QS_block_ret ?_
    refine QS_then_ret ?_
    (exact QS_ret [_] ⟨rfl, trivial⟩ [] (Pick.nil _) ⟨congrArg Value.bool (by simp [countsB, *]), rfl⟩)
  by_cases h2 : op = 2
  · refine TS_seq ?_
    refine TS_region ?_
    refine VS_pure (P_assign rfl) rfl rfl rfl ?_
    refine VS_nil ?_
    refine QS_then ?_
    refine TS_seq ?_
    refine TS_seq ?_
    refine TS_region ?_
    refine VS_pure (P_move rfl) rfl rfl rfl ?_
    refine VS_nil ?_
    refine QS_then ?_
    refine TS_block ?_
    refine TS_seq ?_
    refine TS_seq ?_
    refine TS_region ?_
    refine VS_pure (df (P_eql rfl rfl) (by assumption)) rfl rfl rfl ?_
    refine VS_pure (P_assign rfl) rfl rfl rfl ?_
    refine VS_nil ?_
    refine QS_then ?_
    refine TS_false rfl ?_
    refine TS_seq ?_
    refine TS_region ?_
    refine VS_pure (df (P_eql rfl rfl) (by assumption)) rfl rfl rfl ?_
    refine VS_pure (P_assign rfl) rfl rfl rfl ?_
    refine VS_nil ?_
    refine QS_then ?_
    refine TS_false rfl ?_
    refine TS_seq ?_
    refine TS_region ?_
    refine VS_pure (dt (P_eql rfl rfl) (by assumption)) rfl rfl rfl ?_
    refine VS_pure (P_assign rfl) rfl rfl rfl ?_
    refine VS_nil ?_
    refine QS_then ?_
    refine TS_true rfl ?_
    refine TS_skip ?_
    refine QS_then ?_
    refine TS_true rfl ?_
    refine TS_seq ?_
    refine TS_region ?_
    refine VS_pure (P_assign rfl) rfl rfl rfl ?_
    refine VS_nil ?_
    refine QS_then ?_
    refine TS_ret ?_
    refine QS_block_ret ?_
    refine QS_then_ret ?_
    (exact QS_ret [_] ⟨rfl, trivial⟩ [] (Pick.nil _) ⟨congrArg Value.bool (by simp [countsB, *]), rfl⟩)
  by_cases h3 : op = 3
  · refine TS_seq ?_
    refine TS_region ?_
    refine VS_pure (P_assign rfl) rfl rfl rfl ?_
    refine VS_nil ?_
    refine QS_then ?_
    refine TS_seq ?_
    refine TS_seq ?_
    refine TS_region ?_
    refine VS_pure (P_move rfl) rfl rfl rfl ?_
    refine VS_nil ?_
    refine QS_then ?_
    refine TS_block ?_
    refine TS_seq ?_
    refine TS_seq ?_
    refine TS_region ?_
    refine VS_pure (df (P_eql rfl rfl) (by assumption)) rfl rfl rfl ?_
    refine VS_pure (P_assign rfl) rfl rfl rfl ?_
    refine VS_nil ?_
    refine QS_then ?_
    refine TS_false rfl ?_
    refine TS_seq ?_
    refine TS_region ?_
    refine VS_pure (df (P_eql rfl rfl) (by assumption)) rfl rfl rfl ?_
    refine VS_pure (P_assign rfl) rfl rfl rfl ?_
    refine VS_nil ?_
    refine QS_then ?_
    refine TS_false rfl ?_
    refine TS_seq ?_
    refine TS_region ?_
    refine VS_pure (df (P_eql rfl rfl) (by assumption)) rfl rfl rfl ?_
    refine VS_pure (P_assign rfl) rfl rfl rfl ?_
    refine VS_nil ?_
    refine QS_then ?_
    refine TS_false rfl ?_
    refine TS_seq ?_
    refine TS_region ?_
    refine VS_pure (dt (P_eql rfl rfl) (by assumption)) rfl rfl rfl ?_
    refine VS_pure (P_assign rfl) rfl rfl rfl ?_
    refine VS_nil ?_
    refine QS_then ?_
    refine TS_true rfl ?_
    refine TS_skip ?_
    refine QS_then ?_
    refine TS_true rfl ?_
    refine TS_seq ?_
    refine TS_region ?_
    refine VS_pure (P_assign rfl) rfl rfl rfl ?_
    refine VS_nil ?_
    refine QS_then ?_
    refine TS_ret ?_
    refine QS_block_ret ?_
    refine QS_then_ret ?_
    (exact QS_ret [_] ⟨rfl, trivial⟩ [] (Pick.nil _) ⟨congrArg Value.bool (by simp [countsB, *]), rfl⟩)
  by_cases h5 : op = 5
  · refine TS_seq ?_
    refine TS_region ?_
    refine VS_pure (P_assign rfl) rfl rfl rfl ?_
    refine VS_nil ?_
    refine QS_then ?_
    refine TS_seq ?_
    refine TS_seq ?_
    refine TS_region ?_
    refine VS_pure (P_move rfl) rfl rfl rfl ?_
    refine VS_nil ?_
    refine QS_then ?_
    refine TS_block ?_
    refine TS_seq ?_
    refine TS_seq ?_
    refine TS_region ?_
    refine VS_pure (df (P_eql rfl rfl) (by assumption)) rfl rfl rfl ?_
    refine VS_pure (P_assign rfl) rfl rfl rfl ?_
    refine VS_nil ?_
    refine QS_then ?_
    refine TS_false rfl ?_
    refine TS_seq ?_
    refine TS_region ?_
    refine VS_pure (df (P_eql rfl rfl) (by assumption)) rfl rfl rfl ?_
    refine VS_pure (P_assign rfl) rfl rfl rfl ?_
    refine VS_nil ?_
    refine QS_then ?_
    refine TS_false rfl ?_
    refine TS_seq ?_
    refine TS_region ?_
    refine VS_pure (df (P_eql rfl rfl) (by assumption)) rfl rfl rfl ?_
    refine VS_pure (P_assign rfl) rfl rfl rfl ?_
    refine VS_nil ?_
    refine QS_then ?_
    refine TS_false rfl ?_
    refine TS_seq ?_
    refine TS_region ?_
    refine VS_pure (df (P_eql rfl rfl) (by assumption)) rfl rfl rfl ?_
    refine VS_pure (P_assign rfl) rfl rfl rfl ?_
    refine VS_nil ?_
    refine QS_then ?_
    refine TS_false rfl ?_
    refine TS_region ?_
    refine VS_pure (dt (P_eql rfl rfl) (by assumption)) rfl rfl rfl ?_
    refine VS_pure (P_assign rfl) rfl rfl rfl ?_
    refine VS_nil ?_
    refine QS_then ?_
    refine TS_true rfl ?_
    refine TS_seq ?_
    refine TS_region ?_
    refine VS_pure (P_assign rfl) rfl rfl rfl ?_
    refine VS_nil ?_
    refine QS_then ?_
    refine TS_ret ?_
    refine QS_block_ret ?_
    refine QS_then_ret ?_
    (exact QS_ret [_] ⟨rfl, trivial⟩ [] (Pick.nil _) ⟨congrArg Value.bool (by simp [countsB, *]), rfl⟩)
  · refine TS_seq ?_
    refine TS_region ?_
    refine VS_pure (P_assign rfl) rfl rfl rfl ?_
    refine VS_nil ?_
    refine QS_then ?_
    refine TS_seq ?_
    refine TS_seq ?_
    refine TS_region ?_
    refine VS_pure (P_move rfl) rfl rfl rfl ?_
    refine VS_nil ?_
    refine QS_then ?_
    refine TS_block ?_
    refine TS_seq ?_
    refine TS_seq ?_
    refine TS_region ?_
    refine VS_pure (df (P_eql rfl rfl) (by assumption)) rfl rfl rfl ?_
    refine VS_pure (P_assign rfl) rfl rfl rfl ?_
    refine VS_nil ?_
    refine QS_then ?_
    refine TS_false rfl ?_
    refine TS_seq ?_
    refine TS_region ?_
    refine VS_pure (df (P_eql rfl rfl) (by assumption)) rfl rfl rfl ?_
    refine VS_pure (P_assign rfl) rfl rfl rfl ?_
    refine VS_nil ?_
    refine QS_then ?_
    refine TS_false rfl ?_
    refine TS_seq ?_
    refine TS_region ?_
    refine VS_pure (df (P_eql rfl rfl) (by assumption)) rfl rfl rfl ?_
    refine VS_pure (P_assign rfl) rfl rfl rfl ?_
    refine VS_nil ?_
    refine QS_then ?_
    refine TS_false rfl ?_
    refine TS_seq ?_
    refine TS_region ?_
    refine VS_pure (df (P_eql rfl rfl) (by assumption)) rfl rfl rfl ?_
    refine VS_pure (P_assign rfl) rfl rfl rfl ?_
    refine VS_nil ?_
    refine QS_then ?_
    refine TS_false rfl ?_
    refine TS_region ?_
    refine VS_pure (df (P_eql rfl rfl) (by assumption)) rfl rfl rfl ?_
    refine VS_pure (P_assign rfl) rfl rfl rfl ?_
    refine VS_nil ?_
    refine QS_then ?_
    refine TS_false rfl ?_
    refine TS_skip ?_
    refine QS_block ?_
    refine QS_then ?_
    refine TS_seq ?_
    refine TS_region ?_
    refine VS_pure (P_assign rfl) rfl rfl rfl ?_
    refine VS_nil ?_
    refine QS_then ?_
    refine TS_ret ?_
    (exact QS_ret [_] ⟨rfl, trivial⟩ [] (Pick.nil _) ⟨congrArg Value.bool (by simp [countsB, *]), rfl⟩)
set_option maxHeartbeats 4000000 in
theorem counts24 {m : Mp} (op : Int) : CS Tryd.prog 24 [.int .i8 op] m [] (Gives (.bool (countsB op))) := by
  refine CS_of [.tmp 2] Tryd.func24 rfl rfl rfl ?_
  by_cases h0 : op = 0
  · refine TS_seq ?_
    refine TS_region ?_
    refine VS_pure (P_assign rfl) rfl rfl rfl ?_
    refine VS_nil ?_
    refine QS_then ?_
    refine TS_seq ?_
    refine TS_region ?_
    refine VS_pure (P_move rfl) rfl rfl rfl ?_
    refine VS_pure (dt (P_eql rfl rfl) (by assumption)) rfl rfl rfl ?_
    refine VS_pure (P_move rfl) rfl rfl rfl ?_
    refine VS_skip rfl rfl rfl ?_
    refine VS_skip rfl rfl rfl ?_
    refine VS_pure (P_pick_t rfl rfl) rfl rfl rfl ?_
    refine VS_pure (P_move rfl) rfl rfl rfl ?_
    refine VS_skip rfl rfl rfl ?_
    refine VS_skip rfl rfl rfl ?_
    refine VS_pure (P_pick_t rfl rfl) rfl rfl rfl ?_
    refine VS_pure (P_move rfl) rfl rfl rfl ?_
    refine VS_skip rfl rfl rfl ?_
    refine VS_skip rfl rfl rfl ?_
    refine VS_pure (P_pick_t rfl rfl) rfl rfl rfl ?_
    refine VS_pure (P_move rfl) rfl rfl rfl ?_
    refine VS_skip rfl rfl rfl ?_
    refine VS_skip rfl rfl rfl ?_
    refine VS_pure (P_pick_t rfl rfl) rfl rfl rfl ?_
    refine VS_pure (P_assign rfl) rfl rfl rfl ?_
    refine VS_nil ?_
    refine QS_then ?_
    refine TS_ret ?_
    (exact QS_ret [_] ⟨rfl, trivial⟩ [] (Pick.nil _) ⟨congrArg Value.bool (by simp [countsB, *]), rfl⟩)
  by_cases h1 : op = 1
  · refine TS_seq ?_
    refine TS_region ?_
    refine VS_pure (P_assign rfl) rfl rfl rfl ?_
    refine VS_nil ?_
    refine QS_then ?_
    refine TS_seq ?_
    refine TS_region ?_
    refine VS_pure (P_move rfl) rfl rfl rfl ?_
    refine VS_pure (df (P_eql rfl rfl) (by assumption)) rfl rfl rfl ?_
    refine VS_pure (P_move rfl) rfl rfl rfl ?_
    refine VS_pure (P_move rfl) rfl rfl rfl ?_
    refine VS_pure (dt (P_eql rfl rfl) (by assumption)) rfl rfl rfl ?_
    refine VS_pure (P_pick_f rfl rfl) rfl rfl rfl ?_
    refine VS_pure (P_move rfl) rfl rfl rfl ?_
    refine VS_skip rfl rfl rfl ?_
    refine VS_skip rfl rfl rfl ?_
    refine VS_pure (P_pick_t rfl rfl) rfl rfl rfl ?_
    refine VS_pure (P_move rfl) rfl rfl rfl ?_
    refine VS_skip rfl rfl rfl ?_
    refine VS_skip rfl rfl rfl ?_
    refine VS_pure (P_pick_t rfl rfl) rfl rfl rfl ?_
    refine VS_pure (P_move rfl) rfl rfl rfl ?_
    refine VS_skip rfl rfl rfl ?_
    refine VS_skip rfl rfl rfl ?_
    refine VS_pure (P_pick_t rfl rfl) rfl rfl rfl ?_
    refine VS_pure (P_assign rfl) rfl rfl rfl ?_
    refine VS_nil ?_
    refine QS_then ?_
    refine TS_ret ?_
    (exact QS_ret [_] ⟨rfl, trivial⟩ [] (Pick.nil _) ⟨congrArg Value.bool (by simp [countsB, *]), rfl⟩)
  by_cases h2 : op = 2
  · refine TS_seq ?_
    refine TS_region ?_
    refine VS_pure (P_assign rfl) rfl rfl rfl ?_
    refine VS_nil ?_
    refine QS_then ?_
    refine TS_seq ?_
    refine TS_region ?_
    refine VS_pure (P_move rfl) rfl rfl rfl ?_
    refine VS_pure (df (P_eql rfl rfl) (by assumption)) rfl rfl rfl ?_
    refine VS_pure (P_move rfl) rfl rfl rfl ?_
    refine VS_pure (P_move rfl) rfl rfl rfl ?_
    refine VS_pure (df (P_eql rfl rfl) (by assumption)) rfl rfl rfl ?_
    refine VS_pure (P_pick_f rfl rfl) rfl rfl rfl ?_
    refine VS_pure (P_move rfl) rfl rfl rfl ?_
    refine VS_pure (P_move rfl) rfl rfl rfl ?_
    refine VS_pure (dt (P_eql rfl rfl) (by assumption)) rfl rfl rfl ?_
    refine VS_pure (P_pick_f rfl rfl) rfl rfl rfl ?_
    refine VS_pure (P_move rfl) rfl rfl rfl ?_
    refine VS_skip rfl rfl rfl ?_
    refine VS_skip rfl rfl rfl ?_
    refine VS_pure (P_pick_t rfl rfl) rfl rfl rfl ?_
    refine VS_pure (P_move rfl) rfl rfl rfl ?_
    refine VS_skip rfl rfl rfl ?_
    refine VS_skip rfl rfl rfl ?_
    refine VS_pure (P_pick_t rfl rfl) rfl rfl rfl ?_
    refine VS_pure (P_assign rfl) rfl rfl rfl ?_
    refine VS_nil ?_
    refine QS_then ?_
    refine TS_ret ?_
    (exact QS_ret [_] ⟨rfl, trivial⟩ [] (Pick.nil _) ⟨congrArg Value.bool (by simp [countsB, *]), rfl⟩)
  by_cases h3 : op = 3
  · refine TS_seq ?_
    refine TS_region ?_
    refine VS_pure (P_assign rfl) rfl rfl rfl ?_
    refine VS_nil ?_
    refine QS_then ?_
    refine TS_seq ?_
    refine TS_region ?_
    refine VS_pure (P_move rfl) rfl rfl rfl ?_
    refine VS_pure (df (P_eql rfl rfl) (by assumption)) rfl rfl rfl ?_
    refine VS_pure (P_move rfl) rfl rfl rfl ?_
    refine VS_pure (P_move rfl) rfl rfl rfl ?_
    refine VS_pure (df (P_eql rfl rfl) (by assumption)) rfl rfl rfl ?_
    refine VS_pure (P_pick_f rfl rfl) rfl rfl rfl ?_
    refine VS_pure (P_move rfl) rfl rfl rfl ?_
    refine VS_pure (P_move rfl) rfl rfl rfl ?_
    refine VS_pure (df (P_eql rfl rfl) (by assumption)) rfl rfl rfl ?_
    refine VS_pure (P_pick_f rfl rfl) rfl rfl rfl ?_
    refine VS_pure (P_move rfl) rfl rfl rfl ?_
    refine VS_pure (P_move rfl) rfl rfl rfl ?_
    refine VS_pure (dt (P_eql rfl rfl) (by assumption)) rfl rfl rfl ?_
    refine VS_pure (P_pick_f rfl rfl) rfl rfl rfl ?_
    refine VS_pure (P_move rfl) rfl rfl rfl ?_
    refine VS_skip rfl rfl rfl ?_
    refine VS_skip rfl rfl rfl ?_
    refine VS_pure (P_pick_t rfl rfl) rfl rfl rfl ?_
    refine VS_pure (P_assign rfl) rfl rfl rfl ?_
    refine VS_nil ?_
    refine QS_then ?_
    refine TS_ret ?_
    (exact QS_ret [_] ⟨rfl, trivial⟩ [] (Pick.nil _) ⟨congrArg Value.bool (by simp [countsB, *]), rfl⟩)
  by_cases h5 : op = 5
  · refine TS_seq ?_
    refine TS_region ?_
    refine VS_pure (P_assign rfl) rfl rfl rfl ?_
    refine VS_nil ?_
    refine QS_then ?_
    refine TS_seq ?_
    refine TS_region ?_
    refine VS_pure (P_move rfl) rfl rfl rfl ?_
    refine VS_pure (df (P_eql rfl rfl) (by assumption)) rfl rfl rfl ?_
    refine VS_pure (P_move rfl) rfl rfl rfl ?_
    refine VS_pure (P_move rfl) rfl rfl rfl ?_
    refine VS_pure (df (P_eql rfl rfl) (by assumption)) rfl rfl rfl ?_
    refine VS_pure (P_pick_f rfl rfl) rfl rfl rfl ?_
    refine VS_pure (P_move rfl) rfl rfl rfl ?_
    refine VS_pure (P_move rfl) rfl rfl rfl ?_
    refine VS_pure (df (P_eql rfl rfl) (by assumption)) rfl rfl rfl ?_
    refine VS_pure (P_pick_f rfl rfl) rfl rfl rfl ?_
    refine VS_pure (P_move rfl) rfl rfl rfl ?_
    refine VS_pure (P_move rfl) rfl rfl rfl ?_
    refine VS_pure (df (P_eql rfl rfl) (by assumption)) rfl rfl rfl ?_
    refine VS_pure (P_pick_f rfl rfl) rfl rfl rfl ?_
    refine VS_pure (P_move rfl) rfl rfl rfl ?_
    refine VS_pure (P_move rfl) rfl rfl rfl ?_
    refine VS_pure (dt (P_eql rfl rfl) (by assumption)) rfl rfl rfl ?_
    refine VS_pure (P_pick_f rfl rfl) rfl rfl rfl ?_
    refine VS_pure (P_assign rfl) rfl rfl rfl ?_
    refine VS_nil ?_
    refine QS_then ?_
    refine TS_ret ?_
    (exact QS_ret [_] ⟨rfl, trivial⟩ [] (Pick.nil _) ⟨congrArg Value.bool (by simp [countsB, *]), rfl⟩)
  · refine TS_seq ?_
    refine TS_region ?_
    refine VS_pure (P_assign rfl) rfl rfl rfl ?_
    refine VS_nil ?_
    refine QS_then ?_
    refine TS_seq ?_
    refine TS_region ?_
    refine VS_pure (P_move rfl) rfl rfl rfl ?_
    refine VS_pure (df (P_eql rfl rfl) (by assumption)) rfl rfl rfl ?_
    refine VS_pure (P_move rfl) rfl rfl rfl ?_
    refine VS_pure (P_move rfl) rfl rfl rfl ?_
    refine VS_pure (df (P_eql rfl rfl) (by assumption)) rfl rfl rfl ?_
    refine VS_pure (P_pick_f rfl rfl) rfl rfl rfl ?_
    refine VS_pure (P_move rfl) rfl rfl rfl ?_
    refine VS_pure (P_move rfl) rfl rfl rfl ?_
    refine VS_pure (df (P_eql rfl rfl) (by assumption)) rfl rfl rfl ?_
    refine VS_pure (P_pick_f rfl rfl) rfl rfl rfl ?_
    refine VS_pure (P_move rfl) rfl rfl rfl ?_
    refine VS_pure (P_move rfl) rfl rfl rfl ?_
    refine VS_pure (df (P_eql rfl rfl) (by assumption)) rfl rfl rfl ?_
    refine VS_pure (P_pick_f rfl rfl) rfl rfl rfl ?_
    refine VS_pure (P_move rfl) rfl rfl rfl ?_
    refine VS_pure (P_move rfl) rfl rfl rfl ?_
    refine VS_pure (df (P_eql rfl rfl) (by assumption)) rfl rfl rfl ?_
    refine VS_pure (P_pick_f rfl rfl) rfl rfl rfl ?_
    refine VS_pure (P_assign rfl) rfl rfl rfl ?_
    refine VS_nil ?_
    refine QS_then ?_
    refine TS_ret ?_
    (exact QS_ret [_] ⟨rfl, trivial⟩ [] (Pick.nil _) ⟨congrArg Value.bool (by simp [countsB, *]), rfl⟩)
theorem side32 {m : Mp} (w : Int) : CS Tryd.prog 32 [.int .i8 w] m [] (Gives (.bool (sideB w))) := by
  refine CS_of [.tmp 2] Tryd.func32 rfl rfl rfl ?_
  by_cases h0 : w = 0
  · refine TS_seq ?_
    refine TS_region ?_
    refine VS_pure (P_assign rfl) rfl rfl rfl ?_
    refine VS_nil ?_
    refine QS_then ?_
    refine TS_seq ?_
    refine TS_region ?_
    refine VS_pure (P_move rfl) rfl rfl rfl ?_
    refine VS_pure (dt (P_eql rfl rfl) (by assumption)) rfl rfl rfl ?_
    refine VS_pure (P_move rfl) rfl rfl rfl ?_
    refine VS_skip rfl rfl rfl ?_
    refine VS_skip rfl rfl rfl ?_
    refine VS_pure (P_pick_t rfl rfl) rfl rfl rfl ?_
    refine VS_pure (P_assign rfl) rfl rfl rfl ?_
    refine VS_nil ?_
    refine QS_then ?_
    refine TS_ret ?_
    (exact QS_ret [_] ⟨rfl, trivial⟩ [] (Pick.nil _) ⟨congrArg Value.bool (by simp [sideB, *]), rfl⟩)
  by_cases h1 : w = 1
  · refine TS_seq ?_
    refine TS_region ?_
    refine VS_pure (P_assign rfl) rfl rfl rfl ?_
    refine VS_nil ?_
    refine QS_then ?_
    refine TS_seq ?_
    refine TS_region ?_
    refine VS_pure (P_move rfl) rfl rfl rfl ?_
    refine VS_pure (df (P_eql rfl rfl) (by assumption)) rfl rfl rfl ?_
    refine VS_pure (P_move rfl) rfl rfl rfl ?_
    refine VS_pure (P_move rfl) rfl rfl rfl ?_
    refine VS_pure (dt (P_eql rfl rfl) (by assumption)) rfl rfl rfl ?_
    refine VS_pure (P_pick_f rfl rfl) rfl rfl rfl ?_
    refine VS_pure (P_assign rfl) rfl rfl rfl ?_
    refine VS_nil ?_
    refine QS_then ?_
    refine TS_ret ?_
    (exact QS_ret [_] ⟨rfl, trivial⟩ [] (Pick.nil _) ⟨congrArg Value.bool (by simp [sideB, *]), rfl⟩)
  · refine TS_seq ?_
    refine TS_region ?_
    refine VS_pure (P_assign rfl) rfl rfl rfl ?_
    refine VS_nil ?_
    refine QS_then ?_
    refine TS_seq ?_
    refine TS_region ?_
    refine VS_pure (P_move rfl) rfl rfl rfl ?_
    refine VS_pure (df (P_eql rfl rfl) (by assumption)) rfl rfl rfl ?_
    refine VS_pure (P_move rfl) rfl rfl rfl ?_
    refine VS_pure (P_move rfl) rfl rfl rfl ?_
    refine VS_pure (df (P_eql rfl rfl) (by assumption)) rfl rfl rfl ?_
    refine VS_pure (P_pick_f rfl rfl) rfl rfl rfl ?_
    refine VS_pure (P_assign rfl) rfl rfl rfl ?_
    refine VS_nil ?_
    refine QS_then ?_
    refine TS_ret ?_
    (exact QS_ret [_] ⟨rfl, trivial⟩ [] (Pick.nil _) ⟨congrArg Value.bool (by simp [sideB, *]), rfl⟩)
end Go.Proofs.YtbghonkgflolaaaDoor
