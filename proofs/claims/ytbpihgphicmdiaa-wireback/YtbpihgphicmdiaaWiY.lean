/- A part of the proof: contracts of functions of the program. No condition. -/
import Derived.Test.YtbpihgphicmdiaaWiX
namespace Go.Proofs.Ytbpihgphicmdiaa
open Go.Eng Wi
set_option maxRecDepth 100000
def byeL : Ltr := ⟨8, 0, [], [], [], acn0, 0, 0, []⟩
theorem MsgR.form {m : Mp} {v : Value} {x : Ltr} (h : MsgR m v x) : (∃ T val, v = .iface T val ∧ Nat.beq T 57 = false ∧ x.kind ≠ 8) ∨ (v = .iface 57 (.agg ([] : List Value).toArray) ∧ x = byeL) := by
  cases h
  case bye => exact .inr ⟨rfl, rfl⟩
  all_goals exact .inl ⟨_, _, rfl, rfl, by simp⟩
theorem Same_nn {m : Mp} : CS Try.prog 16 [.nilIface, .nilIface] m [] (Gives (.bool true)) := by
  refine CS_of [.tmp 4] Try.func16 rfl rfl rfl ?_
  skip
  refine TS_seq ?_
  refine TS_region ?_
  refine VS_pure (P_assign rfl) rfl rfl rfl ?_
  refine VS_nil ?_
  refine QS_then ?_
  refine TS_seq ?_
  refine TS_seq ?_
  refine TS_region ?_
  refine VS_pure (P_move rfl) rfl rfl rfl ?_
  refine VS_pure (P_ieqYes (by kernel_rfl) rfl) rfl rfl rfl ?_
  refine VS_pure (P_move rfl) rfl rfl rfl ?_
  refine VS_skip rfl rfl rfl ?_
  refine VS_skip rfl rfl rfl ?_
  refine VS_pure (P_pick_t rfl rfl) rfl rfl rfl ?_
  refine VS_nil ?_
  refine QS_then ?_
  refine TS_true rfl ?_
  refine TS_seq ?_
  refine TS_region ?_
  refine VS_pure (P_move rfl) rfl rfl rfl ?_
  refine VS_pure (P_ieqYes (by kernel_rfl) rfl) rfl rfl rfl ?_
  refine VS_pure (P_move rfl) rfl rfl rfl ?_
  refine VS_pure (P_move rfl) rfl rfl rfl ?_
  refine VS_pure (P_ieqYes (by kernel_rfl) rfl) rfl rfl rfl ?_
  refine VS_pure (P_pick_t rfl rfl) rfl rfl rfl ?_
  refine VS_pure (P_assign rfl) rfl rfl rfl ?_
  refine VS_nil ?_
  refine QS_then ?_
  refine TS_ret ?_
  refine QS_then_ret ?_
  exact QS_ret [_] ⟨rfl, trivial⟩ [] (Pick.nil _) ⟨rfl, rfl⟩
theorem Same_nm {m : Mp} {T : TypeId} {v : Value} : CS Try.prog 16 [.nilIface, .iface T v] m [] (Gives (.bool false)) := by
  refine CS_of [.tmp 4] Try.func16 rfl rfl rfl ?_
  refine TS_seq ?_
  refine TS_region ?_
  refine VS_pure (P_assign rfl) rfl rfl rfl ?_
  refine VS_nil ?_
  refine QS_then ?_
  refine TS_seq ?_
  refine TS_seq ?_
  refine TS_region ?_
  refine VS_pure (P_move rfl) rfl rfl rfl ?_
  refine VS_pure (P_ieqYes (by kernel_rfl) rfl) rfl rfl rfl ?_
  refine VS_pure (P_move rfl) rfl rfl rfl ?_
  refine VS_skip rfl rfl rfl ?_
  refine VS_skip rfl rfl rfl ?_
  refine VS_pure (P_pick_t rfl rfl) rfl rfl rfl ?_
  refine VS_nil ?_
  refine QS_then ?_
  refine TS_true rfl ?_
  refine TS_seq ?_
  refine TS_region ?_
  refine VS_pure (P_move rfl) rfl rfl rfl ?_
  refine VS_pure (P_ieqYes (by kernel_rfl) rfl) rfl rfl rfl ?_
  refine VS_pure (P_move rfl) rfl rfl rfl ?_
  refine VS_pure (P_move rfl) rfl rfl rfl ?_
  refine VS_pure (P_ieqNo (by kernel_rfl) rfl) rfl rfl rfl ?_
  refine VS_pure (P_pick_t rfl rfl) rfl rfl rfl ?_
  refine VS_pure (P_assign rfl) rfl rfl rfl ?_
  refine VS_nil ?_
  refine QS_then ?_
  refine TS_ret ?_
  refine QS_then_ret ?_
  exact QS_ret [_] ⟨rfl, trivial⟩ [] (Pick.nil _) ⟨rfl, rfl⟩
set_option maxHeartbeats 8000000 in
theorem Same_ok {m : Mp} {v w : Value} {x y : Ltr} (hx : MsgR m v x) (hy : MsgR m w y) : CS Try.prog 16 [v, w] m [] (Gives (.bool (decide (x = y)))) := by
  obtain ⟨lx, hlx, _, _, _, hf⟩ := Flat_ok hx
  obtain ⟨ly, hly, _, _, _, hg⟩ := Flat_ok hy
  rcases hx.form with ⟨T, val, rfl, hT, hk⟩ | ⟨rfl, rfl⟩
  · have hwf : ∃ T2 val2, w = .iface T2 val2 := by rcases hy.form with ⟨T2, val2, rfl, _⟩ | ⟨rfl, _⟩ <;> exact ⟨_, _, rfl⟩
    obtain ⟨T2, val2, rfl⟩ := hwf
    have S := fun m' hm => same_ok (m := m') (hlx.mono hm).lt (hly.mono hm).lt
    have hlx2 := hlx
    have hly2 := hly
    obtain ⟨_, _, _, _, _, rfl, ⟨_, _, rfl, _⟩, ⟨_, _, rfl, _⟩, ⟨_, _, rfl, _⟩, ⟨_, _, rfl, _⟩, ⟨_, _, rfl, _⟩, _⟩ := hlx2
    obtain ⟨_, _, _, _, _, rfl, ⟨_, _, rfl, _⟩, ⟨_, _, rfl, _⟩, ⟨_, _, rfl, _⟩, ⟨_, _, rfl, _⟩, ⟨_, _, rfl, _⟩, _⟩ := hly2
    refine CS_of [.tmp 4] Try.func16 rfl rfl rfl ?_
    refine TS_seq ?_
    refine TS_region ?_
    refine VS_pure (P_assign rfl) rfl rfl rfl ?_
    refine VS_nil ?_
    refine QS_then ?_
    refine TS_seq ?_
    refine TS_seq ?_
    refine TS_region ?_
    refine VS_pure (P_move rfl) rfl rfl rfl ?_
    refine VS_pure (P_ieqNo (by kernel_rfl) rfl) rfl rfl rfl ?_
    refine VS_pure (P_move rfl) rfl rfl rfl ?_
    refine VS_pure (P_move rfl) rfl rfl rfl ?_
    refine VS_pure (P_ieqNo (by kernel_rfl) rfl) rfl rfl rfl ?_
    refine VS_pure (P_pick_f rfl rfl) rfl rfl rfl ?_
    refine VS_nil ?_
    refine QS_then ?_
    refine TS_false rfl ?_
    refine TS_skip ?_
    refine QS_then ?_
    refine TS_seq ?_
    refine TS_seq ?_
    refine TS_region ?_
    refine VS_pure (P_move rfl) rfl rfl rfl ?_
    refine VS_pure ((P_assertNo ni57 us57 rfl hT Try.zeroValue57)) rfl rfl rfl ?_
    refine VS_pure (P_move rfl) rfl rfl rfl ?_
    refine VS_pure (P_extract rfl rfl) rfl rfl rfl ?_
    refine VS_pure (P_extract rfl rfl) rfl rfl rfl ?_
    refine VS_step (S_alloc zl57 rfl (fun b1 => ?_)) rfl
    refine VS_step (S_storeAgg ag57 rfl rfl rfl (.here) rfl rfl ?_) rfl
    refine VS_pure (P_assign rfl) rfl rfl rfl ?_
    refine VS_nil ?_
    refine QS_then ?_
    refine TS_seq ?_
    refine TS_region ?_
    refine VS_pure (P_move rfl) rfl rfl rfl ?_
    refine VS_nil ?_
    refine QS_then ?_
    refine TS_false rfl ?_
    refine TS_skip ?_
    refine QS_then ?_
    refine TS_seq ?_
    refine TS_region ?_
    refine VS_pure (P_move rfl) rfl rfl rfl ?_
    refine VS_step (S_callR cl11 rfl (fun m' hm he => (hf m')) rfl ?_) rfl
    rintro _ rfl
    refine VS_pure (P_move rfl) rfl rfl rfl ?_
    refine VS_pure (P_extract rfl rfl) rfl rfl rfl ?_
    refine VS_pure (P_extract rfl rfl) rfl rfl rfl ?_
    refine VS_step (S_alloc zl32 rfl (fun b2 => ?_)) rfl
    refine VS_step (S_storeAgg ag32 rfl rfl rfl (.here) rfl rfl ?_) rfl
    refine VS_pure (P_assign rfl) rfl rfl rfl ?_
    refine VS_nil ?_
    refine QS_then ?_
    refine TS_seq ?_
    refine TS_region ?_
    refine VS_pure (P_move rfl) rfl rfl rfl ?_
    refine VS_step (S_callR cl11 rfl (fun m' hm he => (hg m')) rfl ?_) rfl
    rintro _ rfl
    refine VS_pure (P_move rfl) rfl rfl rfl ?_
    refine VS_pure (P_extract rfl rfl) rfl rfl rfl ?_
    refine VS_pure (P_extract rfl rfl) rfl rfl rfl ?_
    refine VS_step (S_alloc zl32 rfl (fun b3 => ?_)) rfl
    refine VS_step (S_storeAgg ag32 rfl rfl rfl (.here) rfl rfl ?_) rfl
    refine VS_pure (P_assign rfl) rfl rfl rfl ?_
    refine VS_nil ?_
    refine QS_then ?_
    refine TS_seq ?_
    refine TS_region ?_
    refine VS_pure (P_move rfl) rfl rfl rfl ?_
    refine VS_pure (dt (P_eql rfl rfl) rfl) rfl rfl rfl ?_
    refine VS_pure (P_move rfl) rfl rfl rfl ?_
    refine VS_pure (P_move rfl) rfl rfl rfl ?_
    refine VS_pure (dt (P_eql rfl rfl) rfl) rfl rfl rfl ?_
    refine VS_pure (P_pick_t rfl rfl) rfl rfl rfl ?_
    refine VS_pure (P_move rfl) rfl rfl rfl ?_
    refine VS_read (S_loadBA ag32 rfl (.there (.here)) rfl) rfl rfl rfl ?_
    refine VS_read (S_loadBA ag32 rfl (.here) rfl) rfl rfl rfl ?_
    refine VS_step (S_callR cl19 rfl (fun m' hm he => (S m' hm)) rfl ?_) rfl
    rintro _ rfl
    by_cases h : x = y
    · rw [decide_eq_true h]
      refine VS_pure (P_pick_t rfl rfl) rfl rfl rfl ?_
      refine VS_pure (P_assign rfl) rfl rfl rfl ?_
      refine VS_nil ?_
      refine QS_then ?_
      refine TS_ret ?_
      exact QS_ret [_] ⟨rfl, trivial⟩ [] (Pick.nil _) ⟨rfl, rfl⟩
    · rw [decide_eq_false h]
      refine VS_pure (P_pick_t rfl rfl) rfl rfl rfl ?_
      refine VS_pure (P_assign rfl) rfl rfl rfl ?_
      refine VS_nil ?_
      refine QS_then ?_
      refine TS_ret ?_
      exact QS_ret [_] ⟨rfl, trivial⟩ [] (Pick.nil _) ⟨rfl, rfl⟩
  · rcases hy.form with ⟨T2, val2, rfl, hT, hk⟩ | ⟨rfl, rfl⟩
    · rw [decide_eq_false (show ¬ byeL = y from fun h => hk (by rw [← h]; rfl))]
      refine CS_of [.tmp 4] Try.func16 rfl rfl rfl ?_
      refine TS_seq ?_
      refine TS_region ?_
      refine VS_pure (P_assign rfl) rfl rfl rfl ?_
      refine VS_nil ?_
      refine QS_then ?_
      refine TS_seq ?_
      refine TS_seq ?_
      refine TS_region ?_
      refine VS_pure (P_move rfl) rfl rfl rfl ?_
      refine VS_pure (P_ieqNo (by kernel_rfl) rfl) rfl rfl rfl ?_
      refine VS_pure (P_move rfl) rfl rfl rfl ?_
      refine VS_pure (P_move rfl) rfl rfl rfl ?_
      refine VS_pure (P_ieqNo (by kernel_rfl) rfl) rfl rfl rfl ?_
      refine VS_pure (P_pick_f rfl rfl) rfl rfl rfl ?_
      refine VS_nil ?_
      refine QS_then ?_
      refine TS_false rfl ?_
      refine TS_skip ?_
      refine QS_then ?_
      refine TS_seq ?_
      refine TS_seq ?_
      refine TS_region ?_
      refine VS_pure (P_move rfl) rfl rfl rfl ?_
      refine VS_pure (P_assertYes ni57 us57 rfl) rfl rfl rfl ?_
      refine VS_pure (P_move rfl) rfl rfl rfl ?_
      refine VS_pure (P_extract rfl rfl) rfl rfl rfl ?_
      refine VS_pure (P_extract rfl rfl) rfl rfl rfl ?_
      refine VS_step (S_alloc zl57 rfl (fun b1 => ?_)) rfl
      refine VS_step (S_storeAgg ag57 rfl rfl rfl (.here) rfl rfl ?_) rfl
      refine VS_pure (P_assign rfl) rfl rfl rfl ?_
      refine VS_nil ?_
      refine QS_then ?_
      refine TS_seq ?_
      refine TS_region ?_
      refine VS_pure (P_move rfl) rfl rfl rfl ?_
      refine VS_nil ?_
      refine QS_then ?_
      refine TS_true rfl ?_
      refine TS_seq ?_
      refine TS_region ?_
      refine VS_pure (P_move rfl) rfl rfl rfl ?_
      refine VS_pure ((P_assertNo ni57 us57 rfl hT Try.zeroValue57)) rfl rfl rfl ?_
      refine VS_pure (P_move rfl) rfl rfl rfl ?_
      refine VS_pure (P_extract rfl rfl) rfl rfl rfl ?_
      refine VS_pure (P_extract rfl rfl) rfl rfl rfl ?_
      refine VS_step (S_alloc zl57 rfl (fun b2 => ?_)) rfl
      refine VS_step (S_storeAgg ag57 rfl rfl rfl (.here) rfl rfl ?_) rfl
      refine VS_pure (P_assign rfl) rfl rfl rfl ?_
      refine VS_nil ?_
      refine QS_then ?_
      refine TS_seq ?_
      refine TS_region ?_
      refine VS_pure (P_move rfl) rfl rfl rfl ?_
      refine VS_pure (P_assign rfl) rfl rfl rfl ?_
      refine VS_nil ?_
      refine QS_then ?_
      refine TS_ret ?_
      refine QS_then_ret ?_
      exact QS_ret [_] ⟨rfl, trivial⟩ [] (Pick.nil _) ⟨rfl, rfl⟩
    · rw [decide_eq_true rfl]
      refine CS_of [.tmp 4] Try.func16 rfl rfl rfl ?_
      refine TS_seq ?_
      refine TS_region ?_
      refine VS_pure (P_assign rfl) rfl rfl rfl ?_
      refine VS_nil ?_
      refine QS_then ?_
      refine TS_seq ?_
      refine TS_seq ?_
      refine TS_region ?_
      refine VS_pure (P_move rfl) rfl rfl rfl ?_
      refine VS_pure (P_ieqNo (by kernel_rfl) rfl) rfl rfl rfl ?_
      refine VS_pure (P_move rfl) rfl rfl rfl ?_
      refine VS_pure (P_move rfl) rfl rfl rfl ?_
      refine VS_pure (P_ieqNo (by kernel_rfl) rfl) rfl rfl rfl ?_
      refine VS_pure (P_pick_f rfl rfl) rfl rfl rfl ?_
      refine VS_nil ?_
      refine QS_then ?_
      refine TS_false rfl ?_
      refine TS_skip ?_
      refine QS_then ?_
      refine TS_seq ?_
      refine TS_seq ?_
      refine TS_region ?_
      refine VS_pure (P_move rfl) rfl rfl rfl ?_
      refine VS_pure (P_assertYes ni57 us57 rfl) rfl rfl rfl ?_
      refine VS_pure (P_move rfl) rfl rfl rfl ?_
      refine VS_pure (P_extract rfl rfl) rfl rfl rfl ?_
      refine VS_pure (P_extract rfl rfl) rfl rfl rfl ?_
      refine VS_step (S_alloc zl57 rfl (fun b1 => ?_)) rfl
      refine VS_step (S_storeAgg ag57 rfl rfl rfl (.here) rfl rfl ?_) rfl
      refine VS_pure (P_assign rfl) rfl rfl rfl ?_
      refine VS_nil ?_
      refine QS_then ?_
      refine TS_seq ?_
      refine TS_region ?_
      refine VS_pure (P_move rfl) rfl rfl rfl ?_
      refine VS_nil ?_
      refine QS_then ?_
      refine TS_true rfl ?_
      refine TS_seq ?_
      refine TS_region ?_
      refine VS_pure (P_move rfl) rfl rfl rfl ?_
      refine VS_pure (P_assertYes ni57 us57 rfl) rfl rfl rfl ?_
      refine VS_pure (P_move rfl) rfl rfl rfl ?_
      refine VS_pure (P_extract rfl rfl) rfl rfl rfl ?_
      refine VS_pure (P_extract rfl rfl) rfl rfl rfl ?_
      refine VS_step (S_alloc zl57 rfl (fun b2 => ?_)) rfl
      refine VS_step (S_storeAgg ag57 rfl rfl rfl (.here) rfl rfl ?_) rfl
      refine VS_pure (P_assign rfl) rfl rfl rfl ?_
      refine VS_nil ?_
      refine QS_then ?_
      refine TS_seq ?_
      refine TS_region ?_
      refine VS_pure (P_move rfl) rfl rfl rfl ?_
      refine VS_pure (P_assign rfl) rfl rfl rfl ?_
      refine VS_nil ?_
      refine QS_then ?_
      refine TS_ret ?_
      refine QS_then_ret ?_
      exact QS_ret [_] ⟨rfl, trivial⟩ [] (Pick.nil _) ⟨rfl, rfl⟩
/-! messages that are none -/
def litZ : List Value := [.int .u8 0, .int .i64 0, .string ByteArray.empty, .slice none 0 0, .slice none 0 0, .int .i8 0, .int .i64 0, .int .i64 0, .int .i64 0, .slice none 0 0, .slice none 0 0, .int .u8 0, .int .i64 0, .slice none 0 0]
set_option maxHeartbeats 8000000 in
theorem FlatPtr {m : Mp} {v : Value} : CS Try.prog 11 [.iface 62 v] m [] (Gives (.tuple [.agg litZ.toArray, .int .i64 2].toArray)) := by
  refine CS_of [.cell 2 32, .tmp 3] Try.func11 rfl rfl rfl ?_
  refine TS_seq ?_
  refine TS_region ?_
  refine VS_step (S_alloc zl32 rfl (fun b1 => ?_)) rfl
  refine VS_pure (P_assign rfl) rfl rfl rfl ?_
  refine VS_nil ?_
  refine QS_then ?_
  refine TS_seq ?_
  refine TS_region ?_
  refine VS_pure (P_build zl32 pl32 rfl rfl) rfl rfl rfl ?_
  refine VS_step (S_alloc zl32 rfl (fun b2 => ?_)) rfl
  refine VS_step (S_storeAgg ag32 rfl rfl rfl (.here) rfl rfl ?_) rfl
  refine VS_nil ?_
  refine QS_then ?_
  refine TS_seq ?_
  refine TS_seq ?_
  refine TS_region ?_
  refine VS_pure (P_move rfl) rfl rfl rfl ?_
  refine VS_nil ?_
  refine QS_then ?_
  refine TS_block ?_
  refine TS_seq ?_
  refine TS_region ?_
  refine VS_pure (P_assertNo ni61 us61 rfl rfl Try.zeroValue61) rfl rfl rfl ?_
  refine VS_pure (P_extract rfl rfl) rfl rfl rfl ?_
  refine VS_pure (P_extract rfl rfl) rfl rfl rfl ?_
  refine VS_nil ?_
  refine QS_then ?_
  refine TS_false rfl ?_
  refine TS_seq ?_
  refine TS_region ?_
  refine VS_pure (P_assertNo ni66 us66 rfl rfl Try.zeroValue66) rfl rfl rfl ?_
  refine VS_pure (P_extract rfl rfl) rfl rfl rfl ?_
  refine VS_pure (P_extract rfl rfl) rfl rfl rfl ?_
  refine VS_nil ?_
  refine QS_then ?_
  refine TS_false rfl ?_
  refine TS_seq ?_
  refine TS_region ?_
  refine VS_pure (P_assertNo ni68 us68 rfl rfl Try.zeroValue68) rfl rfl rfl ?_
  refine VS_pure (P_extract rfl rfl) rfl rfl rfl ?_
  refine VS_pure (P_extract rfl rfl) rfl rfl rfl ?_
  refine VS_nil ?_
  refine QS_then ?_
  refine TS_false rfl ?_
  refine TS_seq ?_
  refine TS_region ?_
  refine VS_pure (P_assertNo ni70 us70 rfl rfl Try.zeroValue70) rfl rfl rfl ?_
  refine VS_pure (P_extract rfl rfl) rfl rfl rfl ?_
  refine VS_pure (P_extract rfl rfl) rfl rfl rfl ?_
  refine VS_nil ?_
  refine QS_then ?_
  refine TS_false rfl ?_
  refine TS_seq ?_
  refine TS_region ?_
  refine VS_pure (P_assertNo ni59 us59 rfl rfl Try.zeroValue59) rfl rfl rfl ?_
  refine VS_pure (P_extract rfl rfl) rfl rfl rfl ?_
  refine VS_pure (P_extract rfl rfl) rfl rfl rfl ?_
  refine VS_nil ?_
  refine QS_then ?_
  refine TS_false rfl ?_
  refine TS_seq ?_
  refine TS_region ?_
  refine VS_pure (P_assertNo ni71 us71 rfl rfl Try.zeroValue71) rfl rfl rfl ?_
  refine VS_pure (P_extract rfl rfl) rfl rfl rfl ?_
  refine VS_pure (P_extract rfl rfl) rfl rfl rfl ?_
  refine VS_nil ?_
  refine QS_then ?_
  refine TS_false rfl ?_
  refine TS_seq ?_
  refine TS_region ?_
  refine VS_pure (P_assertNo ni72 us72 rfl rfl Try.zeroValue72) rfl rfl rfl ?_
  refine VS_pure (P_extract rfl rfl) rfl rfl rfl ?_
  refine VS_pure (P_extract rfl rfl) rfl rfl rfl ?_
  refine VS_nil ?_
  refine QS_then ?_
  refine TS_false rfl ?_
  refine TS_seq ?_
  refine TS_region ?_
  refine VS_pure (P_assertNo ni57 us57 rfl rfl Try.zeroValue57) rfl rfl rfl ?_
  refine VS_pure (P_extract rfl rfl) rfl rfl rfl ?_
  refine VS_pure (P_extract rfl rfl) rfl rfl rfl ?_
  refine VS_nil ?_
  refine QS_then ?_
  refine TS_false rfl ?_
  refine TS_seq ?_
  refine TS_region ?_
  refine VS_pure (P_assertNo ni64 us64 rfl rfl Try.zeroValue64) rfl rfl rfl ?_
  refine VS_pure (P_extract rfl rfl) rfl rfl rfl ?_
  refine VS_pure (P_extract rfl rfl) rfl rfl rfl ?_
  refine VS_nil ?_
  refine QS_then ?_
  refine TS_false rfl ?_
  refine TS_seq ?_
  refine TS_region ?_
  refine VS_pure (P_assertNo ni74 us74 rfl rfl Try.zeroValue74) rfl rfl rfl ?_
  refine VS_pure (P_extract rfl rfl) rfl rfl rfl ?_
  refine VS_pure (P_extract rfl rfl) rfl rfl rfl ?_
  refine VS_nil ?_
  refine QS_then ?_
  refine TS_false rfl ?_
  refine TS_seq ?_
  refine TS_region ?_
  refine VS_pure (P_assertNo ni76 us76 rfl rfl Try.zeroValue76) rfl rfl rfl ?_
  refine VS_pure (P_extract rfl rfl) rfl rfl rfl ?_
  refine VS_pure (P_extract rfl rfl) rfl rfl rfl ?_
  refine VS_nil ?_
  refine QS_then ?_
  refine TS_false rfl ?_
  refine TS_seq ?_
  refine TS_region ?_
  refine VS_pure (P_assertNo ni78 us78 rfl rfl Try.zeroValue78) rfl rfl rfl ?_
  refine VS_pure (P_extract rfl rfl) rfl rfl rfl ?_
  refine VS_pure (P_extract rfl rfl) rfl rfl rfl ?_
  refine VS_nil ?_
  refine QS_then ?_
  refine TS_false rfl ?_
  refine TS_seq ?_
  refine TS_region ?_
  refine VS_pure (P_assign rfl) rfl rfl rfl ?_
  refine VS_nil ?_
  refine QS_then ?_
  refine TS_seq ?_
  refine TS_region ?_
  refine VS_pure (P_build zl32 pl32 rfl rfl) rfl rfl rfl ?_
  refine VS_step (S_storeAgg ag32 rfl rfl rfl (.there (.here)) rfl rfl ?_) rfl
  refine VS_pure (P_assign rfl) rfl rfl rfl ?_
  refine VS_nil ?_
  refine QS_then ?_
  refine TS_ret ?_
  refine QS_block_ret ?_
  refine QS_then_ret ?_
  exact QS_ret [_, _] ⟨⟨_, _, _, _, rfl, .there .here, .inr ⟨ag32, rfl⟩⟩, rfl, trivial⟩ [] (Pick.nil _) ⟨rfl, rfl⟩
theorem Bytes_no {m : Mp} {v : Value} (hf : ∀ m', CS Try.prog 11 [v] m' [] (Gives (.tuple [.agg litZ.toArray, .int .i64 2].toArray))) : CS Try.prog 12 [v] m [] (BytesPost none) := by
  refine CS_of [.cell 2 22, .cell 3 29] Try.func12 rfl rfl rfl ?_
  refine TS_seq ?_
  refine TS_region ?_
  refine VS_step (S_alloc zl22 rfl (fun b1 => ?_)) rfl
  refine VS_step (S_alloc zl29 rfl (fun b2 => ?_)) rfl
  refine VS_nil ?_
  refine QS_then ?_
  refine TS_seq ?_
  refine TS_region ?_
  refine VS_pure (P_move rfl) rfl rfl rfl ?_
  refine VS_step ((S_call cl11 rfl (fun m' hm he => hf m') rfl ?_)) rfl
  rintro _ _ ⟨rfl, rfl⟩
  unfold litZ
  refine VS_pure (P_move rfl) rfl rfl rfl ?_
  refine VS_pure (P_extract rfl rfl) rfl rfl rfl ?_
  refine VS_pure (P_extract rfl rfl) rfl rfl rfl ?_
  refine VS_step (S_alloc zl32 rfl (fun b3 => ?_)) rfl
  refine VS_step (S_storeAgg ag32 rfl rfl rfl (.here) rfl rfl ?_) rfl
  refine VS_step (S_store co29 rfl rfl rfl (.there (.here)) (.here) ?_) rfl
  refine VS_nil ?_
  refine QS_then ?_
  refine TS_seq ?_
  refine TS_seq ?_
  refine TS_region ?_
  refine VS_read (S_loadB sg29 rfl (.there (.here)) rfl) rfl rfl rfl ?_
  refine VS_pure (dt (P_neq rfl rfl) (by omega)) rfl rfl rfl ?_
  refine VS_nil ?_
  refine QS_then ?_
  refine TS_true rfl ?_
  refine TS_seq ?_
  refine TS_draw (.fork (.step 0 .kept (.step 1 .wild (.step 2 .wild (.done)))) (.step 1 .wild (.step 0 .read (.step 2 .wild (.done))))) mixed (by kernel_rfl) (fun _ _ _ _ hq => hq) ?_
  refine VTS_fork ?_ ?_
  refine VTS_readK rfl (S_loadB sg29 rfl (.there (.here)) rfl) rfl rfl rfl ?_
  refine VTS_wild rfl rfl (S_store co22 rfl rfl rfl (.there (.there (.here))) (.here) ?_) rfl
  refine VTS_wild rfl rfl (S_store co29 rfl rfl rfl (.there (.here)) (.here) ?_) rfl
  refine VTS_nil ?_
  refine QS_then ?_
  refine TS_ret ?_
  refine QS_then_ret ?_
  · exact QS_ret [_, _] ⟨⟨_, _, _, _, rfl, .there (.there .here), .inl ⟨sg22, rfl⟩⟩, ⟨_, _, _, _, rfl, .there .here, .inl ⟨sg29, rfl⟩⟩, trivial⟩ [] (Pick.nil _) (.inr ⟨rfl, rfl, rfl⟩)
  refine VTS_wild rfl rfl (S_store co22 rfl rfl rfl (.there (.there (.here))) (.here) ?_) rfl
  refine VTS_read rfl (S_loadB sg29 rfl (.there (.here)) rfl) rfl rfl rfl ?_
  refine VTS_wild rfl rfl (S_store co29 rfl rfl rfl (.there (.here)) (.here) ?_) rfl
  refine VTS_nil ?_
  refine QS_then ?_
  refine TS_ret ?_
  refine QS_then_ret ?_
  exact QS_ret [_, _] ⟨⟨_, _, _, _, rfl, .there (.there .here), .inl ⟨sg22, rfl⟩⟩, ⟨_, _, _, _, rfl, .there .here, .inl ⟨sg29, rfl⟩⟩, trivial⟩ [] (Pick.nil _) (.inr ⟨rfl, rfl, rfl⟩)
end Go.Proofs.Ytbpihgphicmdiaa
