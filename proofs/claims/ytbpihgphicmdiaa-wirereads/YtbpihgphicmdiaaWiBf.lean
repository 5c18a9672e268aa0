/- A part of the proof: contracts of functions of the program. No condition. -/
import Derived.Test.YtbpihgphicmdiaaWiBe
import Derived.Test.YtbpihgphicmdiaaWiZ
namespace Go.Proofs.Ytbpihgphicmdiaa
open Go.Eng Wi
set_option maxRecDepth 100000
set_option maxHeartbeats 8000000 in
theorem WireReads_ok {m : Mp} {A : Option Addr} {c : Nat} {b : List UInt8} (hr : Rd m A (b.map byteV)) (hb : b.length ≤ 140737488355328) (hc : b.length ≤ c) :
    CS Try.prog 5 [.slice A b.length c] m [] (Gives (.bool true)) := by
  refine CS_of [.tmp 2] Try.func5 rfl rfl rfl ?_
  by_cases hbig : 6000 < b.length
  · refine TS_seq ?_
    refine TS_region ?_
    refine VS_pure (P_assign rfl) rfl rfl rfl ?_
    refine VS_nil ?_
    refine QS_then ?_
    refine TS_seq ?_
    refine TS_seq ?_
    refine TS_region ?_
    refine VS_pure (P_move rfl) rfl rfl rfl ?_
    refine VS_pure (P_len il22 rfl) rfl rfl rfl ?_
    refine VS_pure (dt (P_gtr rfl rfl) (by omega)) rfl rfl rfl ?_
    refine VS_nil ?_
    refine QS_then ?_
    refine TS_true rfl ?_
    refine TS_seq ?_
    refine TS_region ?_
    refine VS_step (S_callR cl8 rfl (fun m' hm he => (wakes_ok)) rfl ?_) rfl
    rintro _ rfl
    refine VS_pure (P_assign rfl) rfl rfl rfl ?_
    refine VS_nil ?_
    refine QS_then ?_
    refine TS_ret ?_
    refine QS_then_ret ?_
    exact QS_ret [_] ⟨rfl, trivial⟩ [] (Pick.nil _) ⟨rfl, rfl⟩
  have hb2 : b.length ≤ 1099511627776 := by omega
  refine TS_seq ?_
  refine TS_region ?_
  refine VS_pure (P_assign rfl) rfl rfl rfl ?_
  refine VS_nil ?_
  refine QS_then ?_
  refine TS_seq ?_
  refine TS_seq ?_
  refine TS_region ?_
  refine VS_pure (P_move rfl) rfl rfl rfl ?_
  refine VS_pure (P_len il22 rfl) rfl rfl rfl ?_
  refine VS_pure (df (P_gtr rfl rfl) (by omega)) rfl rfl rfl ?_
  refine VS_nil ?_
  refine QS_then ?_
  refine TS_false rfl ?_
  refine TS_skip ?_
  refine QS_then ?_
  refine TS_seq ?_
  refine TS_region ?_
  refine VS_pure (P_move rfl) rfl rfl rfl ?_
  refine VS_step ((S_call cl17 rfl (fun m' hm he => Read_ok (c := c) (hr.mono hm) hb2) rfl ?_)) rfl
  rintro _ _ hA
  rcases hA with ⟨x, a, w, e, hx, rfl, rfl, hw⟩ | ⟨k, hx, rfl, rfl⟩
  · refine VS_absorb .here (fun n1 hi1 _ hd1 => ?_)
    have hle : Le m (uni m n1) := uni_l m n1
    have hmsg : MsgR (uni m n1) w x := (hw n1 hi1).mono (uni_r hd1)
    obtain ⟨T, val, f, rfl, _⟩ := Kind_ok hmsg
    obtain ⟨ly, hly, _, _, _, hflat⟩ := Flat_ok hmsg
    refine VS_pure (P_move rfl) rfl rfl rfl ?_
    iterate 3 (refine VS_pure (P_extract rfl rfl) rfl rfl rfl ?_)
    iterate 3 (refine VS_pure (P_assign rfl) rfl rfl rfl ?_)
    refine VS_nil ?_
    refine QS_then ?_
    refine TS_seq ?_
    refine TS_region ?_
    refine VS_pure (P_move rfl) rfl rfl rfl ?_
    refine VS_step ((S_call cl18 rfl (fun m' hm he => RefRead_ok (c := c) (hr.mono (hle.trans hm)) hb2 hc) rfl ?_)) rfl
    rintro _ _ hB
    rcases hB with ⟨x2, a2, cs, e2, hx2, rfl, rfl, hl2⟩ | ⟨k, hx2, rfl, rfl⟩
    · rw [hx] at hx2
      cases hx2
      refine VS_absorb .here (fun n2 hi2 _ hd2 => ?_)
      have hle2 : Le (uni m n1) (uni (uni m n1) n2) := uni_l _ n2
      have hlc : LtA (uni (uni m n1) n2) cs x := (hl2 n2 hi2).mono (uni_r hd2)
      have hlc2 := hlc
      obtain ⟨_, _, _, _, _, rfl, ⟨_, _, rfl, _⟩, ⟨_, _, rfl, _⟩, ⟨_, _, rfl, _⟩, ⟨_, _, rfl, _⟩, ⟨_, _, rfl, _⟩, _⟩ := hlc2
      have hly2 := hly
      obtain ⟨_, _, _, _, _, rfl, ⟨_, _, rfl, _⟩, ⟨_, _, rfl, _⟩, ⟨_, _, rfl, _⟩, ⟨_, _, rfl, _⟩, ⟨_, _, rfl, _⟩, _⟩ := hly2
      have SL := fun m' (hm : Le (uni (uni m n1) n2) m') => SameL_ok (hly.lt.mono (hle2.trans hm)) (hlc.lt.mono hm)
      rw [decide_eq_true (rfl : x = x)] at SL
      refine VS_pure (P_move rfl) rfl rfl rfl ?_
      iterate 3 (refine VS_pure (P_extract rfl rfl) rfl rfl rfl ?_)
      refine VS_step (S_alloc zl32 rfl (fun b1 => ?_)) rfl
      refine VS_step (S_storeAgg ag32 rfl rfl rfl (.here) rfl rfl ?_) rfl
      refine VS_pure (P_assign rfl) rfl rfl rfl ?_
      refine VS_pure (P_assign rfl) rfl rfl rfl ?_
      refine VS_nil ?_
      refine QS_then ?_
      refine TS_seq ?_
      refine TS_seq ?_
      refine TS_region ?_
      refine VS_pure (P_move rfl) rfl rfl rfl ?_
      refine VS_pure (P_move rfl) rfl rfl rfl ?_
      refine VS_pure (df (P_neq rfl rfl) (by omega)) rfl rfl rfl ?_
      iterate 3 (refine VS_pure (P_move rfl) rfl rfl rfl ?_)
      refine VS_pure (df (P_neq rfl rfl) (by omega)) rfl rfl rfl ?_
      refine VS_pure (P_pick_f rfl rfl) rfl rfl rfl ?_
      refine VS_pure (P_move rfl) rfl rfl rfl ?_
      refine VS_pure (P_move rfl) rfl rfl rfl ?_
      refine VS_pure (P_ieqNo (by kernel_rfl) rfl) rfl rfl rfl ?_
      refine VS_pure (P_move rfl) rfl rfl rfl ?_
      refine VS_pure (df (P_neq rfl rfl) (by omega)) rfl rfl rfl ?_
      refine VS_pure (P_bneq bo4 rfl rfl) rfl rfl rfl ?_
      refine VS_pure (P_pick_f rfl rfl) rfl rfl rfl ?_
      refine VS_nil ?_
      refine QS_then ?_
      refine TS_false rfl ?_
      refine TS_skip ?_
      refine QS_then ?_
      refine TS_seq ?_
      refine TS_seq ?_
      refine TS_region ?_
      refine VS_pure (P_move rfl) rfl rfl rfl ?_
      refine VS_pure (df (P_neq rfl rfl) (by omega)) rfl rfl rfl ?_
      refine VS_nil ?_
      refine QS_then ?_
      refine TS_false rfl ?_
      refine TS_skip ?_
      refine QS_then ?_
      refine TS_seq ?_
      refine TS_region ?_
      refine VS_pure (P_move rfl) rfl rfl rfl ?_
      refine VS_step (S_callR cl11 rfl (fun m' hm he => (hflat m')) rfl ?_) rfl
      rintro _ rfl
      refine VS_pure (P_move rfl) rfl rfl rfl ?_
      refine VS_pure (P_extract rfl rfl) rfl rfl rfl ?_
      refine VS_pure (P_extract rfl rfl) rfl rfl rfl ?_
      refine VS_step (S_alloc zl32 rfl (fun b2 => ?_)) rfl
      refine VS_step (S_storeAgg ag32 rfl rfl rfl (.here) rfl rfl ?_) rfl
      refine VS_pure (P_assign rfl) rfl rfl rfl ?_
      refine VS_nil ?_
      refine QS_then ?_
      refine TS_seq ?_
      refine TS_region ?_
      refine VS_pure (P_move rfl) rfl rfl rfl ?_
      refine VS_pure (dt (P_eql rfl rfl) rfl) rfl rfl rfl ?_
      refine VS_pure (P_move rfl) rfl rfl rfl ?_
      refine VS_read (S_loadBA ag32 rfl (.here) rfl) rfl rfl rfl ?_
      refine VS_read (S_loadBA ag32 rfl (.there (.here)) rfl) rfl rfl rfl ?_
      refine VS_step (S_callR cl14 rfl (fun m' hm he => (SL m' hm)) rfl ?_) rfl
      rintro _ rfl
      refine VS_pure (P_pick_t rfl rfl) rfl rfl rfl ?_
      refine VS_pure (P_move rfl) rfl rfl rfl ?_
      refine VS_step (S_callR cl8 rfl (fun m' hm he => (wakes_ok)) rfl ?_) rfl
      rintro _ rfl
      refine VS_pure (P_pick_t rfl rfl) rfl rfl rfl ?_
      refine VS_pure (P_assign rfl) rfl rfl rfl ?_
      refine VS_nil ?_
      refine QS_then ?_
      refine TS_ret ?_
      exact QS_retW (hle.trans hle2) [_] ⟨rfl, trivial⟩ [] (Pick.nil _) ⟨rfl, rfl⟩
    · rw [hx] at hx2
      cases hx2
  · refine VS_pure (P_move rfl) rfl rfl rfl ?_
    iterate 3 (refine VS_pure (P_extract rfl rfl) rfl rfl rfl ?_)
    iterate 3 (refine VS_pure (P_assign rfl) rfl rfl rfl ?_)
    refine VS_nil ?_
    refine QS_then ?_
    refine TS_seq ?_
    refine TS_region ?_
    refine VS_pure (P_move rfl) rfl rfl rfl ?_
    refine VS_step ((S_call cl18 rfl (fun m' hm he => RefRead_ok (c := c) (hr.mono hm) hb2 hc) rfl ?_)) rfl
    rintro _ _ hB
    rcases hB with ⟨x2, a2, cs, e2, hx2, rfl, rfl, hl2⟩ | ⟨k2, hx2, rfl, rfl⟩
    · rw [hx] at hx2
      cases hx2
    · rw [hx] at hx2
      cases hx2
      refine VS_pure (P_move rfl) rfl rfl rfl ?_
      iterate 3 (refine VS_pure (P_extract rfl rfl) rfl rfl rfl ?_)
      refine VS_step (S_alloc zl32 rfl (fun b1 => ?_)) rfl
      refine VS_step (S_storeAgg ag32 rfl rfl rfl (.here) rfl rfl ?_) rfl
      refine VS_pure (P_assign rfl) rfl rfl rfl ?_
      refine VS_pure (P_assign rfl) rfl rfl rfl ?_
      refine VS_nil ?_
      refine QS_then ?_
      refine TS_seq ?_
      refine TS_seq ?_
      refine TS_region ?_
      refine VS_pure (P_move rfl) rfl rfl rfl ?_
      refine VS_pure (P_move rfl) rfl rfl rfl ?_
      refine VS_pure (df (P_neq rfl rfl) (by omega)) rfl rfl rfl ?_
      iterate 3 (refine VS_pure (P_move rfl) rfl rfl rfl ?_)
      refine VS_pure (df (P_neq rfl rfl) (by omega)) rfl rfl rfl ?_
      refine VS_pure (P_pick_f rfl rfl) rfl rfl rfl ?_
      refine VS_pure (P_move rfl) rfl rfl rfl ?_
      refine VS_pure (P_move rfl) rfl rfl rfl ?_
      refine VS_pure (P_ieqYes (by kernel_rfl) rfl) rfl rfl rfl ?_
      refine VS_pure (P_move rfl) rfl rfl rfl ?_
      refine VS_pure (dt (P_neq rfl rfl) (by omega)) rfl rfl rfl ?_
      refine VS_pure (P_bneq bo4 rfl rfl) rfl rfl rfl ?_
      refine VS_pure (P_pick_f rfl rfl) rfl rfl rfl ?_
      refine VS_nil ?_
      refine QS_then ?_
      refine TS_false rfl ?_
      refine TS_skip ?_
      refine QS_then ?_
      refine TS_seq ?_
      refine TS_seq ?_
      refine TS_region ?_
      refine VS_pure (P_move rfl) rfl rfl rfl ?_
      refine VS_pure (dt (P_neq rfl rfl) (by omega)) rfl rfl rfl ?_
      refine VS_nil ?_
      refine QS_then ?_
      refine TS_true rfl ?_
      refine TS_seq ?_
      refine TS_region ?_
      refine VS_step (S_callR cl8 rfl (fun m' hm he => (wakes_ok)) rfl ?_) rfl
      rintro _ rfl
      refine VS_pure (P_assign rfl) rfl rfl rfl ?_
      refine VS_nil ?_
      refine QS_then ?_
      refine TS_ret ?_
      refine QS_then_ret ?_
      exact QS_ret [_] ⟨rfl, trivial⟩ [] (Pick.nil _) ⟨rfl, rfl⟩
end Go.Proofs.Ytbpihgphicmdiaa
