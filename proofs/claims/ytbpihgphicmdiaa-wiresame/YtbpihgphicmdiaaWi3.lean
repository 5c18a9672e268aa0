/- A part of the proof: contracts of functions of the program. No condition. -/
import Derived.Test.YtbpihgphicmdiaaWiPa
import Derived.Test.YtbpihgphicmdiaaWi0
namespace Go.Proofs.Ytbpihgphicmdiaa
open Go.Eng Wi
set_option maxRecDepth 100000
theorem encX_all {x : Ltr} {e : List UInt8} (h : encX x = some e) : eAll x = some e := by
  unfold encX at h
  cases he : eAll x with
  | none => rw [he] at h; cases h
  | some t =>
    rw [he, Option.bind_some] at h
    split at h
    · exact h
    · cases h
set_option maxHeartbeats 16000000 in
theorem WireSame_ok {m : Mp} {lx ly : List Value} {x y : Ltr} (hx : LtA m lx x) (hy : LtA m ly y) : CS Try.prog 4 [.agg lx.toArray, .agg ly.toArray] m [] (Gives (.bool true)) := by
  have hx0 := hx
  have hy0 := hy
  have hxl := hx.lt
  have hyl := hy.lt
  obtain ⟨_, _, _, _, _, rfl, ⟨_, _, rfl, _⟩, ⟨_, _, rfl, _⟩, ⟨_, _, rfl, _⟩, ⟨_, _, rfl, _⟩, ⟨_, _, rfl, _⟩, _⟩ := hx
  obtain ⟨_, _, _, _, _, rfl, ⟨_, _, rfl, _⟩, ⟨_, _, rfl, _⟩, ⟨_, _, rfl, _⟩, ⟨_, _, rfl, _⟩, ⟨_, _, rfl, _⟩, _⟩ := hy
  refine CS_of [.tmp 4] Try.func4 rfl rfl rfl ?_
  have hle : Le m m := Le.refl _
  refine TS_seq ?_
  refine TS_region ?_
  refine VS_step (S_box rfl rfl (fun b1 => ?_)) rfl
  refine VS_step (S_box rfl rfl (fun b2 => ?_)) rfl
  refine VS_pure (P_assign rfl) rfl rfl rfl ?_
  refine VS_nil ?_
  refine QS_then ?_
  refine TS_seq ?_
  refine TS_seq ?_
  refine TS_region ?_
  refine VS_read (S_loadBA ag32 rfl (.there (.here)) rfl) rfl rfl rfl ?_
  refine VS_step ((S_call cl7 rfl (fun m' hm he => Great_ok (hx0.mono hm)) rfl ?_)) rfl
  rintro _ _ ⟨rfl, g, rfl, hg⟩
  cases g with
  | true =>
    refine VS_pure (P_move rfl) rfl rfl rfl ?_
    refine VS_skip rfl rfl rfl ?_
    refine VS_skip rfl rfl rfl ?_
    refine VS_pure (P_pick_t rfl rfl) rfl rfl rfl ?_
    refine VS_nil ?_
    refine QS_then ?_
    refine TS_true rfl ?_
    refine TS_seq ?_
    refine TS_region ?_
    refine VS_step (S_callR cl8 rfl (fun m' hm he => (wakes_ok)) rfl ?_) rfl
    rintro _ rfl
    refine VS_pure (P_assign rfl) rfl rfl rfl ?_
    refine VS_nil ?_
    refine QS_then ?_
    refine TS_ret ?_
    refine QS_then_ret ?_
    exact QS_ret [_] ⟨rfl, trivial⟩ [] (Pick.nil _) ⟨rfl, rfl⟩
  | false =>
    obtain ⟨_, _, _, hf4⟩ := (hg rfl).lens
    refine VS_pure (P_move rfl) rfl rfl rfl ?_
    refine VS_read (S_loadBA ag32 rfl (.here) rfl) rfl rfl rfl ?_
    refine VS_step ((S_call cl7 rfl (fun m' hm he => Great_ok (hy0.mono hm)) rfl ?_)) rfl
    rintro _ _ ⟨rfl, g2, rfl, hg2⟩
    cases g2 with
    | true =>
      refine VS_pure (P_pick_f rfl rfl) rfl rfl rfl ?_
      refine VS_nil ?_
      refine QS_then ?_
      refine TS_true rfl ?_
      refine TS_seq ?_
      refine TS_region ?_
      refine VS_step (S_callR cl8 rfl (fun m' hm he => (wakes_ok)) rfl ?_) rfl
      rintro _ rfl
      refine VS_pure (P_assign rfl) rfl rfl rfl ?_
      refine VS_nil ?_
      refine QS_then ?_
      refine TS_ret ?_
      refine QS_then_ret ?_
      exact QS_ret [_] ⟨rfl, trivial⟩ [] (Pick.nil _) ⟨rfl, rfl⟩
    | false =>
      obtain ⟨_, _, _, hf5⟩ := (hg2 rfl).lens
      refine VS_pure (P_pick_f rfl rfl) rfl rfl rfl ?_
      refine VS_nil ?_
      refine QS_then ?_
      refine TS_false rfl ?_
      refine TS_skip ?_
      refine QS_then ?_
      refine TS_seq ?_
      refine TS_region ?_
      refine VS_read (S_loadBA ag32 rfl (.there (.here)) rfl) rfl rfl rfl ?_
      refine VS_step ((S_call cl9 rfl (fun m' hm he => Of_ok (hx0.mono hm)) rfl ?_)) rfl
      rintro _ _ ⟨rfl, ⟨hr, w, hw, rfl⟩ | ⟨hr, rfl⟩⟩
      · have hmsg := hw m hx0
        refine VS_pure (P_move rfl) rfl rfl rfl ?_
        refine VS_pure (P_extract rfl rfl) rfl rfl rfl ?_
        refine VS_pure (P_extract rfl rfl) rfl rfl rfl ?_
        refine VS_pure (P_assign rfl) rfl rfl rfl ?_
        refine VS_pure (P_assign rfl) rfl rfl rfl ?_
        refine VS_nil ?_
        refine QS_then ?_
        refine TS_seq ?_
        refine TS_region ?_
        refine VS_read (S_loadBA ag32 rfl (.here) rfl) rfl rfl rfl ?_
        refine VS_step ((S_call cl9 rfl (fun m' hm he => Of_ok (hy0.mono hm)) rfl ?_)) rfl
        rintro _ _ ⟨rfl, ⟨hr2, w2, hw2, rfl⟩ | ⟨hr2, rfl⟩⟩
        · have hmsg2 := hw2 m hy0
          have SL := fun m' (hm : Le m m') => SameL_ok (hxl.mono hm) (hyl.mono hm)
          have SM := fun m' (hm : Le m m') => Same_ok (hmsg.mono hm) (hmsg2.mono hm)
          have SX := fun m' (hm : Le m m') => Same_ok (hmsg.mono hm) (hmsg.mono hm)
          rw [decide_eq_true (rfl : x = x)] at SX
          have B := fun m' (hm : Le m m') => Bytes_ok (hmsg.mono hm) (by omega)
          have B2 := fun m' (hm : Le m m') => Bytes_ok (hmsg2.mono hm) (by omega)
          by_cases hxy : x = y
          · rw [decide_eq_true hxy] at SL SM
            refine VS_pure (P_move rfl) rfl rfl rfl ?_
            refine VS_pure (P_extract rfl rfl) rfl rfl rfl ?_
            refine VS_pure (P_extract rfl rfl) rfl rfl rfl ?_
            refine VS_pure (P_assign rfl) rfl rfl rfl ?_
            refine VS_pure (P_assign rfl) rfl rfl rfl ?_
            refine VS_nil ?_
            refine QS_then ?_
            refine TS_seq ?_
            refine TS_seq ?_
            refine TS_region ?_
            refine VS_pure (P_move rfl) rfl rfl rfl ?_
            refine VS_pure (df (P_neq rfl rfl) (by omega)) rfl rfl rfl ?_
            refine VS_pure (P_move rfl) rfl rfl rfl ?_
            refine VS_pure (P_move rfl) rfl rfl rfl ?_
            refine VS_pure (df (P_neq rfl rfl) (by omega)) rfl rfl rfl ?_
            refine VS_pure (P_pick_f rfl rfl) rfl rfl rfl ?_
            refine VS_nil ?_
            refine QS_then ?_
            refine TS_false rfl ?_
            refine TS_skip ?_
            refine QS_then ?_
            refine TS_seq ?_
            refine TS_region ?_
            refine VS_read (S_loadBA ag32 rfl (.there (.here)) rfl) rfl rfl rfl ?_
            refine VS_read (S_loadBA ag32 rfl (.here) rfl) rfl rfl rfl ?_
            refine VS_step (S_callR cl14 rfl (fun m' hm he => (SL m' hm)) rfl ?_) rfl
            rintro _ rfl
            refine VS_pure (P_assign rfl) rfl rfl rfl ?_
            refine VS_nil ?_
            refine QS_then ?_
            refine TS_seq ?_
            refine TS_region ?_
            refine VS_pure (P_move rfl) rfl rfl rfl ?_
            refine VS_step ((S_call cl12 rfl (fun m' hm he => B m' hm) rfl ?_)) rfl
            rintro _ _ hB
            rcases hB with ⟨e1, A1, c1, h1, rfl, rfl⟩ | ⟨h1, rfl, rfl⟩
            · refine VS_pure (P_move rfl) rfl rfl rfl ?_
              refine VS_pure (P_extract rfl rfl) rfl rfl rfl ?_
              refine VS_pure (P_extract rfl rfl) rfl rfl rfl ?_
              refine VS_pure (P_assign rfl) rfl rfl rfl ?_
              refine VS_pure (P_assign rfl) rfl rfl rfl ?_
              refine VS_nil ?_
              refine QS_then ?_
              refine TS_seq ?_
              refine TS_region ?_
              refine VS_pure (P_move rfl) rfl rfl rfl ?_
              refine VS_step ((S_call cl12 rfl (fun m' hm he => B2 m' hm) rfl ?_)) rfl
              rintro _ _ hB2
              rcases hB2 with ⟨e2, A2, c2, h2, rfl, rfl⟩ | ⟨h2, rfl, rfl⟩
              · refine VS_pure (P_move rfl) rfl rfl rfl ?_
                refine VS_pure (P_extract rfl rfl) rfl rfl rfl ?_
                refine VS_pure (P_extract rfl rfl) rfl rfl rfl ?_
                refine VS_pure (P_assign rfl) rfl rfl rfl ?_
                refine VS_pure (P_assign rfl) rfl rfl rfl ?_
                refine VS_nil ?_
                refine QS_then ?_
                refine TS_seq ?_
                refine TS_seq ?_
                refine TS_absorb .here (fun n2 hi2 _ hd2 => ?_)
                refine TS_absorb .here (fun n1 hi1 _ hd1 => ?_)
                have l3 : Le m (uni (uni m n2) n1) := (uni_l _ n2).trans (uni_l _ n1)
                have hr2' := (Eng.Own.rd hi2).mono ((uni_r hd2).trans (uni_l _ n1))
                have hr1' := (Eng.Own.rd hi1).mono (uni_r hd1)
                have he : e1 = e2 := by rw [hxy, h2] at h1; cases h1; rfl
                refine TS_region ?_
                refine VS_pure (P_move rfl) rfl rfl rfl ?_
                refine VS_pure (dt (P_eql rfl rfl) rfl) rfl rfl rfl ?_
                refine VS_pure (P_move rfl) rfl rfl rfl ?_
                refine VS_pure (P_move rfl) rfl rfl rfl ?_
                refine VS_pure (dt (P_eql rfl rfl) rfl) rfl rfl rfl ?_
                refine VS_pure (P_pick_t rfl rfl) rfl rfl rfl ?_
                refine VS_pure (P_move rfl) rfl rfl rfl ?_
                refine VS_pure (P_move rfl) rfl rfl rfl ?_
                refine VS_read (S_bstr bt22 st9 rfl (by first | rfl | omega) hr1') rfl rfl rfl ?_
                refine VS_pure (P_move rfl) rfl rfl rfl ?_
                refine VS_read (S_bstr bt22 st9 rfl (by first | rfl | omega) hr2') rfl rfl rfl ?_
                refine VS_pure (dt (P_seql rfl rfl) (by assumption)) rfl rfl rfl ?_
                refine VS_pure (P_move rfl) rfl rfl rfl ?_
                refine VS_pure (P_bneq bo4 rfl rfl) rfl rfl rfl ?_
                refine VS_pure (P_pick_t rfl rfl) rfl rfl rfl ?_
                refine VS_nil ?_
                refine QS_then ?_
                refine TS_false rfl ?_
                refine TS_skip ?_
                refine QS_then ?_
                refine TS_seq ?_
                refine TS_region ?_
                refine VS_pure (P_move rfl) rfl rfl rfl ?_
                refine VS_pure (P_move rfl) rfl rfl rfl ?_
                refine VS_step (S_callR cl16 rfl (fun m' hm he => (SM m' (l3.trans hm))) rfl ?_) rfl
                rintro _ rfl
                refine VS_pure (P_move rfl) rfl rfl rfl ?_
                refine VS_pure (P_beql bo4 rfl rfl) rfl rfl rfl ?_
                iterate 3 (refine VS_pure (P_move rfl) rfl rfl rfl ?_)
                refine VS_step (S_callR cl16 rfl (fun m' hm he => (SX m' (l3.trans hm))) rfl ?_) rfl
                rintro _ rfl
                refine VS_pure (P_pick_t rfl rfl) rfl rfl rfl ?_
                refine VS_pure (P_move rfl) rfl rfl rfl ?_
                refine VS_step (S_callR cl8 rfl (fun m' hm he => (wakes_ok)) rfl ?_) rfl
                rintro _ rfl
                refine VS_pure (P_pick_t rfl rfl) rfl rfl rfl ?_
                refine VS_pure (P_assign rfl) rfl rfl rfl ?_
                refine VS_nil ?_
                refine QS_then ?_
                refine TS_ret ?_
                exact QS_retW l3 [_] ⟨rfl, trivial⟩ [] (Pick.nil _) ⟨rfl, rfl⟩
              · refine VS_pure (P_move rfl) rfl rfl rfl ?_
                refine VS_pure (P_extract rfl rfl) rfl rfl rfl ?_
                refine VS_pure (P_extract rfl rfl) rfl rfl rfl ?_
                refine VS_pure (P_assign rfl) rfl rfl rfl ?_
                refine VS_pure (P_assign rfl) rfl rfl rfl ?_
                refine VS_nil ?_
                refine QS_then ?_
                refine TS_seq ?_
                refine TS_seq ?_
                refine TS_region ?_
                refine VS_pure (P_move rfl) rfl rfl rfl ?_
                refine VS_pure (dt (P_eql rfl rfl) rfl) rfl rfl rfl ?_
                refine VS_pure (P_move rfl) rfl rfl rfl ?_
                refine VS_pure (P_move rfl) rfl rfl rfl ?_
                refine VS_pure (df (P_eql rfl rfl) (by omega)) rfl rfl rfl ?_
                refine VS_pure (P_pick_t rfl rfl) rfl rfl rfl ?_
                refine VS_pure (P_move rfl) rfl rfl rfl ?_
                iterate 7 (refine VS_skip rfl rfl rfl ?_)
                refine VS_pure (P_pick_f rfl rfl) rfl rfl rfl ?_
                refine VS_nil ?_
                refine QS_then ?_
                refine TS_false rfl ?_
                refine TS_skip ?_
                refine QS_then ?_
                refine TS_seq ?_
                refine TS_region ?_
                refine VS_pure (P_move rfl) rfl rfl rfl ?_
                refine VS_pure (P_move rfl) rfl rfl rfl ?_
                refine VS_step (S_callR cl16 rfl (fun m' hm he => (SM m' (hm))) rfl ?_) rfl
                rintro _ rfl
                refine VS_pure (P_move rfl) rfl rfl rfl ?_
                refine VS_pure (P_beql bo4 rfl rfl) rfl rfl rfl ?_
                iterate 3 (refine VS_pure (P_move rfl) rfl rfl rfl ?_)
                refine VS_step (S_callR cl16 rfl (fun m' hm he => (SX m' (hm))) rfl ?_) rfl
                rintro _ rfl
                refine VS_pure (P_pick_t rfl rfl) rfl rfl rfl ?_
                refine VS_pure (P_move rfl) rfl rfl rfl ?_
                refine VS_step (S_callR cl8 rfl (fun m' hm he => (wakes_ok)) rfl ?_) rfl
                rintro _ rfl
                refine VS_pure (P_pick_t rfl rfl) rfl rfl rfl ?_
                refine VS_pure (P_assign rfl) rfl rfl rfl ?_
                refine VS_nil ?_
                refine QS_then ?_
                refine TS_ret ?_
                exact QS_ret [_] ⟨rfl, trivial⟩ [] (Pick.nil _) ⟨rfl, rfl⟩
            · refine VS_pure (P_move rfl) rfl rfl rfl ?_
              refine VS_pure (P_extract rfl rfl) rfl rfl rfl ?_
              refine VS_pure (P_extract rfl rfl) rfl rfl rfl ?_
              refine VS_pure (P_assign rfl) rfl rfl rfl ?_
              refine VS_pure (P_assign rfl) rfl rfl rfl ?_
              refine VS_nil ?_
              refine QS_then ?_
              refine TS_seq ?_
              refine TS_region ?_
              refine VS_pure (P_move rfl) rfl rfl rfl ?_
              refine VS_step ((S_call cl12 rfl (fun m' hm he => B2 m' hm) rfl ?_)) rfl
              rintro _ _ hB2
              rcases hB2 with ⟨e2, A2, c2, h2, rfl, rfl⟩ | ⟨h2, rfl, rfl⟩
              · refine VS_pure (P_move rfl) rfl rfl rfl ?_
                refine VS_pure (P_extract rfl rfl) rfl rfl rfl ?_
                refine VS_pure (P_extract rfl rfl) rfl rfl rfl ?_
                refine VS_pure (P_assign rfl) rfl rfl rfl ?_
                refine VS_pure (P_assign rfl) rfl rfl rfl ?_
                refine VS_nil ?_
                refine QS_then ?_
                refine TS_seq ?_
                refine TS_seq ?_
                refine TS_region ?_
                refine VS_pure (P_move rfl) rfl rfl rfl ?_
                refine VS_pure (df (P_eql rfl rfl) (by omega)) rfl rfl rfl ?_
                refine VS_pure (P_move rfl) rfl rfl rfl ?_
                refine VS_skip rfl rfl rfl ?_
                refine VS_skip rfl rfl rfl ?_
                refine VS_pure (P_pick_f rfl rfl) rfl rfl rfl ?_
                refine VS_pure (P_move rfl) rfl rfl rfl ?_
                iterate 7 (refine VS_skip rfl rfl rfl ?_)
                refine VS_pure (P_pick_f rfl rfl) rfl rfl rfl ?_
                refine VS_nil ?_
                refine QS_then ?_
                refine TS_false rfl ?_
                refine TS_skip ?_
                refine QS_then ?_
                refine TS_seq ?_
                refine TS_region ?_
                refine VS_pure (P_move rfl) rfl rfl rfl ?_
                refine VS_pure (P_move rfl) rfl rfl rfl ?_
                refine VS_step (S_callR cl16 rfl (fun m' hm he => (SM m' (hm))) rfl ?_) rfl
                rintro _ rfl
                refine VS_pure (P_move rfl) rfl rfl rfl ?_
                refine VS_pure (P_beql bo4 rfl rfl) rfl rfl rfl ?_
                iterate 3 (refine VS_pure (P_move rfl) rfl rfl rfl ?_)
                refine VS_step (S_callR cl16 rfl (fun m' hm he => (SX m' (hm))) rfl ?_) rfl
                rintro _ rfl
                refine VS_pure (P_pick_t rfl rfl) rfl rfl rfl ?_
                refine VS_pure (P_move rfl) rfl rfl rfl ?_
                refine VS_step (S_callR cl8 rfl (fun m' hm he => (wakes_ok)) rfl ?_) rfl
                rintro _ rfl
                refine VS_pure (P_pick_t rfl rfl) rfl rfl rfl ?_
                refine VS_pure (P_assign rfl) rfl rfl rfl ?_
                refine VS_nil ?_
                refine QS_then ?_
                refine TS_ret ?_
                exact QS_ret [_] ⟨rfl, trivial⟩ [] (Pick.nil _) ⟨rfl, rfl⟩
              · refine VS_pure (P_move rfl) rfl rfl rfl ?_
                refine VS_pure (P_extract rfl rfl) rfl rfl rfl ?_
                refine VS_pure (P_extract rfl rfl) rfl rfl rfl ?_
                refine VS_pure (P_assign rfl) rfl rfl rfl ?_
                refine VS_pure (P_assign rfl) rfl rfl rfl ?_
                refine VS_nil ?_
                refine QS_then ?_
                refine TS_seq ?_
                refine TS_seq ?_
                refine TS_region ?_
                refine VS_pure (P_move rfl) rfl rfl rfl ?_
                refine VS_pure (df (P_eql rfl rfl) (by omega)) rfl rfl rfl ?_
                refine VS_pure (P_move rfl) rfl rfl rfl ?_
                refine VS_skip rfl rfl rfl ?_
                refine VS_skip rfl rfl rfl ?_
                refine VS_pure (P_pick_f rfl rfl) rfl rfl rfl ?_
                refine VS_pure (P_move rfl) rfl rfl rfl ?_
                iterate 7 (refine VS_skip rfl rfl rfl ?_)
                refine VS_pure (P_pick_f rfl rfl) rfl rfl rfl ?_
                refine VS_nil ?_
                refine QS_then ?_
                refine TS_false rfl ?_
                refine TS_skip ?_
                refine QS_then ?_
                refine TS_seq ?_
                refine TS_region ?_
                refine VS_pure (P_move rfl) rfl rfl rfl ?_
                refine VS_pure (P_move rfl) rfl rfl rfl ?_
                refine VS_step (S_callR cl16 rfl (fun m' hm he => (SM m' (hm))) rfl ?_) rfl
                rintro _ rfl
                refine VS_pure (P_move rfl) rfl rfl rfl ?_
                refine VS_pure (P_beql bo4 rfl rfl) rfl rfl rfl ?_
                iterate 3 (refine VS_pure (P_move rfl) rfl rfl rfl ?_)
                refine VS_step (S_callR cl16 rfl (fun m' hm he => (SX m' (hm))) rfl ?_) rfl
                rintro _ rfl
                refine VS_pure (P_pick_t rfl rfl) rfl rfl rfl ?_
                refine VS_pure (P_move rfl) rfl rfl rfl ?_
                refine VS_step (S_callR cl8 rfl (fun m' hm he => (wakes_ok)) rfl ?_) rfl
                rintro _ rfl
                refine VS_pure (P_pick_t rfl rfl) rfl rfl rfl ?_
                refine VS_pure (P_assign rfl) rfl rfl rfl ?_
                refine VS_nil ?_
                refine QS_then ?_
                refine TS_ret ?_
                exact QS_ret [_] ⟨rfl, trivial⟩ [] (Pick.nil _) ⟨rfl, rfl⟩
          · rw [decide_eq_false hxy] at SL SM
            refine VS_pure (P_move rfl) rfl rfl rfl ?_
            refine VS_pure (P_extract rfl rfl) rfl rfl rfl ?_
            refine VS_pure (P_extract rfl rfl) rfl rfl rfl ?_
            refine VS_pure (P_assign rfl) rfl rfl rfl ?_
            refine VS_pure (P_assign rfl) rfl rfl rfl ?_
            refine VS_nil ?_
            refine QS_then ?_
            refine TS_seq ?_
            refine TS_seq ?_
            refine TS_region ?_
            refine VS_pure (P_move rfl) rfl rfl rfl ?_
            refine VS_pure (df (P_neq rfl rfl) (by omega)) rfl rfl rfl ?_
            refine VS_pure (P_move rfl) rfl rfl rfl ?_
            refine VS_pure (P_move rfl) rfl rfl rfl ?_
            refine VS_pure (df (P_neq rfl rfl) (by omega)) rfl rfl rfl ?_
            refine VS_pure (P_pick_f rfl rfl) rfl rfl rfl ?_
            refine VS_nil ?_
            refine QS_then ?_
            refine TS_false rfl ?_
            refine TS_skip ?_
            refine QS_then ?_
            refine TS_seq ?_
            refine TS_region ?_
            refine VS_read (S_loadBA ag32 rfl (.there (.here)) rfl) rfl rfl rfl ?_
            refine VS_read (S_loadBA ag32 rfl (.here) rfl) rfl rfl rfl ?_
            refine VS_step (S_callR cl14 rfl (fun m' hm he => (SL m' hm)) rfl ?_) rfl
            rintro _ rfl
            refine VS_pure (P_assign rfl) rfl rfl rfl ?_
            refine VS_nil ?_
            refine QS_then ?_
            refine TS_seq ?_
            refine TS_region ?_
            refine VS_pure (P_move rfl) rfl rfl rfl ?_
            refine VS_step ((S_call cl12 rfl (fun m' hm he => B m' hm) rfl ?_)) rfl
            rintro _ _ hB
            rcases hB with ⟨e1, A1, c1, h1, rfl, rfl⟩ | ⟨h1, rfl, rfl⟩
            · refine VS_pure (P_move rfl) rfl rfl rfl ?_
              refine VS_pure (P_extract rfl rfl) rfl rfl rfl ?_
              refine VS_pure (P_extract rfl rfl) rfl rfl rfl ?_
              refine VS_pure (P_assign rfl) rfl rfl rfl ?_
              refine VS_pure (P_assign rfl) rfl rfl rfl ?_
              refine VS_nil ?_
              refine QS_then ?_
              refine TS_seq ?_
              refine TS_region ?_
              refine VS_pure (P_move rfl) rfl rfl rfl ?_
              refine VS_step ((S_call cl12 rfl (fun m' hm he => B2 m' hm) rfl ?_)) rfl
              rintro _ _ hB2
              rcases hB2 with ⟨e2, A2, c2, h2, rfl, rfl⟩ | ⟨h2, rfl, rfl⟩
              · refine VS_pure (P_move rfl) rfl rfl rfl ?_
                refine VS_pure (P_extract rfl rfl) rfl rfl rfl ?_
                refine VS_pure (P_extract rfl rfl) rfl rfl rfl ?_
                refine VS_pure (P_assign rfl) rfl rfl rfl ?_
                refine VS_pure (P_assign rfl) rfl rfl rfl ?_
                refine VS_nil ?_
                refine QS_then ?_
                refine TS_seq ?_
                refine TS_seq ?_
                refine TS_absorb .here (fun n2 hi2 _ hd2 => ?_)
                refine TS_absorb .here (fun n1 hi1 _ hd1 => ?_)
                have l3 : Le m (uni (uni m n2) n1) := (uni_l _ n2).trans (uni_l _ n1)
                have hr2' := (Eng.Own.rd hi2).mono ((uni_r hd2).trans (uni_l _ n1))
                have hr1' := (Eng.Own.rd hi1).mono (uni_r hd1)
                have he : ¬ e1 = e2 := fun e => hxy (enc_inj hr hr2 hx0.okR hy0.okR (encX_all h1) (by rw [e]; exact encX_all h2))
                refine TS_region ?_
                refine VS_pure (P_move rfl) rfl rfl rfl ?_
                refine VS_pure (dt (P_eql rfl rfl) rfl) rfl rfl rfl ?_
                refine VS_pure (P_move rfl) rfl rfl rfl ?_
                refine VS_pure (P_move rfl) rfl rfl rfl ?_
                refine VS_pure (dt (P_eql rfl rfl) rfl) rfl rfl rfl ?_
                refine VS_pure (P_pick_t rfl rfl) rfl rfl rfl ?_
                refine VS_pure (P_move rfl) rfl rfl rfl ?_
                refine VS_pure (P_move rfl) rfl rfl rfl ?_
                refine VS_read (S_bstr bt22 st9 rfl (by first | rfl | omega) hr1') rfl rfl rfl ?_
                refine VS_pure (P_move rfl) rfl rfl rfl ?_
                refine VS_read (S_bstr bt22 st9 rfl (by first | rfl | omega) hr2') rfl rfl rfl ?_
                refine VS_pure (df (P_seql rfl rfl) (by assumption)) rfl rfl rfl ?_
                refine VS_pure (P_move rfl) rfl rfl rfl ?_
                refine VS_pure (P_bneq bo4 rfl rfl) rfl rfl rfl ?_
                refine VS_pure (P_pick_t rfl rfl) rfl rfl rfl ?_
                refine VS_nil ?_
                refine QS_then ?_
                refine TS_false rfl ?_
                refine TS_skip ?_
                refine QS_then ?_
                refine TS_seq ?_
                refine TS_region ?_
                refine VS_pure (P_move rfl) rfl rfl rfl ?_
                refine VS_pure (P_move rfl) rfl rfl rfl ?_
                refine VS_step (S_callR cl16 rfl (fun m' hm he => (SM m' (l3.trans hm))) rfl ?_) rfl
                rintro _ rfl
                refine VS_pure (P_move rfl) rfl rfl rfl ?_
                refine VS_pure (P_beql bo4 rfl rfl) rfl rfl rfl ?_
                iterate 3 (refine VS_pure (P_move rfl) rfl rfl rfl ?_)
                refine VS_step (S_callR cl16 rfl (fun m' hm he => (SX m' (l3.trans hm))) rfl ?_) rfl
                rintro _ rfl
                refine VS_pure (P_pick_t rfl rfl) rfl rfl rfl ?_
                refine VS_pure (P_move rfl) rfl rfl rfl ?_
                refine VS_step (S_callR cl8 rfl (fun m' hm he => (wakes_ok)) rfl ?_) rfl
                rintro _ rfl
                refine VS_pure (P_pick_t rfl rfl) rfl rfl rfl ?_
                refine VS_pure (P_assign rfl) rfl rfl rfl ?_
                refine VS_nil ?_
                refine QS_then ?_
                refine TS_ret ?_
                exact QS_retW l3 [_] ⟨rfl, trivial⟩ [] (Pick.nil _) ⟨rfl, rfl⟩
              · refine VS_pure (P_move rfl) rfl rfl rfl ?_
                refine VS_pure (P_extract rfl rfl) rfl rfl rfl ?_
                refine VS_pure (P_extract rfl rfl) rfl rfl rfl ?_
                refine VS_pure (P_assign rfl) rfl rfl rfl ?_
                refine VS_pure (P_assign rfl) rfl rfl rfl ?_
                refine VS_nil ?_
                refine QS_then ?_
                refine TS_seq ?_
                refine TS_seq ?_
                refine TS_region ?_
                refine VS_pure (P_move rfl) rfl rfl rfl ?_
                refine VS_pure (dt (P_eql rfl rfl) rfl) rfl rfl rfl ?_
                refine VS_pure (P_move rfl) rfl rfl rfl ?_
                refine VS_pure (P_move rfl) rfl rfl rfl ?_
                refine VS_pure (df (P_eql rfl rfl) (by omega)) rfl rfl rfl ?_
                refine VS_pure (P_pick_t rfl rfl) rfl rfl rfl ?_
                refine VS_pure (P_move rfl) rfl rfl rfl ?_
                iterate 7 (refine VS_skip rfl rfl rfl ?_)
                refine VS_pure (P_pick_f rfl rfl) rfl rfl rfl ?_
                refine VS_nil ?_
                refine QS_then ?_
                refine TS_false rfl ?_
                refine TS_skip ?_
                refine QS_then ?_
                refine TS_seq ?_
                refine TS_region ?_
                refine VS_pure (P_move rfl) rfl rfl rfl ?_
                refine VS_pure (P_move rfl) rfl rfl rfl ?_
                refine VS_step (S_callR cl16 rfl (fun m' hm he => (SM m' (hm))) rfl ?_) rfl
                rintro _ rfl
                refine VS_pure (P_move rfl) rfl rfl rfl ?_
                refine VS_pure (P_beql bo4 rfl rfl) rfl rfl rfl ?_
                iterate 3 (refine VS_pure (P_move rfl) rfl rfl rfl ?_)
                refine VS_step (S_callR cl16 rfl (fun m' hm he => (SX m' (hm))) rfl ?_) rfl
                rintro _ rfl
                refine VS_pure (P_pick_t rfl rfl) rfl rfl rfl ?_
                refine VS_pure (P_move rfl) rfl rfl rfl ?_
                refine VS_step (S_callR cl8 rfl (fun m' hm he => (wakes_ok)) rfl ?_) rfl
                rintro _ rfl
                refine VS_pure (P_pick_t rfl rfl) rfl rfl rfl ?_
                refine VS_pure (P_assign rfl) rfl rfl rfl ?_
                refine VS_nil ?_
                refine QS_then ?_
                refine TS_ret ?_
                exact QS_ret [_] ⟨rfl, trivial⟩ [] (Pick.nil _) ⟨rfl, rfl⟩
            · refine VS_pure (P_move rfl) rfl rfl rfl ?_
              refine VS_pure (P_extract rfl rfl) rfl rfl rfl ?_
              refine VS_pure (P_extract rfl rfl) rfl rfl rfl ?_
              refine VS_pure (P_assign rfl) rfl rfl rfl ?_
              refine VS_pure (P_assign rfl) rfl rfl rfl ?_
              refine VS_nil ?_
              refine QS_then ?_
              refine TS_seq ?_
              refine TS_region ?_
              refine VS_pure (P_move rfl) rfl rfl rfl ?_
              refine VS_step ((S_call cl12 rfl (fun m' hm he => B2 m' hm) rfl ?_)) rfl
              rintro _ _ hB2
              rcases hB2 with ⟨e2, A2, c2, h2, rfl, rfl⟩ | ⟨h2, rfl, rfl⟩
              · refine VS_pure (P_move rfl) rfl rfl rfl ?_
                refine VS_pure (P_extract rfl rfl) rfl rfl rfl ?_
                refine VS_pure (P_extract rfl rfl) rfl rfl rfl ?_
                refine VS_pure (P_assign rfl) rfl rfl rfl ?_
                refine VS_pure (P_assign rfl) rfl rfl rfl ?_
                refine VS_nil ?_
                refine QS_then ?_
                refine TS_seq ?_
                refine TS_seq ?_
                refine TS_region ?_
                refine VS_pure (P_move rfl) rfl rfl rfl ?_
                refine VS_pure (df (P_eql rfl rfl) (by omega)) rfl rfl rfl ?_
                refine VS_pure (P_move rfl) rfl rfl rfl ?_
                refine VS_skip rfl rfl rfl ?_
                refine VS_skip rfl rfl rfl ?_
                refine VS_pure (P_pick_f rfl rfl) rfl rfl rfl ?_
                refine VS_pure (P_move rfl) rfl rfl rfl ?_
                iterate 7 (refine VS_skip rfl rfl rfl ?_)
                refine VS_pure (P_pick_f rfl rfl) rfl rfl rfl ?_
                refine VS_nil ?_
                refine QS_then ?_
                refine TS_false rfl ?_
                refine TS_skip ?_
                refine QS_then ?_
                refine TS_seq ?_
                refine TS_region ?_
                refine VS_pure (P_move rfl) rfl rfl rfl ?_
                refine VS_pure (P_move rfl) rfl rfl rfl ?_
                refine VS_step (S_callR cl16 rfl (fun m' hm he => (SM m' (hm))) rfl ?_) rfl
                rintro _ rfl
                refine VS_pure (P_move rfl) rfl rfl rfl ?_
                refine VS_pure (P_beql bo4 rfl rfl) rfl rfl rfl ?_
                iterate 3 (refine VS_pure (P_move rfl) rfl rfl rfl ?_)
                refine VS_step (S_callR cl16 rfl (fun m' hm he => (SX m' (hm))) rfl ?_) rfl
                rintro _ rfl
                refine VS_pure (P_pick_t rfl rfl) rfl rfl rfl ?_
                refine VS_pure (P_move rfl) rfl rfl rfl ?_
                refine VS_step (S_callR cl8 rfl (fun m' hm he => (wakes_ok)) rfl ?_) rfl
                rintro _ rfl
                refine VS_pure (P_pick_t rfl rfl) rfl rfl rfl ?_
                refine VS_pure (P_assign rfl) rfl rfl rfl ?_
                refine VS_nil ?_
                refine QS_then ?_
                refine TS_ret ?_
                exact QS_ret [_] ⟨rfl, trivial⟩ [] (Pick.nil _) ⟨rfl, rfl⟩
              · refine VS_pure (P_move rfl) rfl rfl rfl ?_
                refine VS_pure (P_extract rfl rfl) rfl rfl rfl ?_
                refine VS_pure (P_extract rfl rfl) rfl rfl rfl ?_
                refine VS_pure (P_assign rfl) rfl rfl rfl ?_
                refine VS_pure (P_assign rfl) rfl rfl rfl ?_
                refine VS_nil ?_
                refine QS_then ?_
                refine TS_seq ?_
                refine TS_seq ?_
                refine TS_region ?_
                refine VS_pure (P_move rfl) rfl rfl rfl ?_
                refine VS_pure (df (P_eql rfl rfl) (by omega)) rfl rfl rfl ?_
                refine VS_pure (P_move rfl) rfl rfl rfl ?_
                refine VS_skip rfl rfl rfl ?_
                refine VS_skip rfl rfl rfl ?_
                refine VS_pure (P_pick_f rfl rfl) rfl rfl rfl ?_
                refine VS_pure (P_move rfl) rfl rfl rfl ?_
                iterate 7 (refine VS_skip rfl rfl rfl ?_)
                refine VS_pure (P_pick_f rfl rfl) rfl rfl rfl ?_
                refine VS_nil ?_
                refine QS_then ?_
                refine TS_false rfl ?_
                refine TS_skip ?_
                refine QS_then ?_
                refine TS_seq ?_
                refine TS_region ?_
                refine VS_pure (P_move rfl) rfl rfl rfl ?_
                refine VS_pure (P_move rfl) rfl rfl rfl ?_
                refine VS_step (S_callR cl16 rfl (fun m' hm he => (SM m' (hm))) rfl ?_) rfl
                rintro _ rfl
                refine VS_pure (P_move rfl) rfl rfl rfl ?_
                refine VS_pure (P_beql bo4 rfl rfl) rfl rfl rfl ?_
                iterate 3 (refine VS_pure (P_move rfl) rfl rfl rfl ?_)
                refine VS_step (S_callR cl16 rfl (fun m' hm he => (SX m' (hm))) rfl ?_) rfl
                rintro _ rfl
                refine VS_pure (P_pick_t rfl rfl) rfl rfl rfl ?_
                refine VS_pure (P_move rfl) rfl rfl rfl ?_
                refine VS_step (S_callR cl8 rfl (fun m' hm he => (wakes_ok)) rfl ?_) rfl
                rintro _ rfl
                refine VS_pure (P_pick_t rfl rfl) rfl rfl rfl ?_
                refine VS_pure (P_assign rfl) rfl rfl rfl ?_
                refine VS_nil ?_
                refine QS_then ?_
                refine TS_ret ?_
                exact QS_ret [_] ⟨rfl, trivial⟩ [] (Pick.nil _) ⟨rfl, rfl⟩
        · obtain ⟨T, val, f, rfl, _⟩ := Kind_ok hmsg
          refine VS_pure (P_move rfl) rfl rfl rfl ?_
          refine VS_pure (P_extract rfl rfl) rfl rfl rfl ?_
          refine VS_pure (P_extract rfl rfl) rfl rfl rfl ?_
          refine VS_pure (P_assign rfl) rfl rfl rfl ?_
          refine VS_pure (P_assign rfl) rfl rfl rfl ?_
          refine VS_nil ?_
          refine QS_then ?_
          refine TS_seq ?_
          refine TS_seq ?_
          refine TS_region ?_
          refine VS_pure (P_move rfl) rfl rfl rfl ?_
          refine VS_pure (df (P_neq rfl rfl) (by omega)) rfl rfl rfl ?_
          refine VS_pure (P_move rfl) rfl rfl rfl ?_
          refine VS_pure (P_move rfl) rfl rfl rfl ?_
          refine VS_pure (dt (P_neq rfl rfl) (by omega)) rfl rfl rfl ?_
          refine VS_pure (P_pick_f rfl rfl) rfl rfl rfl ?_
          refine VS_nil ?_
          refine QS_then ?_
          refine TS_true rfl ?_
          refine TS_seq ?_
          refine TS_region ?_
          refine VS_pure (P_move rfl) rfl rfl rfl ?_
          refine VS_pure (P_move rfl) rfl rfl rfl ?_
          refine VS_step (S_callR cl16 rfl (fun m' hm he => (Same_mn)) rfl ?_) rfl
          rintro _ rfl
          refine VS_pure (P_move rfl) rfl rfl rfl ?_
          refine VS_pure (df (P_neq rfl rfl) (by omega)) rfl rfl rfl ?_
          refine VS_pure (P_move rfl) rfl rfl rfl ?_
          refine VS_skip rfl rfl rfl ?_
          refine VS_skip rfl rfl rfl ?_
          refine VS_pure (P_pick_f rfl rfl) rfl rfl rfl ?_
          refine VS_pure (P_beql bo4 rfl rfl) rfl rfl rfl ?_
          refine VS_pure (P_move rfl) rfl rfl rfl ?_
          refine VS_step (S_callR cl8 rfl (fun m' hm he => (wakes_ok)) rfl ?_) rfl
          rintro _ rfl
          refine VS_pure (P_pick_t rfl rfl) rfl rfl rfl ?_
          refine VS_pure (P_assign rfl) rfl rfl rfl ?_
          refine VS_nil ?_
          refine QS_then ?_
          refine TS_ret ?_
          refine QS_then_ret ?_
          exact QS_ret [_] ⟨rfl, trivial⟩ [] (Pick.nil _) ⟨rfl, rfl⟩
      · refine VS_pure (P_move rfl) rfl rfl rfl ?_
        refine VS_pure (P_extract rfl rfl) rfl rfl rfl ?_
        refine VS_pure (P_extract rfl rfl) rfl rfl rfl ?_
        refine VS_pure (P_assign rfl) rfl rfl rfl ?_
        refine VS_pure (P_assign rfl) rfl rfl rfl ?_
        refine VS_nil ?_
        refine QS_then ?_
        refine TS_seq ?_
        refine TS_region ?_
        refine VS_read (S_loadBA ag32 rfl (.here) rfl) rfl rfl rfl ?_
        refine VS_step ((S_call cl9 rfl (fun m' hm he => Of_ok (hy0.mono hm)) rfl ?_)) rfl
        rintro _ _ ⟨rfl, ⟨hr2, w2, hw2, rfl⟩ | ⟨hr2, rfl⟩⟩
        · have hmsg2 := hw2 m hy0
          obtain ⟨T, val, f, rfl, _⟩ := Kind_ok hmsg2
          refine VS_pure (P_move rfl) rfl rfl rfl ?_
          refine VS_pure (P_extract rfl rfl) rfl rfl rfl ?_
          refine VS_pure (P_extract rfl rfl) rfl rfl rfl ?_
          refine VS_pure (P_assign rfl) rfl rfl rfl ?_
          refine VS_pure (P_assign rfl) rfl rfl rfl ?_
          refine VS_nil ?_
          refine QS_then ?_
          refine TS_seq ?_
          refine TS_seq ?_
          refine TS_region ?_
          refine VS_pure (P_move rfl) rfl rfl rfl ?_
          refine VS_pure (dt (P_neq rfl rfl) (by omega)) rfl rfl rfl ?_
          refine VS_pure (P_move rfl) rfl rfl rfl ?_
          refine VS_skip rfl rfl rfl ?_
          refine VS_skip rfl rfl rfl ?_
          refine VS_pure (P_pick_t rfl rfl) rfl rfl rfl ?_
          refine VS_nil ?_
          refine QS_then ?_
          refine TS_true rfl ?_
          refine TS_seq ?_
          refine TS_region ?_
          refine VS_pure (P_move rfl) rfl rfl rfl ?_
          refine VS_pure (P_move rfl) rfl rfl rfl ?_
          refine VS_step (S_callR cl16 rfl (fun m' hm he => (Same_nm)) rfl ?_) rfl
          rintro _ rfl
          refine VS_pure (P_move rfl) rfl rfl rfl ?_
          refine VS_pure (dt (P_neq rfl rfl) (by omega)) rfl rfl rfl ?_
          refine VS_pure (P_move rfl) rfl rfl rfl ?_
          refine VS_pure (P_move rfl) rfl rfl rfl ?_
          refine VS_pure (df (P_neq rfl rfl) (by omega)) rfl rfl rfl ?_
          refine VS_pure (P_pick_t rfl rfl) rfl rfl rfl ?_
          refine VS_pure (P_beql bo4 rfl rfl) rfl rfl rfl ?_
          refine VS_pure (P_move rfl) rfl rfl rfl ?_
          refine VS_step (S_callR cl8 rfl (fun m' hm he => (wakes_ok)) rfl ?_) rfl
          rintro _ rfl
          refine VS_pure (P_pick_t rfl rfl) rfl rfl rfl ?_
          refine VS_pure (P_assign rfl) rfl rfl rfl ?_
          refine VS_nil ?_
          refine QS_then ?_
          refine TS_ret ?_
          refine QS_then_ret ?_
          exact QS_ret [_] ⟨rfl, trivial⟩ [] (Pick.nil _) ⟨rfl, rfl⟩
        · refine VS_pure (P_move rfl) rfl rfl rfl ?_
          refine VS_pure (P_extract rfl rfl) rfl rfl rfl ?_
          refine VS_pure (P_extract rfl rfl) rfl rfl rfl ?_
          refine VS_pure (P_assign rfl) rfl rfl rfl ?_
          refine VS_pure (P_assign rfl) rfl rfl rfl ?_
          refine VS_nil ?_
          refine QS_then ?_
          refine TS_seq ?_
          refine TS_seq ?_
          refine TS_region ?_
          refine VS_pure (P_move rfl) rfl rfl rfl ?_
          refine VS_pure (dt (P_neq rfl rfl) (by omega)) rfl rfl rfl ?_
          refine VS_pure (P_move rfl) rfl rfl rfl ?_
          refine VS_skip rfl rfl rfl ?_
          refine VS_skip rfl rfl rfl ?_
          refine VS_pure (P_pick_t rfl rfl) rfl rfl rfl ?_
          refine VS_nil ?_
          refine QS_then ?_
          refine TS_true rfl ?_
          refine TS_seq ?_
          refine TS_region ?_
          refine VS_pure (P_move rfl) rfl rfl rfl ?_
          refine VS_pure (P_move rfl) rfl rfl rfl ?_
          refine VS_step (S_callR cl16 rfl (fun m' hm he => (Same_nn)) rfl ?_) rfl
          rintro _ rfl
          refine VS_pure (P_move rfl) rfl rfl rfl ?_
          refine VS_pure (dt (P_neq rfl rfl) (by omega)) rfl rfl rfl ?_
          refine VS_pure (P_move rfl) rfl rfl rfl ?_
          refine VS_pure (P_move rfl) rfl rfl rfl ?_
          refine VS_pure (dt (P_neq rfl rfl) (by omega)) rfl rfl rfl ?_
          refine VS_pure (P_pick_t rfl rfl) rfl rfl rfl ?_
          refine VS_pure (P_beql bo4 rfl rfl) rfl rfl rfl ?_
          refine VS_pure (P_move rfl) rfl rfl rfl ?_
          refine VS_step (S_callR cl8 rfl (fun m' hm he => (wakes_ok)) rfl ?_) rfl
          rintro _ rfl
          refine VS_pure (P_pick_t rfl rfl) rfl rfl rfl ?_
          refine VS_pure (P_assign rfl) rfl rfl rfl ?_
          refine VS_nil ?_
          refine QS_then ?_
          refine TS_ret ?_
          refine QS_then_ret ?_
          exact QS_ret [_] ⟨rfl, trivial⟩ [] (Pick.nil _) ⟨rfl, rfl⟩
end Go.Proofs.Ytbpihgphicmdiaa
