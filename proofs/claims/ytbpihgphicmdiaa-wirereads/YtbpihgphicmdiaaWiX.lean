/- A part of the proof: contracts of functions of the program. No condition. -/
import Derived.Test.YtbpihgphicmdiaaWiV
namespace Go.Proofs.Ytbpihgphicmdiaa
open Go.Eng Wi
set_option maxRecDepth 100000
def base0 (x : Ltr) : Nat := x.bytes.length + x.text.length + 16 * x.cards.length + 8 * x.act.ids.length + 16 * x.act.pairs.length + 43 * x.evs.length
def Fits (x : Ltr) : Prop := base0 x + (x.cards.map List.length).sum + 8 * (x.evs.map fun e => e.cards.length).sum ≤ 20000
/-- Client: is a message a client's? -/
theorem Client_ok {m : Mp} {v : Value} {x : Ltr} (hx : MsgR m v x) : CS Try.prog 15 [v] m [] (Gives (.bool (decide (x.kind ≤ 8)))) := by
  obtain ⟨lx, hlx, _, _, _, hf⟩ := Flat_ok hx
  have hlx2 := hlx
  obtain ⟨vb, vc, vi, vp, ve, rfl, xb, xc, xi, xp, xe, xr⟩ := hlx2
  obtain ⟨ab, db, rfl, _⟩ := xb
  obtain ⟨ac, dc, rfl, _⟩ := xc
  obtain ⟨ai, di, rfl, _⟩ := xi
  obtain ⟨ap, dp, rfl, _⟩ := xp
  obtain ⟨ae, de, rfl, _⟩ := xe
  refine CS_of [.tmp 2] Try.func15 rfl rfl rfl ?_
  refine TS_seq ?_
  refine TS_region ?_
  refine VS_pure (P_assign rfl) rfl rfl rfl ?_
  refine VS_nil ?_
  refine QS_then ?_
  refine TS_seq ?_
  refine TS_region ?_
  refine VS_pure (P_move rfl) rfl rfl rfl ?_
  refine VS_step (S_callR cl11 rfl (fun m' hm he => (hf m')) rfl ?_) rfl
  rintro _ rfl
  by_cases h : x.kind ≤ 8
  · rw [decide_eq_true h]
    refine VS_pure (P_move rfl) rfl rfl rfl ?_
    refine VS_pure (P_extract rfl rfl) rfl rfl rfl ?_
    refine VS_pure (P_extract rfl rfl) rfl rfl rfl ?_
    refine VS_step (S_alloc zl32 rfl (fun b1 => ?_)) rfl
    refine VS_step (S_storeAgg ag32 rfl rfl rfl (.here) rfl rfl ?_) rfl
    refine VS_pure (P_assign rfl) rfl rfl rfl ?_
    refine VS_nil ?_
    refine QS_then ?_
    refine TS_seq ?_
    refine TS_region ?_
    refine VS_pure (P_move rfl) rfl rfl rfl ?_
    refine VS_pure (dt (P_eql rfl rfl) rfl) rfl rfl rfl ?_
    refine VS_pure (P_move rfl) rfl rfl rfl ?_
    refine VS_pure (P_fieldAddr0 fo32_0 rfl) rfl rfl rfl ?_
    refine VS_read (S_loadB sg5 rfl (.here) rfl) rfl rfl rfl ?_
    refine VS_pure (dt (P_leq rfl rfl) (by assumption)) rfl rfl rfl ?_
    refine VS_pure (P_pick_t rfl rfl) rfl rfl rfl ?_
    refine VS_pure (P_assign rfl) rfl rfl rfl ?_
    refine VS_nil ?_
    refine QS_then ?_
    refine TS_ret ?_
    exact QS_ret [_] ⟨rfl, trivial⟩ [] (Pick.nil _) ⟨rfl, rfl⟩
  · rw [decide_eq_false h]
    refine VS_pure (P_move rfl) rfl rfl rfl ?_
    refine VS_pure (P_extract rfl rfl) rfl rfl rfl ?_
    refine VS_pure (P_extract rfl rfl) rfl rfl rfl ?_
    refine VS_step (S_alloc zl32 rfl (fun b1 => ?_)) rfl
    refine VS_step (S_storeAgg ag32 rfl rfl rfl (.here) rfl rfl ?_) rfl
    refine VS_pure (P_assign rfl) rfl rfl rfl ?_
    refine VS_nil ?_
    refine QS_then ?_
    refine TS_seq ?_
    refine TS_region ?_
    refine VS_pure (P_move rfl) rfl rfl rfl ?_
    refine VS_pure (dt (P_eql rfl rfl) rfl) rfl rfl rfl ?_
    refine VS_pure (P_move rfl) rfl rfl rfl ?_
    refine VS_pure (P_fieldAddr0 fo32_0 rfl) rfl rfl rfl ?_
    refine VS_read (S_loadB sg5 rfl (.here) rfl) rfl rfl rfl ?_
    refine VS_pure (df (P_leq rfl rfl) (by assumption)) rfl rfl rfl ?_
    refine VS_pure (P_pick_t rfl rfl) rfl rfl rfl ?_
    refine VS_pure (P_assign rfl) rfl rfl rfl ?_
    refine VS_nil ?_
    refine QS_then ?_
    refine TS_ret ?_
    exact QS_ret [_] ⟨rfl, trivial⟩ [] (Pick.nil _) ⟨rfl, rfl⟩
end Go.Proofs.Ytbpihgphicmdiaa
