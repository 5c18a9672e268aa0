/- A part of the proof: contracts of functions of the program. No condition. -/
import Derived.Test.YtbghonkgflolaaaDoorKdE
namespace Go.Proofs.YtbghonkgflolaaaDoor
open Go.Eng Kd
set_option maxRecDepth 100000
theorem CardR.form {m : Mp} {vs : List Value} {x : CardT} (h : CardR m vs x) : ∃ u a1 a2 a3 a4 a5 a6 A la ca B lb cb D ld cd z, vs = [sV x.name, .bool u, iV a1, iV a2, iV a3, iV a4, iV a5, iV a6, .slice A la ca, .slice B lb cb, .slice D ld cd, iV z] := by
  obtain ⟨A, la, ca, B, lb, cb, D, ld, cd, e, _⟩ := h
  exact ⟨_, _, _, _, _, _, _, A, la, ca, B, lb, cb, D, ld, cd, _, e⟩
set_option maxHeartbeats 4000000 in
theorem Weight_ok {m : Mp} {cs : List Value} {x : CardT} (hx : CardR m cs x) {l : List PartT} (hF : FlatL (kidsC x) l) (hlen : l.length ≤ 3999) : CS Tryd.prog 11 [.agg cs.toArray] m [] (Gives (iV l.length)) := by
  have hx0 := hx
  obtain ⟨u, a1, a2, a3, a4, a5, a6, A, la, ca, B, lb, cb, D, ld, cd, z, rfl⟩ := CardR.form hx
  clear hx
  refine CS_of [.tmp 2] Tryd.func11 rfl rfl rfl ?_
  refine TS_seq ?_
  refine TS_region ?_
  refine VS_step (S_box rfl rfl (fun b1 => ?_)) rfl
  refine VS_pure (P_assign rfl) rfl rfl rfl ?_
  refine VS_nil ?_
  refine QS_then ?_
  refine TS_seq ?_
  refine TS_region ?_
  refine VS_step (S_alloc zl3 rfl (fun b2 => ?_)) rfl
  refine VS_step (S_store co3 rfl rfl rfl (.here) (.here) ?_) rfl
  refine VS_nil ?_
  refine QS_then ?_
  refine TS_seq ?_
  refine TS_region ?_
  refine VS_pure (P_makeFunc rfl rfl) rfl rfl rfl ?_
  refine VS_step ((S_call1 cl17 rfl .here (fun m1 hm he => all_ok (g := 19) (E := fun s : Int => cel b2 [iV s] 3) (f := cntF) (I := fun s => 0 ≤ s ∧ s < 1073741824) cntF_inv cl19 (fun m' _ v p s hs _ => cnt19 hs.1 (by omega)) hF hlen (At.blk (HE0 he)) (hx0.mono hm) 0 ⟨by omega, by omega⟩) rfl ?_)) rfl
  rintro _ _ ⟨rfl, rfl⟩
  rw [goL_cnt (by omega)]
  refine VS_nil ?_
  refine QS_then ?_
  refine TS_seq ?_
  refine TS_region ?_
  refine VS_read (S_loadB sg3 rfl (.here) rfl) rfl rfl rfl ?_
  refine VS_pure (P_assign rfl) rfl rfl rfl ?_
  refine VS_nil ?_
  refine QS_then ?_
  refine TS_ret ?_
  exact QS_ret [_] ⟨rfl, trivial⟩ [] (Pick.nil _) ⟨by dsimp only; rw [Int.zero_add]; rfl, rfl⟩
/-- does a part ask a target? -/
def asks : PartT → Bool
  | .eff (.mk op who _ _ _ _ _) => decide (who = 2) && (decide (op = 0) || decide (op = 1))
  | .num (.mk op _ _ _) => decide (op = 7)
  | .cond _ => false
def askF (p : PartT) (s : Bool) : Bool × Bool := (s || asks p, !(s || asks p))
set_option maxHeartbeats 8000000 in
theorem ask18 {m : Mp} {b : Nat} {v : Value} {p : PartT} {s : Bool} (hv : PartR m v p) : CS Tryd.prog 18 [v, .pointer (some ⟨b, 0, none⟩)] m [cel b [.bool s] 4] (fun v' L' => v' = .bool (askF p s).2 ∧ L' = [cel b [.bool (askF p s).1] 4]) := by
  refine CS_of [.tmp 3] Tryd.func18 rfl rfl rfl ?_
  obtain ⟨a, cs, rfl, hat, hp⟩ := hv
  cases p with
  | eff x =>
    obtain ⟨op, who, nop, nn, nwho, nA, nlen, nc, name, cop, cwho, cname, cA, cla, cca, cB, clb, ccb, A, la, ca, B, lb, cb, n, cond, thn, els, rfl, rfl, -, -, -, -, -⟩ := EffR.parts hp
    unfold partV
    cases s with
    | true =>
      refine TS_seq ?_
      refine TS_region ?_
      refine VS_pure (P_assign rfl) rfl rfl rfl ?_
      refine VS_nil ?_
      refine QS_then ?_
      refine TS_seq ?_
      refine TS_seq ?_
      refine TS_region ?_
      refine VS_pure (P_move rfl) rfl rfl rfl ?_
      refine VS_pure (P_assertYes ni62 us62 rfl) rfl rfl rfl ?_
      refine VS_pure (P_move rfl) rfl rfl rfl ?_
      refine VS_pure (P_extract rfl rfl) rfl rfl rfl ?_
      refine VS_pure (P_extract rfl rfl) rfl rfl rfl ?_
      refine VS_step (S_alloc zl62 rfl (fun b1 => ?_)) rfl
      refine VS_step (S_storeAgg ag62 rfl rfl rfl (.here) rfl rfl ?_) rfl
      refine VS_pure (P_assign rfl) rfl rfl rfl ?_
      refine VS_nil ?_
      refine QS_then ?_
      refine TS_seq ?_
      refine TS_region ?_
      refine VS_pure (P_move rfl) rfl rfl rfl ?_
      refine VS_nil ?_
      refine QS_then ?_
      refine TS_true rfl ?_
      refine TS_region ?_
      refine VS_read (S_loadB sg4 rfl (.there (.here)) rfl) rfl rfl rfl ?_
      refine VS_pure (P_move rfl) rfl rfl rfl ?_
      iterate 22 (refine VS_skip rfl rfl rfl ?_)
      refine VS_pure (P_pick_t rfl rfl) rfl rfl rfl ?_
      refine VS_step (S_store co4 rfl rfl rfl (.there (.here)) (.here) ?_) rfl
      refine VS_nil ?_
      refine QS_then ?_
      refine TS_seq ?_
      refine TS_seq ?_
      refine TS_region ?_
      refine VS_pure (P_move rfl) rfl rfl rfl ?_
      refine VS_pure (P_assertNo ni66 us66 rfl rfl Tryd.zeroValue66) rfl rfl rfl ?_
      refine VS_pure (P_move rfl) rfl rfl rfl ?_
      refine VS_pure (P_extract rfl rfl) rfl rfl rfl ?_
      refine VS_pure (P_extract rfl rfl) rfl rfl rfl ?_
      refine VS_step (S_alloc zl66 rfl (fun b2 => ?_)) rfl
      refine VS_step (S_storeAgg ag66 rfl rfl rfl (.here) rfl rfl ?_) rfl
      refine VS_pure (P_assign rfl) rfl rfl rfl ?_
      refine VS_nil ?_
      refine QS_then ?_
      refine TS_seq ?_
      refine TS_region ?_
      refine VS_pure (P_move rfl) rfl rfl rfl ?_
      refine VS_nil ?_
      refine QS_then ?_
      refine TS_false rfl ?_
      refine TS_skip ?_
      refine QS_then ?_
      refine TS_seq ?_
      refine TS_region ?_
      refine VS_read (S_loadB sg4 rfl (.there (.there (.here))) rfl) rfl rfl rfl ?_
      refine VS_pure (P_not rfl) rfl rfl rfl ?_
      refine VS_pure (P_assign rfl) rfl rfl rfl ?_
      refine VS_nil ?_
      refine QS_then ?_
      refine TS_ret ?_
      exact QS_ret [_] ⟨rfl, trivial⟩ [_] (.cons (.there (.there .here)) (.nil _)) ⟨rfl, rfl⟩
    | false =>
      by_cases hw : who = 2
      · by_cases h0 : op = 0
        · refine TS_seq ?_
          refine TS_region ?_
          refine VS_pure (P_assign rfl) rfl rfl rfl ?_
          refine VS_nil ?_
          refine QS_then ?_
          refine TS_seq ?_
          refine TS_seq ?_
          refine TS_region ?_
          refine VS_pure (P_move rfl) rfl rfl rfl ?_
          refine VS_pure (P_assertYes ni62 us62 rfl) rfl rfl rfl ?_
          refine VS_pure (P_move rfl) rfl rfl rfl ?_
          refine VS_pure (P_extract rfl rfl) rfl rfl rfl ?_
          refine VS_pure (P_extract rfl rfl) rfl rfl rfl ?_
          refine VS_step (S_alloc zl62 rfl (fun b1 => ?_)) rfl
          refine VS_step (S_storeAgg ag62 rfl rfl rfl (.here) rfl rfl ?_) rfl
          refine VS_pure (P_assign rfl) rfl rfl rfl ?_
          refine VS_nil ?_
          refine QS_then ?_
          refine TS_seq ?_
          refine TS_region ?_
          refine VS_pure (P_move rfl) rfl rfl rfl ?_
          refine VS_nil ?_
          refine QS_then ?_
          refine TS_true rfl ?_
          refine TS_region ?_
          refine VS_read (S_loadB sg4 rfl (.there (.here)) rfl) rfl rfl rfl ?_
          refine VS_pure (P_move rfl) rfl rfl rfl ?_
          refine VS_pure (P_fieldAddr0 fo62_0 rfl) rfl rfl rfl ?_
          refine VS_read (S_loadB sg60 rfl (.here) rfl) rfl rfl rfl ?_
          refine VS_pure (P_nilCheck rfl) rfl rfl rfl ?_
          refine VS_pure (P_fieldAddr fo47_1 rfl) rfl rfl rfl ?_
          refine VS_read (S_load sg39 rfl (hat.at_ rfl)) rfl rfl rfl ?_
          refine VS_pure (dt (P_eql rfl rfl) (by assumption)) rfl rfl rfl ?_
          refine VS_pure (P_move rfl) rfl rfl rfl ?_
          refine VS_pure (P_fieldAddr0 fo62_0 rfl) rfl rfl rfl ?_
          refine VS_read (S_loadB sg60 rfl (.here) rfl) rfl rfl rfl ?_
          refine VS_pure (P_nilCheck rfl) rfl rfl rfl ?_
          refine VS_pure (P_fieldAddr fo47_0 rfl) rfl rfl rfl ?_
          refine VS_read (S_load sg39 rfl (hat.at_ rfl)) rfl rfl rfl ?_
          refine VS_pure (dt (P_eql rfl rfl) (by assumption)) rfl rfl rfl ?_
          refine VS_pure (P_move rfl) rfl rfl rfl ?_
          iterate 6 (refine VS_skip rfl rfl rfl ?_)
          refine VS_pure (P_pick_t rfl rfl) rfl rfl rfl ?_
          refine VS_pure (P_pick_t rfl rfl) rfl rfl rfl ?_
          refine VS_pure (P_pick_f rfl rfl) rfl rfl rfl ?_
          refine VS_step (S_store co4 rfl rfl rfl (.there (.here)) (.here) ?_) rfl
          refine VS_nil ?_
          refine QS_then ?_
          refine TS_seq ?_
          refine TS_seq ?_
          refine TS_region ?_
          refine VS_pure (P_move rfl) rfl rfl rfl ?_
          refine VS_pure (P_assertNo ni66 us66 rfl rfl Tryd.zeroValue66) rfl rfl rfl ?_
          refine VS_pure (P_move rfl) rfl rfl rfl ?_
          refine VS_pure (P_extract rfl rfl) rfl rfl rfl ?_
          refine VS_pure (P_extract rfl rfl) rfl rfl rfl ?_
          refine VS_step (S_alloc zl66 rfl (fun b2 => ?_)) rfl
          refine VS_step (S_storeAgg ag66 rfl rfl rfl (.here) rfl rfl ?_) rfl
          refine VS_pure (P_assign rfl) rfl rfl rfl ?_
          refine VS_nil ?_
          refine QS_then ?_
          refine TS_seq ?_
          refine TS_region ?_
          refine VS_pure (P_move rfl) rfl rfl rfl ?_
          refine VS_nil ?_
          refine QS_then ?_
          refine TS_false rfl ?_
          refine TS_skip ?_
          refine QS_then ?_
          refine TS_seq ?_
          refine TS_region ?_
          refine VS_read (S_loadB sg4 rfl (.there (.there (.here))) rfl) rfl rfl rfl ?_
          refine VS_pure (P_not rfl) rfl rfl rfl ?_
          refine VS_pure (P_assign rfl) rfl rfl rfl ?_
          refine VS_nil ?_
          refine QS_then ?_
          refine TS_ret ?_
          exact QS_ret [_] ⟨rfl, trivial⟩ [_] (.cons (.there (.there .here)) (.nil _)) ⟨congrArg Value.bool (by simp [askF, asks, *]), congrArg (fun s => [cel b [.bool s] 4]) (by simp [askF, asks, *])⟩
        · by_cases h1 : op = 1
          · refine TS_seq ?_
            refine TS_region ?_
            refine VS_pure (P_assign rfl) rfl rfl rfl ?_
            refine VS_nil ?_
            refine QS_then ?_
            refine TS_seq ?_
            refine TS_seq ?_
            refine TS_region ?_
            refine VS_pure (P_move rfl) rfl rfl rfl ?_
            refine VS_pure (P_assertYes ni62 us62 rfl) rfl rfl rfl ?_
            refine VS_pure (P_move rfl) rfl rfl rfl ?_
            refine VS_pure (P_extract rfl rfl) rfl rfl rfl ?_
            refine VS_pure (P_extract rfl rfl) rfl rfl rfl ?_
            refine VS_step (S_alloc zl62 rfl (fun b1 => ?_)) rfl
            refine VS_step (S_storeAgg ag62 rfl rfl rfl (.here) rfl rfl ?_) rfl
            refine VS_pure (P_assign rfl) rfl rfl rfl ?_
            refine VS_nil ?_
            refine QS_then ?_
            refine TS_seq ?_
            refine TS_region ?_
            refine VS_pure (P_move rfl) rfl rfl rfl ?_
            refine VS_nil ?_
            refine QS_then ?_
            refine TS_true rfl ?_
            refine TS_region ?_
            refine VS_read (S_loadB sg4 rfl (.there (.here)) rfl) rfl rfl rfl ?_
            refine VS_pure (P_move rfl) rfl rfl rfl ?_
            refine VS_pure (P_fieldAddr0 fo62_0 rfl) rfl rfl rfl ?_
            refine VS_read (S_loadB sg60 rfl (.here) rfl) rfl rfl rfl ?_
            refine VS_pure (P_nilCheck rfl) rfl rfl rfl ?_
            refine VS_pure (P_fieldAddr fo47_1 rfl) rfl rfl rfl ?_
            refine VS_read (S_load sg39 rfl (hat.at_ rfl)) rfl rfl rfl ?_
            refine VS_pure (dt (P_eql rfl rfl) (by assumption)) rfl rfl rfl ?_
            refine VS_pure (P_move rfl) rfl rfl rfl ?_
            refine VS_pure (P_fieldAddr0 fo62_0 rfl) rfl rfl rfl ?_
            refine VS_read (S_loadB sg60 rfl (.here) rfl) rfl rfl rfl ?_
            refine VS_pure (P_nilCheck rfl) rfl rfl rfl ?_
            refine VS_pure (P_fieldAddr fo47_0 rfl) rfl rfl rfl ?_
            refine VS_read (S_load sg39 rfl (hat.at_ rfl)) rfl rfl rfl ?_
            refine VS_pure (df (P_eql rfl rfl) (by assumption)) rfl rfl rfl ?_
            refine VS_pure (P_move rfl) rfl rfl rfl ?_
            refine VS_pure (P_fieldAddr0 fo62_0 rfl) rfl rfl rfl ?_
            refine VS_read (S_loadB sg60 rfl (.here) rfl) rfl rfl rfl ?_
            refine VS_pure (P_nilCheck rfl) rfl rfl rfl ?_
            refine VS_pure (P_fieldAddr fo47_0 rfl) rfl rfl rfl ?_
            refine VS_read (S_load sg39 rfl (hat.at_ rfl)) rfl rfl rfl ?_
            refine VS_pure (dt (P_eql rfl rfl) (by assumption)) rfl rfl rfl ?_
            refine VS_pure (P_pick_f rfl rfl) rfl rfl rfl ?_
            refine VS_pure (P_pick_t rfl rfl) rfl rfl rfl ?_
            refine VS_pure (P_pick_f rfl rfl) rfl rfl rfl ?_
            refine VS_step (S_store co4 rfl rfl rfl (.there (.here)) (.here) ?_) rfl
            refine VS_nil ?_
            refine QS_then ?_
            refine TS_seq ?_
            refine TS_seq ?_
            refine TS_region ?_
            refine VS_pure (P_move rfl) rfl rfl rfl ?_
            refine VS_pure (P_assertNo ni66 us66 rfl rfl Tryd.zeroValue66) rfl rfl rfl ?_
            refine VS_pure (P_move rfl) rfl rfl rfl ?_
            refine VS_pure (P_extract rfl rfl) rfl rfl rfl ?_
            refine VS_pure (P_extract rfl rfl) rfl rfl rfl ?_
            refine VS_step (S_alloc zl66 rfl (fun b2 => ?_)) rfl
            refine VS_step (S_storeAgg ag66 rfl rfl rfl (.here) rfl rfl ?_) rfl
            refine VS_pure (P_assign rfl) rfl rfl rfl ?_
            refine VS_nil ?_
            refine QS_then ?_
            refine TS_seq ?_
            refine TS_region ?_
            refine VS_pure (P_move rfl) rfl rfl rfl ?_
            refine VS_nil ?_
            refine QS_then ?_
            refine TS_false rfl ?_
            refine TS_skip ?_
            refine QS_then ?_
            refine TS_seq ?_
            refine TS_region ?_
            refine VS_read (S_loadB sg4 rfl (.there (.there (.here))) rfl) rfl rfl rfl ?_
            refine VS_pure (P_not rfl) rfl rfl rfl ?_
            refine VS_pure (P_assign rfl) rfl rfl rfl ?_
            refine VS_nil ?_
            refine QS_then ?_
            refine TS_ret ?_
            exact QS_ret [_] ⟨rfl, trivial⟩ [_] (.cons (.there (.there .here)) (.nil _)) ⟨congrArg Value.bool (by simp [askF, asks, *]), congrArg (fun s => [cel b [.bool s] 4]) (by simp [askF, asks, *])⟩
          · refine TS_seq ?_
            refine TS_region ?_
            refine VS_pure (P_assign rfl) rfl rfl rfl ?_
            refine VS_nil ?_
            refine QS_then ?_
            refine TS_seq ?_
            refine TS_seq ?_
            refine TS_region ?_
            refine VS_pure (P_move rfl) rfl rfl rfl ?_
            refine VS_pure (P_assertYes ni62 us62 rfl) rfl rfl rfl ?_
            refine VS_pure (P_move rfl) rfl rfl rfl ?_
            refine VS_pure (P_extract rfl rfl) rfl rfl rfl ?_
            refine VS_pure (P_extract rfl rfl) rfl rfl rfl ?_
            refine VS_step (S_alloc zl62 rfl (fun b1 => ?_)) rfl
            refine VS_step (S_storeAgg ag62 rfl rfl rfl (.here) rfl rfl ?_) rfl
            refine VS_pure (P_assign rfl) rfl rfl rfl ?_
            refine VS_nil ?_
            refine QS_then ?_
            refine TS_seq ?_
            refine TS_region ?_
            refine VS_pure (P_move rfl) rfl rfl rfl ?_
            refine VS_nil ?_
            refine QS_then ?_
            refine TS_true rfl ?_
            refine TS_region ?_
            refine VS_read (S_loadB sg4 rfl (.there (.here)) rfl) rfl rfl rfl ?_
            refine VS_pure (P_move rfl) rfl rfl rfl ?_
            refine VS_pure (P_fieldAddr0 fo62_0 rfl) rfl rfl rfl ?_
            refine VS_read (S_loadB sg60 rfl (.here) rfl) rfl rfl rfl ?_
            refine VS_pure (P_nilCheck rfl) rfl rfl rfl ?_
            refine VS_pure (P_fieldAddr fo47_1 rfl) rfl rfl rfl ?_
            refine VS_read (S_load sg39 rfl (hat.at_ rfl)) rfl rfl rfl ?_
            refine VS_pure (dt (P_eql rfl rfl) (by assumption)) rfl rfl rfl ?_
            refine VS_pure (P_move rfl) rfl rfl rfl ?_
            refine VS_pure (P_fieldAddr0 fo62_0 rfl) rfl rfl rfl ?_
            refine VS_read (S_loadB sg60 rfl (.here) rfl) rfl rfl rfl ?_
            refine VS_pure (P_nilCheck rfl) rfl rfl rfl ?_
            refine VS_pure (P_fieldAddr fo47_0 rfl) rfl rfl rfl ?_
            refine VS_read (S_load sg39 rfl (hat.at_ rfl)) rfl rfl rfl ?_
            refine VS_pure (df (P_eql rfl rfl) (by assumption)) rfl rfl rfl ?_
            refine VS_pure (P_move rfl) rfl rfl rfl ?_
            refine VS_pure (P_fieldAddr0 fo62_0 rfl) rfl rfl rfl ?_
            refine VS_read (S_loadB sg60 rfl (.here) rfl) rfl rfl rfl ?_
            refine VS_pure (P_nilCheck rfl) rfl rfl rfl ?_
            refine VS_pure (P_fieldAddr fo47_0 rfl) rfl rfl rfl ?_
            refine VS_read (S_load sg39 rfl (hat.at_ rfl)) rfl rfl rfl ?_
            refine VS_pure (df (P_eql rfl rfl) (by assumption)) rfl rfl rfl ?_
            refine VS_pure (P_pick_f rfl rfl) rfl rfl rfl ?_
            refine VS_pure (P_pick_t rfl rfl) rfl rfl rfl ?_
            refine VS_pure (P_pick_f rfl rfl) rfl rfl rfl ?_
            refine VS_step (S_store co4 rfl rfl rfl (.there (.here)) (.here) ?_) rfl
            refine VS_nil ?_
            refine QS_then ?_
            refine TS_seq ?_
            refine TS_seq ?_
            refine TS_region ?_
            refine VS_pure (P_move rfl) rfl rfl rfl ?_
            refine VS_pure (P_assertNo ni66 us66 rfl rfl Tryd.zeroValue66) rfl rfl rfl ?_
            refine VS_pure (P_move rfl) rfl rfl rfl ?_
            refine VS_pure (P_extract rfl rfl) rfl rfl rfl ?_
            refine VS_pure (P_extract rfl rfl) rfl rfl rfl ?_
            refine VS_step (S_alloc zl66 rfl (fun b2 => ?_)) rfl
            refine VS_step (S_storeAgg ag66 rfl rfl rfl (.here) rfl rfl ?_) rfl
            refine VS_pure (P_assign rfl) rfl rfl rfl ?_
            refine VS_nil ?_
            refine QS_then ?_
            refine TS_seq ?_
            refine TS_region ?_
            refine VS_pure (P_move rfl) rfl rfl rfl ?_
            refine VS_nil ?_
            refine QS_then ?_
            refine TS_false rfl ?_
            refine TS_skip ?_
            refine QS_then ?_
            refine TS_seq ?_
            refine TS_region ?_
            refine VS_read (S_loadB sg4 rfl (.there (.there (.here))) rfl) rfl rfl rfl ?_
            refine VS_pure (P_not rfl) rfl rfl rfl ?_
            refine VS_pure (P_assign rfl) rfl rfl rfl ?_
            refine VS_nil ?_
            refine QS_then ?_
            refine TS_ret ?_
            exact QS_ret [_] ⟨rfl, trivial⟩ [_] (.cons (.there (.there .here)) (.nil _)) ⟨congrArg Value.bool (by simp [askF, asks, *]), congrArg (fun s => [cel b [.bool s] 4]) (by simp [askF, asks, *])⟩
      · refine TS_seq ?_
        refine TS_region ?_
        refine VS_pure (P_assign rfl) rfl rfl rfl ?_
        refine VS_nil ?_
        refine QS_then ?_
        refine TS_seq ?_
        refine TS_seq ?_
        refine TS_region ?_
        refine VS_pure (P_move rfl) rfl rfl rfl ?_
        refine VS_pure (P_assertYes ni62 us62 rfl) rfl rfl rfl ?_
        refine VS_pure (P_move rfl) rfl rfl rfl ?_
        refine VS_pure (P_extract rfl rfl) rfl rfl rfl ?_
        refine VS_pure (P_extract rfl rfl) rfl rfl rfl ?_
        refine VS_step (S_alloc zl62 rfl (fun b1 => ?_)) rfl
        refine VS_step (S_storeAgg ag62 rfl rfl rfl (.here) rfl rfl ?_) rfl
        refine VS_pure (P_assign rfl) rfl rfl rfl ?_
        refine VS_nil ?_
        refine QS_then ?_
        refine TS_seq ?_
        refine TS_region ?_
        refine VS_pure (P_move rfl) rfl rfl rfl ?_
        refine VS_nil ?_
        refine QS_then ?_
        refine TS_true rfl ?_
        refine TS_region ?_
        refine VS_read (S_loadB sg4 rfl (.there (.here)) rfl) rfl rfl rfl ?_
        refine VS_pure (P_move rfl) rfl rfl rfl ?_
        refine VS_pure (P_fieldAddr0 fo62_0 rfl) rfl rfl rfl ?_
        refine VS_read (S_loadB sg60 rfl (.here) rfl) rfl rfl rfl ?_
        refine VS_pure (P_nilCheck rfl) rfl rfl rfl ?_
        refine VS_pure (P_fieldAddr fo47_1 rfl) rfl rfl rfl ?_
        refine VS_read (S_load sg39 rfl (hat.at_ rfl)) rfl rfl rfl ?_
        refine VS_pure (df (P_eql rfl rfl) (by assumption)) rfl rfl rfl ?_
        refine VS_pure (P_move rfl) rfl rfl rfl ?_
        iterate 14 (refine VS_skip rfl rfl rfl ?_)
        refine VS_pure (P_pick_f rfl rfl) rfl rfl rfl ?_
        refine VS_pure (P_pick_f rfl rfl) rfl rfl rfl ?_
        refine VS_step (S_store co4 rfl rfl rfl (.there (.here)) (.here) ?_) rfl
        refine VS_nil ?_
        refine QS_then ?_
        refine TS_seq ?_
        refine TS_seq ?_
        refine TS_region ?_
        refine VS_pure (P_move rfl) rfl rfl rfl ?_
        refine VS_pure (P_assertNo ni66 us66 rfl rfl Tryd.zeroValue66) rfl rfl rfl ?_
        refine VS_pure (P_move rfl) rfl rfl rfl ?_
        refine VS_pure (P_extract rfl rfl) rfl rfl rfl ?_
        refine VS_pure (P_extract rfl rfl) rfl rfl rfl ?_
        refine VS_step (S_alloc zl66 rfl (fun b2 => ?_)) rfl
        refine VS_step (S_storeAgg ag66 rfl rfl rfl (.here) rfl rfl ?_) rfl
        refine VS_pure (P_assign rfl) rfl rfl rfl ?_
        refine VS_nil ?_
        refine QS_then ?_
        refine TS_seq ?_
        refine TS_region ?_
        refine VS_pure (P_move rfl) rfl rfl rfl ?_
        refine VS_nil ?_
        refine QS_then ?_
        refine TS_false rfl ?_
        refine TS_skip ?_
        refine QS_then ?_
        refine TS_seq ?_
        refine TS_region ?_
        refine VS_read (S_loadB sg4 rfl (.there (.there (.here))) rfl) rfl rfl rfl ?_
        refine VS_pure (P_not rfl) rfl rfl rfl ?_
        refine VS_pure (P_assign rfl) rfl rfl rfl ?_
        refine VS_nil ?_
        refine QS_then ?_
        refine TS_ret ?_
        exact QS_ret [_] ⟨rfl, trivial⟩ [_] (.cons (.there (.there .here)) (.nil _)) ⟨congrArg Value.bool (by simp [askF, asks, *]), congrArg (fun s => [cel b [.bool s] 4]) (by simp [askF, asks, *])⟩
  | num x =>
    cases hp with
    | @mk op n who kids A len c vs ho hln hm hr hv hkk =>
    unfold partV
    cases s with
    | true =>
      refine TS_seq ?_
      refine TS_region ?_
      refine VS_pure (P_assign rfl) rfl rfl rfl ?_
      refine VS_nil ?_
      refine QS_then ?_
      refine TS_seq ?_
      refine TS_seq ?_
      refine TS_region ?_
      refine VS_pure (P_move rfl) rfl rfl rfl ?_
      refine VS_pure (P_assertNo ni62 us62 rfl rfl Tryd.zeroValue62) rfl rfl rfl ?_
      refine VS_pure (P_move rfl) rfl rfl rfl ?_
      refine VS_pure (P_extract rfl rfl) rfl rfl rfl ?_
      refine VS_pure (P_extract rfl rfl) rfl rfl rfl ?_
      refine VS_step (S_alloc zl62 rfl (fun b1 => ?_)) rfl
      refine VS_step (S_storeAgg ag62 rfl rfl rfl (.here) rfl rfl ?_) rfl
      refine VS_pure (P_assign rfl) rfl rfl rfl ?_
      refine VS_nil ?_
      refine QS_then ?_
      refine TS_seq ?_
      refine TS_region ?_
      refine VS_pure (P_move rfl) rfl rfl rfl ?_
      refine VS_nil ?_
      refine QS_then ?_
      refine TS_false rfl ?_
      refine TS_skip ?_
      refine QS_then ?_
      refine TS_seq ?_
      refine TS_seq ?_
      refine TS_region ?_
      refine VS_pure (P_move rfl) rfl rfl rfl ?_
      refine VS_pure (P_assertYes ni66 us66 rfl) rfl rfl rfl ?_
      refine VS_pure (P_move rfl) rfl rfl rfl ?_
      refine VS_pure (P_extract rfl rfl) rfl rfl rfl ?_
      refine VS_pure (P_extract rfl rfl) rfl rfl rfl ?_
      refine VS_step (S_alloc zl66 rfl (fun b2 => ?_)) rfl
      refine VS_step (S_storeAgg ag66 rfl rfl rfl (.here) rfl rfl ?_) rfl
      refine VS_pure (P_assign rfl) rfl rfl rfl ?_
      refine VS_nil ?_
      refine QS_then ?_
      refine TS_seq ?_
      refine TS_region ?_
      refine VS_pure (P_move rfl) rfl rfl rfl ?_
      refine VS_nil ?_
      refine QS_then ?_
      refine TS_true rfl ?_
      refine TS_region ?_
      refine VS_read (S_loadB sg4 rfl (.there (.there (.here))) rfl) rfl rfl rfl ?_
      refine VS_pure (P_move rfl) rfl rfl rfl ?_
      iterate 6 (refine VS_skip rfl rfl rfl ?_)
      refine VS_pure (P_pick_t rfl rfl) rfl rfl rfl ?_
      refine VS_step (S_store co4 rfl rfl rfl (.there (.there (.here))) (.here) ?_) rfl
      refine VS_nil ?_
      refine QS_then ?_
      refine TS_seq ?_
      refine TS_region ?_
      refine VS_read (S_loadB sg4 rfl (.there (.there (.here))) rfl) rfl rfl rfl ?_
      refine VS_pure (P_not rfl) rfl rfl rfl ?_
      refine VS_pure (P_assign rfl) rfl rfl rfl ?_
      refine VS_nil ?_
      refine QS_then ?_
      refine TS_ret ?_
      exact QS_ret [_] ⟨rfl, trivial⟩ [_] (.cons (.there (.there .here)) (.nil _)) ⟨congrArg Value.bool (by simp [askF, asks, *]), congrArg (fun s => [cel b [.bool s] 4]) (by simp [askF, asks, *])⟩
    | false =>
      by_cases h7 : op = 7
      · refine TS_seq ?_
        refine TS_region ?_
        refine VS_pure (P_assign rfl) rfl rfl rfl ?_
        refine VS_nil ?_
        refine QS_then ?_
        refine TS_seq ?_
        refine TS_seq ?_
        refine TS_region ?_
        refine VS_pure (P_move rfl) rfl rfl rfl ?_
        refine VS_pure (P_assertNo ni62 us62 rfl rfl Tryd.zeroValue62) rfl rfl rfl ?_
        refine VS_pure (P_move rfl) rfl rfl rfl ?_
        refine VS_pure (P_extract rfl rfl) rfl rfl rfl ?_
        refine VS_pure (P_extract rfl rfl) rfl rfl rfl ?_
        refine VS_step (S_alloc zl62 rfl (fun b1 => ?_)) rfl
        refine VS_step (S_storeAgg ag62 rfl rfl rfl (.here) rfl rfl ?_) rfl
        refine VS_pure (P_assign rfl) rfl rfl rfl ?_
        refine VS_nil ?_
        refine QS_then ?_
        refine TS_seq ?_
        refine TS_region ?_
        refine VS_pure (P_move rfl) rfl rfl rfl ?_
        refine VS_nil ?_
        refine QS_then ?_
        refine TS_false rfl ?_
        refine TS_skip ?_
        refine QS_then ?_
        refine TS_seq ?_
        refine TS_seq ?_
        refine TS_region ?_
        refine VS_pure (P_move rfl) rfl rfl rfl ?_
        refine VS_pure (P_assertYes ni66 us66 rfl) rfl rfl rfl ?_
        refine VS_pure (P_move rfl) rfl rfl rfl ?_
        refine VS_pure (P_extract rfl rfl) rfl rfl rfl ?_
        refine VS_pure (P_extract rfl rfl) rfl rfl rfl ?_
        refine VS_step (S_alloc zl66 rfl (fun b2 => ?_)) rfl
        refine VS_step (S_storeAgg ag66 rfl rfl rfl (.here) rfl rfl ?_) rfl
        refine VS_pure (P_assign rfl) rfl rfl rfl ?_
        refine VS_nil ?_
        refine QS_then ?_
        refine TS_seq ?_
        refine TS_region ?_
        refine VS_pure (P_move rfl) rfl rfl rfl ?_
        refine VS_nil ?_
        refine QS_then ?_
        refine TS_true rfl ?_
        refine TS_region ?_
        refine VS_read (S_loadB sg4 rfl (.there (.there (.here))) rfl) rfl rfl rfl ?_
        refine VS_pure (P_move rfl) rfl rfl rfl ?_
        refine VS_pure (P_fieldAddr0 fo66_0 rfl) rfl rfl rfl ?_
        refine VS_read (S_loadB sg64 rfl (.here) rfl) rfl rfl rfl ?_
        refine VS_pure (P_nilCheck rfl) rfl rfl rfl ?_
        refine VS_pure (P_fieldAddr fo42_0 rfl) rfl rfl rfl ?_
        refine VS_read (S_load sg39 rfl (hat.at_ rfl)) rfl rfl rfl ?_
        refine VS_pure (dt (P_eql rfl rfl) (by assumption)) rfl rfl rfl ?_
        refine VS_pure (P_pick_f rfl rfl) rfl rfl rfl ?_
        refine VS_step (S_store co4 rfl rfl rfl (.there (.there (.here))) (.here) ?_) rfl
        refine VS_nil ?_
        refine QS_then ?_
        refine TS_seq ?_
        refine TS_region ?_
        refine VS_read (S_loadB sg4 rfl (.there (.there (.here))) rfl) rfl rfl rfl ?_
        refine VS_pure (P_not rfl) rfl rfl rfl ?_
        refine VS_pure (P_assign rfl) rfl rfl rfl ?_
        refine VS_nil ?_
        refine QS_then ?_
        refine TS_ret ?_
        exact QS_ret [_] ⟨rfl, trivial⟩ [_] (.cons (.there (.there .here)) (.nil _)) ⟨congrArg Value.bool (by simp [askF, asks, *]), congrArg (fun s => [cel b [.bool s] 4]) (by simp [askF, asks, *])⟩
      · refine TS_seq ?_
        refine TS_region ?_
        refine VS_pure (P_assign rfl) rfl rfl rfl ?_
        refine VS_nil ?_
        refine QS_then ?_
        refine TS_seq ?_
        refine TS_seq ?_
        refine TS_region ?_
        refine VS_pure (P_move rfl) rfl rfl rfl ?_
        refine VS_pure (P_assertNo ni62 us62 rfl rfl Tryd.zeroValue62) rfl rfl rfl ?_
        refine VS_pure (P_move rfl) rfl rfl rfl ?_
        refine VS_pure (P_extract rfl rfl) rfl rfl rfl ?_
        refine VS_pure (P_extract rfl rfl) rfl rfl rfl ?_
        refine VS_step (S_alloc zl62 rfl (fun b1 => ?_)) rfl
        refine VS_step (S_storeAgg ag62 rfl rfl rfl (.here) rfl rfl ?_) rfl
        refine VS_pure (P_assign rfl) rfl rfl rfl ?_
        refine VS_nil ?_
        refine QS_then ?_
        refine TS_seq ?_
        refine TS_region ?_
        refine VS_pure (P_move rfl) rfl rfl rfl ?_
        refine VS_nil ?_
        refine QS_then ?_
        refine TS_false rfl ?_
        refine TS_skip ?_
        refine QS_then ?_
        refine TS_seq ?_
        refine TS_seq ?_
        refine TS_region ?_
        refine VS_pure (P_move rfl) rfl rfl rfl ?_
        refine VS_pure (P_assertYes ni66 us66 rfl) rfl rfl rfl ?_
        refine VS_pure (P_move rfl) rfl rfl rfl ?_
        refine VS_pure (P_extract rfl rfl) rfl rfl rfl ?_
        refine VS_pure (P_extract rfl rfl) rfl rfl rfl ?_
        refine VS_step (S_alloc zl66 rfl (fun b2 => ?_)) rfl
        refine VS_step (S_storeAgg ag66 rfl rfl rfl (.here) rfl rfl ?_) rfl
        refine VS_pure (P_assign rfl) rfl rfl rfl ?_
        refine VS_nil ?_
        refine QS_then ?_
        refine TS_seq ?_
        refine TS_region ?_
        refine VS_pure (P_move rfl) rfl rfl rfl ?_
        refine VS_nil ?_
        refine QS_then ?_
        refine TS_true rfl ?_
        refine TS_region ?_
        refine VS_read (S_loadB sg4 rfl (.there (.there (.here))) rfl) rfl rfl rfl ?_
        refine VS_pure (P_move rfl) rfl rfl rfl ?_
        refine VS_pure (P_fieldAddr0 fo66_0 rfl) rfl rfl rfl ?_
        refine VS_read (S_loadB sg64 rfl (.here) rfl) rfl rfl rfl ?_
        refine VS_pure (P_nilCheck rfl) rfl rfl rfl ?_
        refine VS_pure (P_fieldAddr fo42_0 rfl) rfl rfl rfl ?_
        refine VS_read (S_load sg39 rfl (hat.at_ rfl)) rfl rfl rfl ?_
        refine VS_pure (df (P_eql rfl rfl) (by assumption)) rfl rfl rfl ?_
        refine VS_pure (P_pick_f rfl rfl) rfl rfl rfl ?_
        refine VS_step (S_store co4 rfl rfl rfl (.there (.there (.here))) (.here) ?_) rfl
        refine VS_nil ?_
        refine QS_then ?_
        refine TS_seq ?_
        refine TS_region ?_
        refine VS_read (S_loadB sg4 rfl (.there (.there (.here))) rfl) rfl rfl rfl ?_
        refine VS_pure (P_not rfl) rfl rfl rfl ?_
        refine VS_pure (P_assign rfl) rfl rfl rfl ?_
        refine VS_nil ?_
        refine QS_then ?_
        refine TS_ret ?_
        exact QS_ret [_] ⟨rfl, trivial⟩ [_] (.cons (.there (.there .here)) (.nil _)) ⟨congrArg Value.bool (by simp [askF, asks, *]), congrArg (fun s => [cel b [.bool s] 4]) (by simp [askF, asks, *])⟩
  | cond x =>
    unfold partV
    cases s with
    | true =>
      refine TS_seq ?_
      refine TS_region ?_
      refine VS_pure (P_assign rfl) rfl rfl rfl ?_
      refine VS_nil ?_
      refine QS_then ?_
      refine TS_seq ?_
      refine TS_seq ?_
      refine TS_region ?_
      refine VS_pure (P_move rfl) rfl rfl rfl ?_
      refine VS_pure (P_assertNo ni62 us62 rfl rfl Tryd.zeroValue62) rfl rfl rfl ?_
      refine VS_pure (P_move rfl) rfl rfl rfl ?_
      refine VS_pure (P_extract rfl rfl) rfl rfl rfl ?_
      refine VS_pure (P_extract rfl rfl) rfl rfl rfl ?_
      refine VS_step (S_alloc zl62 rfl (fun b1 => ?_)) rfl
      refine VS_step (S_storeAgg ag62 rfl rfl rfl (.here) rfl rfl ?_) rfl
      refine VS_pure (P_assign rfl) rfl rfl rfl ?_
      refine VS_nil ?_
      refine QS_then ?_
      refine TS_seq ?_
      refine TS_region ?_
      refine VS_pure (P_move rfl) rfl rfl rfl ?_
      refine VS_nil ?_
      refine QS_then ?_
      refine TS_false rfl ?_
      refine TS_skip ?_
      refine QS_then ?_
      refine TS_seq ?_
      refine TS_seq ?_
      refine TS_region ?_
      refine VS_pure (P_move rfl) rfl rfl rfl ?_
      refine VS_pure (P_assertNo ni66 us66 rfl rfl Tryd.zeroValue66) rfl rfl rfl ?_
      refine VS_pure (P_move rfl) rfl rfl rfl ?_
      refine VS_pure (P_extract rfl rfl) rfl rfl rfl ?_
      refine VS_pure (P_extract rfl rfl) rfl rfl rfl ?_
      refine VS_step (S_alloc zl66 rfl (fun b2 => ?_)) rfl
      refine VS_step (S_storeAgg ag66 rfl rfl rfl (.here) rfl rfl ?_) rfl
      refine VS_pure (P_assign rfl) rfl rfl rfl ?_
      refine VS_nil ?_
      refine QS_then ?_
      refine TS_seq ?_
      refine TS_region ?_
      refine VS_pure (P_move rfl) rfl rfl rfl ?_
      refine VS_nil ?_
      refine QS_then ?_
      refine TS_false rfl ?_
      refine TS_skip ?_
      refine QS_then ?_
      refine TS_seq ?_
      refine TS_region ?_
      refine VS_read (S_loadB sg4 rfl (.there (.there (.here))) rfl) rfl rfl rfl ?_
      refine VS_pure (P_not rfl) rfl rfl rfl ?_
      refine VS_pure (P_assign rfl) rfl rfl rfl ?_
      refine VS_nil ?_
      refine QS_then ?_
      refine TS_ret ?_
      exact QS_ret [_] ⟨rfl, trivial⟩ [_] (.cons (.there (.there .here)) (.nil _)) ⟨congrArg Value.bool (by simp [askF, asks, *]), congrArg (fun s => [cel b [.bool s] 4]) (by simp [askF, asks, *])⟩
    | false =>
      refine TS_seq ?_
      refine TS_region ?_
      refine VS_pure (P_assign rfl) rfl rfl rfl ?_
      refine VS_nil ?_
      refine QS_then ?_
      refine TS_seq ?_
      refine TS_seq ?_
      refine TS_region ?_
      refine VS_pure (P_move rfl) rfl rfl rfl ?_
      refine VS_pure (P_assertNo ni62 us62 rfl rfl Tryd.zeroValue62) rfl rfl rfl ?_
      refine VS_pure (P_move rfl) rfl rfl rfl ?_
      refine VS_pure (P_extract rfl rfl) rfl rfl rfl ?_
      refine VS_pure (P_extract rfl rfl) rfl rfl rfl ?_
      refine VS_step (S_alloc zl62 rfl (fun b1 => ?_)) rfl
      refine VS_step (S_storeAgg ag62 rfl rfl rfl (.here) rfl rfl ?_) rfl
      refine VS_pure (P_assign rfl) rfl rfl rfl ?_
      refine VS_nil ?_
      refine QS_then ?_
      refine TS_seq ?_
      refine TS_region ?_
      refine VS_pure (P_move rfl) rfl rfl rfl ?_
      refine VS_nil ?_
      refine QS_then ?_
      refine TS_false rfl ?_
      refine TS_skip ?_
      refine QS_then ?_
      refine TS_seq ?_
      refine TS_seq ?_
      refine TS_region ?_
      refine VS_pure (P_move rfl) rfl rfl rfl ?_
      refine VS_pure (P_assertNo ni66 us66 rfl rfl Tryd.zeroValue66) rfl rfl rfl ?_
      refine VS_pure (P_move rfl) rfl rfl rfl ?_
      refine VS_pure (P_extract rfl rfl) rfl rfl rfl ?_
      refine VS_pure (P_extract rfl rfl) rfl rfl rfl ?_
      refine VS_step (S_alloc zl66 rfl (fun b2 => ?_)) rfl
      refine VS_step (S_storeAgg ag66 rfl rfl rfl (.here) rfl rfl ?_) rfl
      refine VS_pure (P_assign rfl) rfl rfl rfl ?_
      refine VS_nil ?_
      refine QS_then ?_
      refine TS_seq ?_
      refine TS_region ?_
      refine VS_pure (P_move rfl) rfl rfl rfl ?_
      refine VS_nil ?_
      refine QS_then ?_
      refine TS_false rfl ?_
      refine TS_skip ?_
      refine QS_then ?_
      refine TS_seq ?_
      refine TS_region ?_
      refine VS_read (S_loadB sg4 rfl (.there (.there (.here))) rfl) rfl rfl rfl ?_
      refine VS_pure (P_not rfl) rfl rfl rfl ?_
      refine VS_pure (P_assign rfl) rfl rfl rfl ?_
      refine VS_nil ?_
      refine QS_then ?_
      refine TS_ret ?_
      exact QS_ret [_] ⟨rfl, trivial⟩ [_] (.cons (.there (.there .here)) (.nil _)) ⟨congrArg Value.bool (by simp [askF, asks, *]), congrArg (fun s => [cel b [.bool s] 4]) (by simp [askF, asks, *])⟩
set_option maxHeartbeats 4000000 in
theorem Needs_ok {m : Mp} {cs : List Value} {x : CardT} (hx : CardR m cs x) {l : List PartT} (hF : FlatL (kidsC x) l) (hlen : l.length ≤ 3999) : CS Tryd.prog 10 [.agg cs.toArray] m [] (Gives (.bool (goL askF l false).1)) := by
  have hx0 := hx
  obtain ⟨u, a1, a2, a3, a4, a5, a6, A, la, ca, B, lb, cb, D, ld, cd, z, rfl⟩ := CardR.form hx
  clear hx
  refine CS_of [.tmp 2] Tryd.func10 rfl rfl rfl ?_
  refine TS_seq ?_
  refine TS_region ?_
  refine VS_step (S_box rfl rfl (fun b1 => ?_)) rfl
  refine VS_pure (P_assign rfl) rfl rfl rfl ?_
  refine VS_nil ?_
  refine QS_then ?_
  refine TS_seq ?_
  refine TS_region ?_
  refine VS_step (S_alloc zl4 rfl (fun b2 => ?_)) rfl
  refine VS_step (S_store co4 rfl rfl rfl (.here) (.here) ?_) rfl
  refine VS_nil ?_
  refine QS_then ?_
  refine TS_seq ?_
  refine TS_region ?_
  refine VS_pure (P_makeFunc rfl rfl) rfl rfl rfl ?_
  refine VS_step ((S_call1 cl17 rfl .here (fun m1 hm he => all_ok (g := 18) (E := fun s : Bool => cel b2 [.bool s] 4) (f := askF) (I := fun _ => True) (fun _ _ _ _ => trivial) cl18 (fun m' _ v p s _ hp => ask18 hp) hF hlen (At.blk (HE0 he)) (hx0.mono hm) false trivial) rfl ?_)) rfl
  rintro _ _ ⟨rfl, rfl⟩
  refine VS_nil ?_
  refine QS_then ?_
  refine TS_seq ?_
  refine TS_region ?_
  refine VS_read (S_loadB sg4 rfl (.here) rfl) rfl rfl rfl ?_
  refine VS_pure (P_assign rfl) rfl rfl rfl ?_
  refine VS_nil ?_
  refine QS_then ?_
  refine TS_ret ?_
  exact QS_ret [_] ⟨rfl, trivial⟩ [] (Pick.nil _) ⟨rfl, rfl⟩
end Go.Proofs.YtbghonkgflolaaaDoor
