/- A part of the proof: contracts of functions of the program. No condition. -/
import Derived.Test.YtbpihgphicmdiaaWiZ
namespace Go.Proofs.Ytbpihgphicmdiaa
open Go.Eng Wi
set_option maxRecDepth 100000
/-- the method Kind of a message -/
theorem Kind_ok {m : Mp} {v : Value} {x : Ltr} (h : MsgR m v x) : ∃ T val f, v = .iface T val ∧ callable Try.prog f = true ∧ (∀ w, (method (Try.prog.types.size + Made.depth) T val "Kind").run Try.prog w = .ok (f, val) w) ∧ ∀ m', CS Try.prog f [val] m' [] (Gives (.int .u8 x.kind)) := by
  cases h with
  | login vb bytes hb =>
    obtain ⟨_, _, rfl, _⟩ := hb
    exact ⟨_, _, 86, rfl, by kernel_rfl, kind61 _, fun m' => Kind61_ok _ _ _⟩
  | make t text ht hx =>
    exact ⟨_, _, 88, rfl, by kernel_rfl, kind66 _, fun m' => Kind66_ok _ _⟩
  | deck t vc cards ht hc hx =>
    obtain ⟨_, _, rfl, _⟩ := hc
    exact ⟨_, _, 89, rfl, by kernel_rfl, kind68 _, fun m' => Kind68_ok _ _ _ _⟩
  | act t a vi vp ht ho hi hp =>
    obtain ⟨_, _, rfl, _⟩ := hi
    obtain ⟨_, _, rfl, _⟩ := hp
    exact ⟨_, _, 90, rfl, by kernel_rfl, kind70 _, fun m' => Kind70_ok _ _ _ _ _ _ _ _ _ _ _⟩
  | look t ht =>
    exact ⟨_, _, 85, rfl, by kernel_rfl, kind59 _, fun m' => Kind59_ok _⟩
  | replay t ht =>
    exact ⟨_, _, 91, rfl, by kernel_rfl, kind71 _, fun m' => Kind71_ok _⟩
  | audit t ht =>
    exact ⟨_, _, 92, rfl, by kernel_rfl, kind72 _, fun m' => Kind72_ok _⟩
  | bye  =>
    exact ⟨_, _, 84, rfl, by kernel_rfl, kind57 _, fun m' => Kind57_ok ⟩
  | reply to_ e ho ht =>
    exact ⟨_, _, 87, rfl, by kernel_rfl, kind64 _, fun m' => Kind64_ok _ _⟩
  | seen t vb bytes ht hb =>
    obtain ⟨_, _, rfl, _⟩ := hb
    exact ⟨_, _, 93, rfl, by kernel_rfl, kind74 _, fun m' => Kind74_ok _ _ _ _⟩
  | told t ve evs ht he =>
    obtain ⟨_, _, rfl, _⟩ := he
    exact ⟨_, _, 94, rfl, by kernel_rfl, kind76 _, fun m' => Kind76_ok _ _ _ _⟩
  | book t vb bytes ht hb =>
    obtain ⟨_, _, rfl, _⟩ := hb
    exact ⟨_, _, 95, rfl, by kernel_rfl, kind78 _, fun m' => Kind78_ok _ _ _ _⟩
set_option maxHeartbeats 16000000 in
theorem WireBytes_ok {m : Mp} {lx : List Value} {x : Ltr} (hx : LtA m lx x) : CS Try.prog 3 [.agg lx.toArray] m [] (Gives (.bool true)) := by
  have hx0 := hx
  have hxl := hx.lt
  obtain ⟨vb, vc, vi, vp, ve, rfl, xb, xc, xi, xp, xe, xr⟩ := hx
  obtain ⟨ab, db, rfl, _⟩ := xb
  obtain ⟨ac, dc, rfl, _⟩ := xc
  obtain ⟨ai, di, rfl, _⟩ := xi
  obtain ⟨ap, dp, rfl, _⟩ := xp
  have hevs := xe
  obtain ⟨ae, de, rfl, _, _, hew⟩ := xe
  have hcards : ∀ e ∈ x.evs, e.cards.length ≤ 140737488355328 := fun e he => by
    obtain ⟨i, hi, rfl⟩ := List.getElem_of_mem he
    obtain ⟨vc, _, _, _, _, _, _, _, ⟨_, _, _, _, h, _⟩, _⟩ := hew i hi
    exact h
  refine CS_of [.tmp 2] Try.func3 rfl rfl rfl ?_
  skip
  refine TS_seq ?_
  refine TS_region ?_
  refine VS_step (S_box rfl rfl (fun b1 => ?_)) rfl
  refine VS_pure (P_assign rfl) rfl rfl rfl ?_
  refine VS_nil ?_
  refine QS_then ?_
  refine TS_seq ?_
  refine TS_seq ?_
  refine TS_absorb .here (fun ns hi1 _ hd1 => ?_)
  have e0 := mc_abs (k := 0) hi1 hd1 rfl
  have hle : Le m (uni m ns) := uni_l m ns
  have hat : At (uni m ns) ⟨b1, 0, none⟩ [.int .u8 x.kind, iV x.table, sV x.text, .slice ab x.bytes.length db, .slice ac x.cards.length dc, .int .i8 x.act.op, iV x.act.side, iV x.act.place, iV x.act.target, .slice ai x.act.ids.length di, .slice ap x.act.pairs.length dp, .int .u8 x.to_, iV x.e, .slice ae x.evs.length de] := (At.blk (show ns b1 = some (.cells _ 32 (0, 0)) from hi1)).mono (uni_r hd1)
  refine TS_region ?_
  refine VS_read (S_loadAt ag32 rfl rfl hat) rfl rfl rfl ?_
  refine VS_step ((S_call cl7 rfl (fun m' hm he => Great_ok (hx0.mono (hle.trans hm))) rfl ?_)) rfl
  rintro _ _ ⟨rfl, g, rfl, hg⟩
  cases g with
  | true =>
    refine VS_nil ?_
    refine QS_then ?_
    refine TS_true rfl ?_
    refine TS_seq ?_
    refine TS_region ?_
    refine VS_step (S_callR cl8 rfl (fun m' hm he => (wakes_ok)) rfl ?_) rfl
    rintro _ rfl
    refine VS_pure (P_assign rfl) rfl rfl rfl ?_
    refine VS_nil ?_
    refine QS_then ?_
    refine TS_ret ?_
    refine QS_then_ret ?_
    exact QS_retW hle [_] ⟨rfl, trivial⟩ [] (Pick.nil _) ⟨rfl, rfl⟩
  | false =>
    have hfit := hg rfl
    obtain ⟨hf1, hf2, hf3, hf4⟩ := hfit.lens
    refine VS_nil ?_
    refine QS_then ?_
    refine TS_false rfl ?_
    refine TS_skip ?_
    refine QS_then ?_
    refine TS_seq ?_
    refine TS_region ?_
    refine VS_read (S_loadAt ag32 rfl rfl hat) rfl rfl rfl ?_
    refine VS_step ((S_call cl9 rfl (fun m' hm he => Of_ok (hx0.mono (hle.trans hm))) rfl ?_)) rfl
    rintro _ _ ⟨rfl, ⟨hr, w, hw, rfl⟩ | ⟨hr, rfl⟩⟩
    · have hmsg := hw m hx0
      have R := fun m' hm => Right_ok (m := m') (hxl.mono (hle.trans hm))
      rw [hr] at R
      have hkn : known x.kind = true := by
        cases hk : known x.kind with
        | true => rfl
        | false => rw [rightP, hk] at hr; cases hr
      obtain ⟨T, val, f, rfl, hcl, hmeth, hkind⟩ := Kind_ok hmsg
      obtain ⟨ly, hly, _, _, _, hflat⟩ := Flat_ok hmsg
      refine VS_pure (P_move rfl) rfl rfl rfl ?_
      refine VS_pure (P_extract rfl rfl) rfl rfl rfl ?_
      refine VS_pure (P_extract rfl rfl) rfl rfl rfl ?_
      refine VS_pure (P_assign rfl) rfl rfl rfl ?_
      refine VS_pure (P_assign rfl) rfl rfl rfl ?_
      refine VS_nil ?_
      refine QS_then ?_
      refine TS_seq ?_
      refine TS_seq ?_
      refine TS_region ?_
      refine VS_read (S_loadAt ag32 rfl rfl hat) rfl rfl rfl ?_
      refine VS_step (S_callR cl10 rfl (fun m' hm he => (R m' hm)) rfl ?_) rfl
      rintro _ rfl
      refine VS_pure (P_not rfl) rfl rfl rfl ?_
      refine VS_nil ?_
      refine QS_then ?_
      refine TS_false rfl ?_
      refine TS_skip ?_
      refine QS_then ?_
      refine TS_seq ?_
      refine TS_seq ?_
      refine TS_drawB (.step 0 true (.step 1 true (.step 2 true (.step 3 true (.step 4 true (.step 5 true (.step 6 true (.step 7 true (.step 9 true (.step 10 true (.step 8 false (.step 11 true (.step 12 true (.done)))))))))))))) mixed (by kernel_rfl) (fun _ _ _ _ hq => hq) ?_
      refine VBS_pure rfl (P_move rfl) rfl rfl rfl ?_
      refine VBS_pure rfl (df (P_neq rfl rfl) (by omega)) rfl rfl rfl ?_
      refine VBS_pure rfl (P_move rfl) rfl rfl rfl ?_
      refine VBS_pure rfl (P_move rfl) rfl rfl rfl ?_
      refine VBS_pure rfl (P_ieqNo (by kernel_rfl) rfl) rfl rfl rfl ?_
      refine VBS_pure rfl (P_pick_f rfl rfl) rfl rfl rfl ?_
      refine VBS_pure rfl (P_move rfl) rfl rfl rfl ?_
      refine VBS_pure rfl (P_move rfl) rfl rfl rfl ?_
      refine VBS_pure rfl (P_fieldAddr0 fo32_0 rfl) rfl rfl rfl ?_
      refine VBS_read rfl (S_load sg5 rfl e0) rfl rfl rfl ?_
      refine VBS_step rfl ((S_invoke hcl rfl rfl hmeth (fun m' hm he => hkind m') rfl ?_)) rfl
      rintro _ _ ⟨rfl, rfl⟩
      refine VBS_pure rfl (df (P_neq rfl rfl) (by omega)) rfl rfl rfl ?_
      refine VBS_pure rfl (P_pick_f rfl rfl) rfl rfl rfl ?_
      refine VBS_nil ?_
      refine QS_then ?_
      refine TS_false rfl ?_
      refine TS_skip ?_
      refine QS_then ?_
      refine TS_seq ?_
      refine TS_region ?_
      refine VS_pure (P_move rfl) rfl rfl rfl ?_
      refine VS_step (S_callR cl11 rfl (fun m' hm he => (hflat m')) rfl ?_) rfl
      rintro _ rfl
      have hly2 := hly
      obtain ⟨_, _, _, _, _, rfl, ⟨_, _, rfl, _⟩, ⟨_, _, rfl, _⟩, ⟨_, _, rfl, _⟩, ⟨_, _, rfl, _⟩, ⟨_, _, rfl, _⟩, _⟩ := hly2
      refine VS_pure (P_move rfl) rfl rfl rfl ?_
      refine VS_pure (P_extract rfl rfl) rfl rfl rfl ?_
      refine VS_pure (P_extract rfl rfl) rfl rfl rfl ?_
      refine VS_step (S_alloc zl32 rfl (fun b2 => ?_)) rfl
      refine VS_step (S_storeAgg ag32 rfl rfl rfl (.here) rfl rfl ?_) rfl
      refine VS_pure (P_assign rfl) rfl rfl rfl ?_
      refine VS_nil ?_
      refine QS_then ?_
      refine TS_seq ?_
      refine TS_region ?_
      refine VS_pure (P_move rfl) rfl rfl rfl ?_
      have B := fun m' (hm : Le (uni m ns) m') => Bytes_ok (hmsg.mono (hle.trans hm)) (by omega)
      have RB := fun m' (hm : Le (uni m ns) m') => rBytes_ok (hx0.mono (hle.trans hm)) hkn (by omega) hcards
      have SL := fun m' (hm : Le (uni m ns) m') => SameL_ok (hly.lt.mono (hle.trans hm)) (hxl.mono (hle.trans hm))
      have CL := fun m' (hm : Le (uni m ns) m') => Client_ok (hmsg.mono (hle.trans hm))
      rw [decide_eq_true (rfl : x = x)] at SL
      refine VS_step ((S_call cl12 rfl (fun m' hm he => B m' hm) rfl ?_)) rfl
      rintro _ _ hB
      rcases hB with ⟨e, A1, c1, henc, rfl, rfl⟩ | ⟨henc, rfl, rfl⟩
      · refine VS_pure (P_move rfl) rfl rfl rfl ?_
        refine VS_pure (P_extract rfl rfl) rfl rfl rfl ?_
        refine VS_pure (P_extract rfl rfl) rfl rfl rfl ?_
        refine VS_pure (P_assign rfl) rfl rfl rfl ?_
        refine VS_pure (P_assign rfl) rfl rfl rfl ?_
        refine VS_nil ?_
        refine QS_then ?_
        refine TS_seq ?_
        refine TS_region ?_
        refine VS_read (S_loadAt ag32 rfl rfl hat) rfl rfl rfl ?_
        rw [henc] at RB
        refine VS_step ((S_call cl13 rfl (fun m' hm he => (RB m' hm).mono fun v L' h => h.some) rfl ?_)) rfl
        rintro _ _ ⟨A2, c2, rfl, rfl⟩
        refine VS_pure (P_move rfl) rfl rfl rfl ?_
        refine VS_pure (P_extract rfl rfl) rfl rfl rfl ?_
        refine VS_pure (P_extract rfl rfl) rfl rfl rfl ?_
        refine VS_pure (P_assign rfl) rfl rfl rfl ?_
        refine VS_pure (P_assign rfl) rfl rfl rfl ?_
        refine VS_nil ?_
        refine QS_then ?_
        refine TS_seq ?_
        refine TS_absorb .here (fun n3 hi3 _ hd3 => ?_)
        refine TS_absorb .here (fun n2 hi2 _ hd2 => ?_)
        refine TS_absorb .here (fun n1 hi4 _ hd1' => ?_)
        have l3 : Le (uni m ns) (uni (uni (uni (uni m ns) n3) n2) n1) := (uni_l _ n3).trans ((uni_l _ n2).trans (uni_l _ n1))
        have hr3 := (Eng.Own.rd hi3).mono ((uni_r hd3).trans ((uni_l _ n2).trans (uni_l _ n1)))
        have hr2 := (Eng.Own.rd hi2).mono ((uni_r hd2).trans (uni_l _ n1))
        have hat1 := hat.mono l3
        have e01 := mc_mono l3 e0
        have hat5 := (At.blk (show n1 b2 = some (.cells _ 32 (0, 0)) from hi4)).mono (uni_r hd1')
        by_cases hk8 : x.kind ≤ 8
        · rw [decide_eq_true hk8] at CL
          refine TS_drawB (.step 0 true (.step 1 true (.step 2 true (.step 3 true (.step 4 true (.step 5 false (.step 6 true (.step 7 true (.step 8 true (.step 9 true (.step 10 true (.step 11 true (.step 12 true (.step 13 true (.step 14 true (.step 15 true (.step 16 true (.step 17 true (.step 18 true (.step 19 true (.step 20 true (.step 22 true (.step 23 true (.step 24 true (.step 21 false (.step 25 true (.step 26 true (.step 27 true (.step 28 false (.step 29 true (.step 30 true (.done)))))))))))))))))))))))))))))))) mixed (by kernel_rfl) (fun _ _ _ _ hq => hq) ?_
          refine VBS_pure rfl (P_move rfl) rfl rfl rfl ?_
          refine VBS_pure rfl (dt (P_eql rfl rfl) rfl) rfl rfl rfl ?_
          refine VBS_pure rfl (P_move rfl) rfl rfl rfl ?_
          refine VBS_read rfl (S_loadAt ag32 rfl rfl hat5) rfl rfl rfl ?_
          refine VBS_read rfl (S_loadAt ag32 rfl rfl hat1) rfl rfl rfl ?_
          refine VBS_step rfl (S_callR cl14 rfl (fun m' hm he => (SL m' (l3.trans hm))) rfl ?_) rfl
          rintro _ rfl
          refine VBS_pure rfl (P_pick_t rfl rfl) rfl rfl rfl ?_
          iterate 3 (refine VBS_pure rfl (P_move rfl) rfl rfl rfl ?_)
          refine VBS_pure rfl (dt (P_eql rfl rfl) rfl) rfl rfl rfl ?_
          refine VBS_pure rfl (P_pick_t rfl rfl) rfl rfl rfl ?_
          refine VBS_pure rfl (P_move rfl) rfl rfl rfl ?_
          refine VBS_pure rfl (P_move rfl) rfl rfl rfl ?_
          refine VBS_read rfl (S_bstr bt22 st9 rfl (by first | rfl | omega) hr2) rfl rfl rfl ?_
          refine VBS_pure rfl (P_move rfl) rfl rfl rfl ?_
          refine VBS_read rfl (S_bstr bt22 st9 rfl (by first | rfl | omega) hr3) rfl rfl rfl ?_
          refine VBS_pure rfl (dt (P_seql rfl rfl) rfl) rfl rfl rfl ?_
          refine VBS_pure rfl (P_pick_t rfl rfl) rfl rfl rfl ?_
          refine VBS_pure rfl (P_move rfl) rfl rfl rfl ?_
          refine VBS_pure rfl (P_move rfl) rfl rfl rfl ?_
          refine VBS_pure rfl (P_fieldAddr0 fo32_0 rfl) rfl rfl rfl ?_
          refine VBS_read rfl (S_load sg5 rfl e01) rfl rfl rfl ?_
          refine VBS_pure rfl (dt (P_leq rfl rfl) (by assumption)) rfl rfl rfl ?_
          refine VBS_step rfl (S_callR cl15 rfl (fun m' hm he => (CL m' (l3.trans hm))) rfl ?_) rfl
          rintro _ rfl
          refine VBS_pure rfl (P_beql bo4 rfl rfl) rfl rfl rfl ?_
          refine VBS_pure rfl (P_pick_t rfl rfl) rfl rfl rfl ?_
          refine VBS_pure rfl (P_move rfl) rfl rfl rfl ?_
          refine VBS_step rfl (S_callR cl8 rfl (fun m' hm he => (wakes_ok)) rfl ?_) rfl
          rintro _ rfl
          refine VBS_pure rfl (P_pick_t rfl rfl) rfl rfl rfl ?_
          refine VBS_pure rfl (P_assign rfl) rfl rfl rfl ?_
          refine VBS_nil ?_
          refine QS_then ?_
          refine TS_ret ?_
          exact QS_retW (hle.trans l3) [_] ⟨rfl, trivial⟩ [] (Pick.nil _) ⟨rfl, rfl⟩
        · rw [decide_eq_false hk8] at CL
          refine TS_drawB (.step 0 true (.step 1 true (.step 2 true (.step 3 true (.step 4 true (.step 5 false (.step 6 true (.step 7 true (.step 8 true (.step 9 true (.step 10 true (.step 11 true (.step 12 true (.step 13 true (.step 14 true (.step 15 true (.step 16 true (.step 17 true (.step 18 true (.step 19 true (.step 20 true (.step 22 true (.step 23 true (.step 24 true (.step 21 false (.step 25 true (.step 26 true (.step 27 true (.step 28 false (.step 29 true (.step 30 true (.done)))))))))))))))))))))))))))))))) mixed (by kernel_rfl) (fun _ _ _ _ hq => hq) ?_
          refine VBS_pure rfl (P_move rfl) rfl rfl rfl ?_
          refine VBS_pure rfl (dt (P_eql rfl rfl) rfl) rfl rfl rfl ?_
          refine VBS_pure rfl (P_move rfl) rfl rfl rfl ?_
          refine VBS_read rfl (S_loadAt ag32 rfl rfl hat5) rfl rfl rfl ?_
          refine VBS_read rfl (S_loadAt ag32 rfl rfl hat1) rfl rfl rfl ?_
          refine VBS_step rfl (S_callR cl14 rfl (fun m' hm he => (SL m' (l3.trans hm))) rfl ?_) rfl
          rintro _ rfl
          refine VBS_pure rfl (P_pick_t rfl rfl) rfl rfl rfl ?_
          iterate 3 (refine VBS_pure rfl (P_move rfl) rfl rfl rfl ?_)
          refine VBS_pure rfl (dt (P_eql rfl rfl) rfl) rfl rfl rfl ?_
          refine VBS_pure rfl (P_pick_t rfl rfl) rfl rfl rfl ?_
          refine VBS_pure rfl (P_move rfl) rfl rfl rfl ?_
          refine VBS_pure rfl (P_move rfl) rfl rfl rfl ?_
          refine VBS_read rfl (S_bstr bt22 st9 rfl (by first | rfl | omega) hr2) rfl rfl rfl ?_
          refine VBS_pure rfl (P_move rfl) rfl rfl rfl ?_
          refine VBS_read rfl (S_bstr bt22 st9 rfl (by first | rfl | omega) hr3) rfl rfl rfl ?_
          refine VBS_pure rfl (dt (P_seql rfl rfl) rfl) rfl rfl rfl ?_
          refine VBS_pure rfl (P_pick_t rfl rfl) rfl rfl rfl ?_
          refine VBS_pure rfl (P_move rfl) rfl rfl rfl ?_
          refine VBS_pure rfl (P_move rfl) rfl rfl rfl ?_
          refine VBS_pure rfl (P_fieldAddr0 fo32_0 rfl) rfl rfl rfl ?_
          refine VBS_read rfl (S_load sg5 rfl e01) rfl rfl rfl ?_
          refine VBS_pure rfl (df (P_leq rfl rfl) (by assumption)) rfl rfl rfl ?_
          refine VBS_step rfl (S_callR cl15 rfl (fun m' hm he => (CL m' (l3.trans hm))) rfl ?_) rfl
          rintro _ rfl
          refine VBS_pure rfl (P_beql bo4 rfl rfl) rfl rfl rfl ?_
          refine VBS_pure rfl (P_pick_t rfl rfl) rfl rfl rfl ?_
          refine VBS_pure rfl (P_move rfl) rfl rfl rfl ?_
          refine VBS_step rfl (S_callR cl8 rfl (fun m' hm he => (wakes_ok)) rfl ?_) rfl
          rintro _ rfl
          refine VBS_pure rfl (P_pick_t rfl rfl) rfl rfl rfl ?_
          refine VBS_pure rfl (P_assign rfl) rfl rfl rfl ?_
          refine VBS_nil ?_
          refine QS_then ?_
          refine TS_ret ?_
          exact QS_retW (hle.trans l3) [_] ⟨rfl, trivial⟩ [] (Pick.nil _) ⟨rfl, rfl⟩
      · refine VS_pure (P_move rfl) rfl rfl rfl ?_
        refine VS_pure (P_extract rfl rfl) rfl rfl rfl ?_
        refine VS_pure (P_extract rfl rfl) rfl rfl rfl ?_
        refine VS_pure (P_assign rfl) rfl rfl rfl ?_
        refine VS_pure (P_assign rfl) rfl rfl rfl ?_
        refine VS_nil ?_
        refine QS_then ?_
        refine TS_seq ?_
        refine TS_region ?_
        refine VS_read (S_loadAt ag32 rfl rfl hat) rfl rfl rfl ?_
        rw [henc] at RB
        refine VS_step ((S_call cl13 rfl (fun m' hm he => (RB m' hm).mono fun v L' h => h.none) rfl ?_)) rfl
        rintro _ _ ⟨rfl, rfl⟩
        refine VS_pure (P_move rfl) rfl rfl rfl ?_
        refine VS_pure (P_extract rfl rfl) rfl rfl rfl ?_
        refine VS_pure (P_extract rfl rfl) rfl rfl rfl ?_
        refine VS_pure (P_assign rfl) rfl rfl rfl ?_
        refine VS_pure (P_assign rfl) rfl rfl rfl ?_
        refine VS_nil ?_
        refine QS_then ?_
        refine TS_seq ?_
        refine TS_absorb .here (fun n1 hi4 _ hd1' => ?_)
        have l3 : Le (uni m ns) (uni (uni m ns) n1) := uni_l _ n1
        have hat1 := hat.mono l3
        have e01 := mc_mono l3 e0
        have hat5 := (At.blk (show n1 b2 = some (.cells _ 32 (0, 0)) from hi4)).mono (uni_r hd1')
        have hr0 : Rd (uni (uni m ns) n1) none (([] : List UInt8).map byteV) := Rd.nil _ _
        by_cases hk8 : x.kind ≤ 8
        · rw [decide_eq_true hk8] at CL
          refine TS_drawB (.step 0 true (.step 1 true (.step 2 true (.step 3 true (.step 4 true (.step 5 false (.step 6 true (.step 7 true (.step 8 true (.step 9 true (.step 10 true (.step 11 true (.step 12 true (.step 13 true (.step 14 true (.step 15 true (.step 16 true (.step 17 true (.step 18 true (.step 19 true (.step 20 true (.step 22 true (.step 23 true (.step 24 true (.step 21 false (.step 25 true (.step 26 true (.step 27 true (.step 28 false (.step 29 true (.step 30 true (.done)))))))))))))))))))))))))))))))) mixed (by kernel_rfl) (fun _ _ _ _ hq => hq) ?_
          refine VBS_pure rfl (P_move rfl) rfl rfl rfl ?_
          refine VBS_pure rfl (dt (P_eql rfl rfl) rfl) rfl rfl rfl ?_
          refine VBS_pure rfl (P_move rfl) rfl rfl rfl ?_
          refine VBS_read rfl (S_loadAt ag32 rfl rfl hat5) rfl rfl rfl ?_
          refine VBS_read rfl (S_loadAt ag32 rfl rfl hat1) rfl rfl rfl ?_
          refine VBS_step rfl (S_callR cl14 rfl (fun m' hm he => (SL m' (l3.trans hm))) rfl ?_) rfl
          rintro _ rfl
          refine VBS_pure rfl (P_pick_t rfl rfl) rfl rfl rfl ?_
          iterate 3 (refine VBS_pure rfl (P_move rfl) rfl rfl rfl ?_)
          refine VBS_pure rfl (dt (P_eql rfl rfl) rfl) rfl rfl rfl ?_
          refine VBS_pure rfl (P_pick_t rfl rfl) rfl rfl rfl ?_
          refine VBS_pure rfl (P_move rfl) rfl rfl rfl ?_
          refine VBS_pure rfl (P_move rfl) rfl rfl rfl ?_
          refine VBS_read rfl (S_bstr bt22 st9 rfl (by first | rfl | omega) hr0) rfl rfl rfl ?_
          refine VBS_pure rfl (P_move rfl) rfl rfl rfl ?_
          refine VBS_read rfl (S_bstr bt22 st9 rfl (by first | rfl | omega) hr0) rfl rfl rfl ?_
          refine VBS_pure rfl (dt (P_seql rfl rfl) rfl) rfl rfl rfl ?_
          refine VBS_pure rfl (P_pick_t rfl rfl) rfl rfl rfl ?_
          refine VBS_pure rfl (P_move rfl) rfl rfl rfl ?_
          refine VBS_pure rfl (P_move rfl) rfl rfl rfl ?_
          refine VBS_pure rfl (P_fieldAddr0 fo32_0 rfl) rfl rfl rfl ?_
          refine VBS_read rfl (S_load sg5 rfl e01) rfl rfl rfl ?_
          refine VBS_pure rfl (dt (P_leq rfl rfl) (by assumption)) rfl rfl rfl ?_
          refine VBS_step rfl (S_callR cl15 rfl (fun m' hm he => (CL m' (l3.trans hm))) rfl ?_) rfl
          rintro _ rfl
          refine VBS_pure rfl (P_beql bo4 rfl rfl) rfl rfl rfl ?_
          refine VBS_pure rfl (P_pick_t rfl rfl) rfl rfl rfl ?_
          refine VBS_pure rfl (P_move rfl) rfl rfl rfl ?_
          refine VBS_step rfl (S_callR cl8 rfl (fun m' hm he => (wakes_ok)) rfl ?_) rfl
          rintro _ rfl
          refine VBS_pure rfl (P_pick_t rfl rfl) rfl rfl rfl ?_
          refine VBS_pure rfl (P_assign rfl) rfl rfl rfl ?_
          refine VBS_nil ?_
          refine QS_then ?_
          refine TS_ret ?_
          exact QS_retW (hle.trans l3) [_] ⟨rfl, trivial⟩ [] (Pick.nil _) ⟨rfl, rfl⟩
        · rw [decide_eq_false hk8] at CL
          refine TS_drawB (.step 0 true (.step 1 true (.step 2 true (.step 3 true (.step 4 true (.step 5 false (.step 6 true (.step 7 true (.step 8 true (.step 9 true (.step 10 true (.step 11 true (.step 12 true (.step 13 true (.step 14 true (.step 15 true (.step 16 true (.step 17 true (.step 18 true (.step 19 true (.step 20 true (.step 22 true (.step 23 true (.step 24 true (.step 21 false (.step 25 true (.step 26 true (.step 27 true (.step 28 false (.step 29 true (.step 30 true (.done)))))))))))))))))))))))))))))))) mixed (by kernel_rfl) (fun _ _ _ _ hq => hq) ?_
          refine VBS_pure rfl (P_move rfl) rfl rfl rfl ?_
          refine VBS_pure rfl (dt (P_eql rfl rfl) rfl) rfl rfl rfl ?_
          refine VBS_pure rfl (P_move rfl) rfl rfl rfl ?_
          refine VBS_read rfl (S_loadAt ag32 rfl rfl hat5) rfl rfl rfl ?_
          refine VBS_read rfl (S_loadAt ag32 rfl rfl hat1) rfl rfl rfl ?_
          refine VBS_step rfl (S_callR cl14 rfl (fun m' hm he => (SL m' (l3.trans hm))) rfl ?_) rfl
          rintro _ rfl
          refine VBS_pure rfl (P_pick_t rfl rfl) rfl rfl rfl ?_
          iterate 3 (refine VBS_pure rfl (P_move rfl) rfl rfl rfl ?_)
          refine VBS_pure rfl (dt (P_eql rfl rfl) rfl) rfl rfl rfl ?_
          refine VBS_pure rfl (P_pick_t rfl rfl) rfl rfl rfl ?_
          refine VBS_pure rfl (P_move rfl) rfl rfl rfl ?_
          refine VBS_pure rfl (P_move rfl) rfl rfl rfl ?_
          refine VBS_read rfl (S_bstr bt22 st9 rfl (by first | rfl | omega) hr0) rfl rfl rfl ?_
          refine VBS_pure rfl (P_move rfl) rfl rfl rfl ?_
          refine VBS_read rfl (S_bstr bt22 st9 rfl (by first | rfl | omega) hr0) rfl rfl rfl ?_
          refine VBS_pure rfl (dt (P_seql rfl rfl) rfl) rfl rfl rfl ?_
          refine VBS_pure rfl (P_pick_t rfl rfl) rfl rfl rfl ?_
          refine VBS_pure rfl (P_move rfl) rfl rfl rfl ?_
          refine VBS_pure rfl (P_move rfl) rfl rfl rfl ?_
          refine VBS_pure rfl (P_fieldAddr0 fo32_0 rfl) rfl rfl rfl ?_
          refine VBS_read rfl (S_load sg5 rfl e01) rfl rfl rfl ?_
          refine VBS_pure rfl (df (P_leq rfl rfl) (by assumption)) rfl rfl rfl ?_
          refine VBS_step rfl (S_callR cl15 rfl (fun m' hm he => (CL m' (l3.trans hm))) rfl ?_) rfl
          rintro _ rfl
          refine VBS_pure rfl (P_beql bo4 rfl rfl) rfl rfl rfl ?_
          refine VBS_pure rfl (P_pick_t rfl rfl) rfl rfl rfl ?_
          refine VBS_pure rfl (P_move rfl) rfl rfl rfl ?_
          refine VBS_step rfl (S_callR cl8 rfl (fun m' hm he => (wakes_ok)) rfl ?_) rfl
          rintro _ rfl
          refine VBS_pure rfl (P_pick_t rfl rfl) rfl rfl rfl ?_
          refine VBS_pure rfl (P_assign rfl) rfl rfl rfl ?_
          refine VBS_nil ?_
          refine QS_then ?_
          refine TS_ret ?_
          exact QS_retW (hle.trans l3) [_] ⟨rfl, trivial⟩ [] (Pick.nil _) ⟨rfl, rfl⟩
    · have R := fun m' hm => Right_ok (m := m') (hxl.mono (hle.trans hm))
      rw [hr] at R
      refine VS_pure (P_move rfl) rfl rfl rfl ?_
      refine VS_pure (P_extract rfl rfl) rfl rfl rfl ?_
      refine VS_pure (P_extract rfl rfl) rfl rfl rfl ?_
      refine VS_pure (P_assign rfl) rfl rfl rfl ?_
      refine VS_pure (P_assign rfl) rfl rfl rfl ?_
      refine VS_nil ?_
      refine QS_then ?_
      refine TS_seq ?_
      refine TS_seq ?_
      refine TS_region ?_
      refine VS_read (S_loadAt ag32 rfl rfl hat) rfl rfl rfl ?_
      refine VS_step (S_callR cl10 rfl (fun m' hm he => (R m' hm)) rfl ?_) rfl
      rintro _ rfl
      refine VS_pure (P_not rfl) rfl rfl rfl ?_
      refine VS_nil ?_
      refine QS_then ?_
      refine TS_true rfl ?_
      refine TS_seq ?_
      refine TS_region ?_
      refine VS_pure (P_move rfl) rfl rfl rfl ?_
      refine VS_pure (dt (P_eql rfl rfl) rfl) rfl rfl rfl ?_
      refine VS_pure (P_move rfl) rfl rfl rfl ?_
      refine VS_pure (P_move rfl) rfl rfl rfl ?_
      refine VS_pure (P_ieqYes (by kernel_rfl) rfl) rfl rfl rfl ?_
      refine VS_pure (P_pick_t rfl rfl) rfl rfl rfl ?_
      refine VS_pure (P_move rfl) rfl rfl rfl ?_
      refine VS_step (S_callR cl8 rfl (fun m' hm he => (wakes_ok)) rfl ?_) rfl
      rintro _ rfl
      refine VS_pure (P_pick_t rfl rfl) rfl rfl rfl ?_
      refine VS_pure (P_assign rfl) rfl rfl rfl ?_
      refine VS_nil ?_
      refine QS_then ?_
      refine TS_ret ?_
      refine QS_then_ret ?_
      exact QS_retW hle [_] ⟨rfl, trivial⟩ [] (Pick.nil _) ⟨rfl, rfl⟩
end Go.Proofs.Ytbpihgphicmdiaa
