/- A part of the proof: contracts of functions of the program. No condition. -/
import Derived.Test.YtbpihgphicmdiaaWiCa
import Derived.Test.YtbpihgphicmdiaaWiAi
import Derived.Test.YtbpihgphicmdiaaWiZ
namespace Go.Proofs.Ytbpihgphicmdiaa
open Go.Eng Wi
set_option maxRecDepth 100000
theorem read_enc {b : List UInt8} {y : Ltr} {a : Nat} (h : pRead b = .ok y a) : encX y = some b ∧ y.evs.length ≤ 65535 := by
  unfold pRead at h
  split at h
  · cases h
  · rename_i hb
    obtain ⟨h1, h2⟩ := wr_all h
    refine ⟨?_, h2⟩
    rw [encX, h1]
    show (if _ then _ else _) = _
    rw [if_pos (by omega)]
theorem enc_read {x : Ltr} {e : List UInt8} (hr : rightP x = true) (ho : OkR x) (h : encX x = some e) : pRead e = .ok x e.length ∧ e.length ≤ 4096 := by
  unfold encX at h
  cases ha : eAll x with
  | none => rw [ha] at h; cases h
  | some t =>
    rw [ha] at h
    change (if _ then _ else _) = _ at h
    split at h
    · injection h with h
      subst h
      exact ⟨by rw [pRead, if_neg (by omega)]; exact rds_all hr ho ha, by omega⟩
    · cases h
set_option maxHeartbeats 16000000 in
theorem WireBack_ok {m : Mp} {lx : List Value} {x : Ltr} (hx : LtA m lx x) {A : Option Addr} {c : Nat} {b : List UInt8} (hr : Rd m A (b.map byteV)) (hb : b.length ≤ 140737488355328) : CS Try.prog 6 [.agg lx.toArray, .slice A b.length c] m [] (Gives (.bool true)) := by
  have hx0 := hx
  have hokr := hx.okR
  obtain ⟨vb, vc, vi, vp, ve, rfl, xb, xc, xi, xp, xe, xr⟩ := hx
  obtain ⟨ab, db, rfl, _⟩ := xb
  obtain ⟨ac, dc, rfl, _⟩ := xc
  obtain ⟨ai, di, rfl, _⟩ := xi
  obtain ⟨ap, dp, rfl, _⟩ := xp
  obtain ⟨ae, de, rfl, _⟩ := xe
  refine CS_of [.tmp 4] Try.func6 rfl rfl rfl ?_
  refine TS_seq ?_
  refine TS_region ?_
  refine VS_step (S_box rfl rfl (fun b1 => ?_)) rfl
  refine VS_pure (P_assign rfl) rfl rfl rfl ?_
  refine VS_nil ?_
  refine QS_then ?_
  refine TS_seq ?_
  refine TS_seq ?_
  refine TS_region ?_
  refine VS_read (S_loadBA ag32 rfl (.here) rfl) rfl rfl rfl ?_
  refine VS_step ((S_call cl7 rfl (fun m' hm he => Great_ok (hx0.mono hm)) rfl ?_)) rfl
  rintro _ _ ⟨rfl, g, rfl, hg⟩
  cases g with
  | true =>
    refine VS_pure (P_move rfl) rfl rfl rfl ?_
    iterate 3 (refine VS_skip rfl rfl rfl ?_)
    refine VS_pure (P_pick_t rfl rfl) rfl rfl rfl ?_
    refine VS_nil ?_
    refine QS_then ?_
    refine TS_true rfl ?_
    refine TS_seq ?_
    refine TS_region ?_
    refine VS_step (S_callR cl8 rfl (fun m' hm he => (wakes_ok)) rfl ?_) rfl
    rintro _ rfl
    refine VS_pure (P_assign rfl) rfl rfl rfl ?_
    refine VS_nil ?_
    refine QS_then ?_
    refine TS_ret ?_
    refine QS_then_ret ?_
    exact QS_ret [_] ⟨rfl, trivial⟩ [] (Pick.nil _) ⟨rfl, rfl⟩
  | false =>
    by_cases hbig : 6000 < b.length
    · refine VS_pure (P_move rfl) rfl rfl rfl ?_
      refine VS_pure (P_move rfl) rfl rfl rfl ?_
      refine VS_pure (P_len il22 rfl) rfl rfl rfl ?_
      refine VS_pure (dt (P_gtr rfl rfl) (by omega)) rfl rfl rfl ?_
      refine VS_pure (P_pick_f rfl rfl) rfl rfl rfl ?_
      refine VS_nil ?_
      refine QS_then ?_
      refine TS_true rfl ?_
      refine TS_seq ?_
      refine TS_region ?_
      refine VS_step (S_callR cl8 rfl (fun m' hm he => (wakes_ok)) rfl ?_) rfl
      rintro _ rfl
      refine VS_pure (P_assign rfl) rfl rfl rfl ?_
      refine VS_nil ?_
      refine QS_then ?_
      refine TS_ret ?_
      refine QS_then_ret ?_
      exact QS_ret [_] ⟨rfl, trivial⟩ [] (Pick.nil _) ⟨rfl, rfl⟩
    have hb2 : b.length ≤ 1099511627776 := by omega
    have hfit := hg rfl
    obtain ⟨hf1, hf2, hf3, hf4⟩ := hfit.lens
    refine VS_pure (P_move rfl) rfl rfl rfl ?_
    refine VS_pure (P_move rfl) rfl rfl rfl ?_
    refine VS_pure (P_len il22 rfl) rfl rfl rfl ?_
    refine VS_pure (df (P_gtr rfl rfl) (by omega)) rfl rfl rfl ?_
    refine VS_pure (P_pick_f rfl rfl) rfl rfl rfl ?_
    refine VS_nil ?_
    refine QS_then ?_
    refine TS_false rfl ?_
    refine TS_skip ?_
    refine QS_then ?_
    refine TS_seq ?_
    refine TS_region ?_
    refine VS_read (S_loadBA ag32 rfl (.here) rfl) rfl rfl rfl ?_
    refine VS_step ((S_call cl9 rfl (fun m' hm he => Of_ok (hx0.mono hm)) rfl ?_)) rfl
    rintro _ _ ⟨rfl, ⟨hrt, w, hw, rfl⟩ | ⟨hrt, rfl⟩⟩
    · have hmsg := hw m hx0
      have B := fun m' (hm : Le m m') => Bytes_ok (hmsg.mono hm) (by omega)
      refine VS_pure (P_move rfl) rfl rfl rfl ?_
      refine VS_pure (P_extract rfl rfl) rfl rfl rfl ?_
      refine VS_pure (P_extract rfl rfl) rfl rfl rfl ?_
      refine VS_pure (P_assign rfl) rfl rfl rfl ?_
      refine VS_pure (P_assign rfl) rfl rfl rfl ?_
      refine VS_nil ?_
      refine QS_then ?_
      refine TS_seq ?_
      refine TS_seq ?_
      refine TS_region ?_
      refine VS_pure (P_move rfl) rfl rfl rfl ?_
      refine VS_pure (dt (P_eql rfl rfl) rfl) rfl rfl rfl ?_
      refine VS_nil ?_
      refine QS_then ?_
      refine TS_true rfl ?_
      refine TS_seq ?_
      refine TS_region ?_
      refine VS_pure (P_move rfl) rfl rfl rfl ?_
      refine VS_step ((S_call cl12 rfl (fun m' hm he => B m' hm) rfl ?_)) rfl
      rintro _ _ hB
      rcases hB with ⟨e, A1, c1, henc, rfl, rfl⟩ | ⟨henc, rfl, rfl⟩
      · obtain ⟨hpr, hel⟩ := enc_read hrt hokr henc
        refine VS_absorb .here (fun n1 hi1 _ hd1 => ?_)
        have hle1 : Le m (uni m n1) := uni_l m n1
        have hre : Rd (uni m n1) A1 (e.map byteV) := (Eng.Own.rd hi1).mono (uni_r hd1)
        refine VS_pure (P_move rfl) rfl rfl rfl ?_
        refine VS_pure (P_extract rfl rfl) rfl rfl rfl ?_
        refine VS_pure (P_extract rfl rfl) rfl rfl rfl ?_
        refine VS_pure (P_assign rfl) rfl rfl rfl ?_
        refine VS_pure (P_assign rfl) rfl rfl rfl ?_
        refine VS_nil ?_
        refine QS_then ?_
        refine TS_seq ?_
        refine TS_region ?_
        refine VS_pure (P_move rfl) rfl rfl rfl ?_
        refine VS_pure (dt (P_eql rfl rfl) rfl) rfl rfl rfl ?_
        refine VS_nil ?_
        refine QS_then ?_
        refine TS_true rfl ?_
        refine TS_seq ?_
        refine TS_region ?_
        refine VS_pure (P_move rfl) rfl rfl rfl ?_
        refine VS_step ((S_call cl17 rfl (fun m' hm he => Read_ok (c := c1) (hre.mono hm) (by omega)) rfl ?_)) rfl
        rintro _ _ hA
        rcases hA with ⟨z, az, wz, ez, hz, rfl, rfl, hwz⟩ | ⟨kz, hz, rfl, rfl⟩
        · rw [hpr] at hz
          cases hz
          refine VS_absorb .here (fun n2 hi2 _ hd2 => ?_)
          have hle2 : Le (uni m n1) (uni (uni m n1) n2) := uni_l _ n2
          have hmz : MsgR (uni (uni m n1) n2) wz x := (hwz n2 hi2).mono (uni_r hd2)
          have SM := fun m' (hm : Le (uni (uni m n1) n2) m') => Same_ok (hmsg.mono ((hle1.trans hle2).trans hm)) (hmz.mono hm)
          rw [decide_eq_true (rfl : x = x)] at SM
          refine VS_pure (P_move rfl) rfl rfl rfl ?_
          iterate 3 (refine VS_pure (P_extract rfl rfl) rfl rfl rfl ?_)
          iterate 3 (refine VS_pure (P_assign rfl) rfl rfl rfl ?_)
          refine VS_nil ?_
          refine QS_then ?_
          refine TS_seq ?_
          refine TS_region ?_
          refine VS_pure (P_move rfl) rfl rfl rfl ?_
          refine VS_pure (df (P_neq rfl rfl) (by omega)) rfl rfl rfl ?_
          refine VS_pure (P_move rfl) rfl rfl rfl ?_
          refine VS_pure (P_move rfl) rfl rfl rfl ?_
          refine VS_pure (df (P_neq rfl rfl) (by omega)) rfl rfl rfl ?_
          refine VS_pure (P_pick_f rfl rfl) rfl rfl rfl ?_
          iterate 3 (refine VS_pure (P_move rfl) rfl rfl rfl ?_)
          refine VS_step (S_callR cl16 rfl (fun m' hm he => (SM m' hm)) rfl ?_) rfl
          rintro _ rfl
          refine VS_pure (P_not rfl) rfl rfl rfl ?_
          refine VS_pure (P_pick_f rfl rfl) rfl rfl rfl ?_
          refine VS_nil ?_
          refine QS_then ?_
          refine TS_false rfl ?_
          refine TS_skip ?_
          refine QS_then ?_
          refine TS_seq ?_
          refine TS_region ?_
          refine VS_pure (P_move rfl) rfl rfl rfl ?_
          refine VS_step ((S_call cl17 rfl (fun m' hm he => Read_ok (c := c) (hr.mono ((hle1.trans hle2).trans hm)) hb2) rfl ?_)) rfl
          rintro _ _ hT
          rcases hT with ⟨y, ay, wy, ey, hy, rfl, rfl, hwy⟩ | ⟨ky, hy, rfl, rfl⟩
          · obtain ⟨hye, hyev⟩ := read_enc hy
            refine VS_absorb .here (fun n9 hi9 _ hd9 => ?_)
            have hle9 : Le (uni (uni m n1) n2) (uni (uni (uni m n1) n2) n9) := uni_l _ n9
            have hmy : MsgR (uni (uni (uni m n1) n2) n9) wy y := (hwy n9 hi9).mono (uni_r hd9)
            have BY := fun m' (hm : Le (uni (uni (uni m n1) n2) n9) m') => Bytes_ok (hmy.mono hm) (by omega)
            rw [hye] at BY
            refine VS_pure (P_move rfl) rfl rfl rfl ?_
            iterate 3 (refine VS_pure (P_extract rfl rfl) rfl rfl rfl ?_)
            iterate 3 (refine VS_pure (P_assign rfl) rfl rfl rfl ?_)
            refine VS_nil ?_
            refine QS_then ?_
            refine TS_seq ?_
            refine TS_seq ?_
            refine TS_region ?_
            refine VS_pure (P_move rfl) rfl rfl rfl ?_
            refine VS_pure (df (P_neq rfl rfl) (by omega)) rfl rfl rfl ?_
            refine VS_nil ?_
            refine QS_then ?_
            refine TS_false rfl ?_
            refine TS_skip ?_
            refine QS_then ?_
            refine TS_seq ?_
            refine TS_region ?_
            refine VS_pure (P_move rfl) rfl rfl rfl ?_
            refine VS_step ((S_call cl12 rfl (fun m' hm he => (BY m' hm).mono fun v L' h => h.some) rfl ?_)) rfl
            rintro _ _ ⟨A9, c9, rfl, rfl⟩
            refine VS_pure (P_move rfl) rfl rfl rfl ?_
            refine VS_pure (P_extract rfl rfl) rfl rfl rfl ?_
            refine VS_pure (P_extract rfl rfl) rfl rfl rfl ?_
            refine VS_pure (P_assign rfl) rfl rfl rfl ?_
            refine VS_pure (P_assign rfl) rfl rfl rfl ?_
            refine VS_nil ?_
            refine QS_then ?_
            refine TS_seq ?_
            refine TS_region ?_
            refine VS_pure (P_move rfl) rfl rfl rfl ?_
            refine VS_pure (dt (P_eql rfl rfl) rfl) rfl rfl rfl ?_
            refine VS_pure (P_move rfl) rfl rfl rfl ?_
            refine VS_pure (P_move rfl) rfl rfl rfl ?_
            refine VS_read (fun h hs => R_bstr bt22 st9 rfl rfl (Own.rd (hs.get .here))) rfl rfl rfl ?_
            refine VS_pure (P_move rfl) rfl rfl rfl ?_
            refine VS_read (fun h hs => R_bstr bt22 st9 rfl rfl (hr.mono (((hle1.trans hle2).trans hle9).trans hs.base))) rfl rfl rfl ?_
            refine VS_pure (dt (P_seql rfl rfl) rfl) rfl rfl rfl ?_
            refine VS_pure (P_pick_t rfl rfl) rfl rfl rfl ?_
            refine VS_pure (P_move rfl) rfl rfl rfl ?_
            refine VS_step (S_callR cl8 rfl (fun m' hm he => (wakes_ok)) rfl ?_) rfl
            rintro _ rfl
            refine VS_pure (P_pick_t rfl rfl) rfl rfl rfl ?_
            refine VS_pure (P_assign rfl) rfl rfl rfl ?_
            refine VS_nil ?_
            refine QS_then ?_
            refine TS_ret ?_
            exact QS_retW ((hle1.trans hle2).trans hle9) [_] ⟨rfl, trivial⟩ [] (Pick.nil _) ⟨rfl, rfl⟩
          · refine VS_pure (P_move rfl) rfl rfl rfl ?_
            iterate 3 (refine VS_pure (P_extract rfl rfl) rfl rfl rfl ?_)
            iterate 3 (refine VS_pure (P_assign rfl) rfl rfl rfl ?_)
            refine VS_nil ?_
            refine QS_then ?_
            refine TS_seq ?_
            refine TS_seq ?_
            refine TS_region ?_
            refine VS_pure (P_move rfl) rfl rfl rfl ?_
            refine VS_pure (dt (P_neq rfl rfl) (by omega)) rfl rfl rfl ?_
            refine VS_nil ?_
            refine QS_then ?_
            refine TS_true rfl ?_
            refine TS_seq ?_
            refine TS_region ?_
            refine VS_step (S_callR cl8 rfl (fun m' hm he => (wakes_ok)) rfl ?_) rfl
            rintro _ rfl
            refine VS_pure (P_assign rfl) rfl rfl rfl ?_
            refine VS_nil ?_
            refine QS_then ?_
            refine TS_ret ?_
            refine QS_then_ret ?_
            exact QS_retW (hle1.trans hle2) [_] ⟨rfl, trivial⟩ [] (Pick.nil _) ⟨rfl, rfl⟩
        · rw [hpr] at hz
          cases hz
      · refine VS_pure (P_move rfl) rfl rfl rfl ?_
        refine VS_pure (P_extract rfl rfl) rfl rfl rfl ?_
        refine VS_pure (P_extract rfl rfl) rfl rfl rfl ?_
        refine VS_pure (P_assign rfl) rfl rfl rfl ?_
        refine VS_pure (P_assign rfl) rfl rfl rfl ?_
        refine VS_nil ?_
        refine QS_then ?_
        refine TS_seq ?_
        refine TS_region ?_
        refine VS_pure (P_move rfl) rfl rfl rfl ?_
        refine VS_pure (df (P_eql rfl rfl) (by omega)) rfl rfl rfl ?_
        refine VS_nil ?_
        refine QS_then ?_
        refine TS_false rfl ?_
        refine TS_seq ?_
        refine TS_region ?_
        refine VS_pure (P_move rfl) rfl rfl rfl ?_
        refine VS_pure (P_len il22 rfl) rfl rfl rfl ?_
        refine VS_pure (df (P_neq rfl rfl) (by omega)) rfl rfl rfl ?_
        refine VS_nil ?_
        refine QS_then ?_
        refine TS_false rfl ?_
        refine TS_skip ?_
        refine QS_then ?_
        refine TS_seq ?_
        refine TS_region ?_
        refine VS_pure (P_move rfl) rfl rfl rfl ?_
        refine VS_step ((S_call cl17 rfl (fun m' hm he => Read_ok (c := c) (hr.mono ((Le.refl m).trans hm)) hb2) rfl ?_)) rfl
        rintro _ _ hT
        rcases hT with ⟨y, ay, wy, ey, hy, rfl, rfl, hwy⟩ | ⟨ky, hy, rfl, rfl⟩
        · obtain ⟨hye, hyev⟩ := read_enc hy
          refine VS_absorb .here (fun n9 hi9 _ hd9 => ?_)
          have hle9 : Le (m) (uni (m) n9) := uni_l _ n9
          have hmy : MsgR (uni (m) n9) wy y := (hwy n9 hi9).mono (uni_r hd9)
          have BY := fun m' (hm : Le (uni (m) n9) m') => Bytes_ok (hmy.mono hm) (by omega)
          rw [hye] at BY
          refine VS_pure (P_move rfl) rfl rfl rfl ?_
          iterate 3 (refine VS_pure (P_extract rfl rfl) rfl rfl rfl ?_)
          iterate 3 (refine VS_pure (P_assign rfl) rfl rfl rfl ?_)
          refine VS_nil ?_
          refine QS_then ?_
          refine TS_seq ?_
          refine TS_seq ?_
          refine TS_region ?_
          refine VS_pure (P_move rfl) rfl rfl rfl ?_
          refine VS_pure (df (P_neq rfl rfl) (by omega)) rfl rfl rfl ?_
          refine VS_nil ?_
          refine QS_then ?_
          refine TS_false rfl ?_
          refine TS_skip ?_
          refine QS_then ?_
          refine TS_seq ?_
          refine TS_region ?_
          refine VS_pure (P_move rfl) rfl rfl rfl ?_
          refine VS_step ((S_call cl12 rfl (fun m' hm he => (BY m' hm).mono fun v L' h => h.some) rfl ?_)) rfl
          rintro _ _ ⟨A9, c9, rfl, rfl⟩
          refine VS_pure (P_move rfl) rfl rfl rfl ?_
          refine VS_pure (P_extract rfl rfl) rfl rfl rfl ?_
          refine VS_pure (P_extract rfl rfl) rfl rfl rfl ?_
          refine VS_pure (P_assign rfl) rfl rfl rfl ?_
          refine VS_pure (P_assign rfl) rfl rfl rfl ?_
          refine VS_nil ?_
          refine QS_then ?_
          refine TS_seq ?_
          refine TS_region ?_
          refine VS_pure (P_move rfl) rfl rfl rfl ?_
          refine VS_pure (dt (P_eql rfl rfl) rfl) rfl rfl rfl ?_
          refine VS_pure (P_move rfl) rfl rfl rfl ?_
          refine VS_pure (P_move rfl) rfl rfl rfl ?_
          refine VS_read (fun h hs => R_bstr bt22 st9 rfl rfl (Own.rd (hs.get .here))) rfl rfl rfl ?_
          refine VS_pure (P_move rfl) rfl rfl rfl ?_
          refine VS_read (fun h hs => R_bstr bt22 st9 rfl rfl (hr.mono (((Le.refl m).trans hle9).trans hs.base))) rfl rfl rfl ?_
          refine VS_pure (dt (P_seql rfl rfl) rfl) rfl rfl rfl ?_
          refine VS_pure (P_pick_t rfl rfl) rfl rfl rfl ?_
          refine VS_pure (P_move rfl) rfl rfl rfl ?_
          refine VS_step (S_callR cl8 rfl (fun m' hm he => (wakes_ok)) rfl ?_) rfl
          rintro _ rfl
          refine VS_pure (P_pick_t rfl rfl) rfl rfl rfl ?_
          refine VS_pure (P_assign rfl) rfl rfl rfl ?_
          refine VS_nil ?_
          refine QS_then ?_
          refine TS_ret ?_
          exact QS_retW ((Le.refl m).trans hle9) [_] ⟨rfl, trivial⟩ [] (Pick.nil _) ⟨rfl, rfl⟩
        · refine VS_pure (P_move rfl) rfl rfl rfl ?_
          iterate 3 (refine VS_pure (P_extract rfl rfl) rfl rfl rfl ?_)
          iterate 3 (refine VS_pure (P_assign rfl) rfl rfl rfl ?_)
          refine VS_nil ?_
          refine QS_then ?_
          refine TS_seq ?_
          refine TS_seq ?_
          refine TS_region ?_
          refine VS_pure (P_move rfl) rfl rfl rfl ?_
          refine VS_pure (dt (P_neq rfl rfl) (by omega)) rfl rfl rfl ?_
          refine VS_nil ?_
          refine QS_then ?_
          refine TS_true rfl ?_
          refine TS_seq ?_
          refine TS_region ?_
          refine VS_step (S_callR cl8 rfl (fun m' hm he => (wakes_ok)) rfl ?_) rfl
          rintro _ rfl
          refine VS_pure (P_assign rfl) rfl rfl rfl ?_
          refine VS_nil ?_
          refine QS_then ?_
          refine TS_ret ?_
          refine QS_then_ret ?_
          exact QS_retW (Le.refl m) [_] ⟨rfl, trivial⟩ [] (Pick.nil _) ⟨rfl, rfl⟩
    · refine VS_pure (P_move rfl) rfl rfl rfl ?_
      refine VS_pure (P_extract rfl rfl) rfl rfl rfl ?_
      refine VS_pure (P_extract rfl rfl) rfl rfl rfl ?_
      refine VS_pure (P_assign rfl) rfl rfl rfl ?_
      refine VS_pure (P_assign rfl) rfl rfl rfl ?_
      refine VS_nil ?_
      refine QS_then ?_
      refine TS_seq ?_
      refine TS_seq ?_
      refine TS_region ?_
      refine VS_pure (P_move rfl) rfl rfl rfl ?_
      refine VS_pure (df (P_eql rfl rfl) (by omega)) rfl rfl rfl ?_
      refine VS_nil ?_
      refine QS_then ?_
      refine TS_false rfl ?_
      refine TS_skip ?_
      refine QS_then ?_
      refine TS_seq ?_
      refine TS_region ?_
      refine VS_pure (P_move rfl) rfl rfl rfl ?_
      refine VS_step ((S_call cl17 rfl (fun m' hm he => Read_ok (c := c) (hr.mono ((Le.refl m).trans hm)) hb2) rfl ?_)) rfl
      rintro _ _ hT
      rcases hT with ⟨y, ay, wy, ey, hy, rfl, rfl, hwy⟩ | ⟨ky, hy, rfl, rfl⟩
      · obtain ⟨hye, hyev⟩ := read_enc hy
        refine VS_absorb .here (fun n9 hi9 _ hd9 => ?_)
        have hle9 : Le (m) (uni (m) n9) := uni_l _ n9
        have hmy : MsgR (uni (m) n9) wy y := (hwy n9 hi9).mono (uni_r hd9)
        have BY := fun m' (hm : Le (uni (m) n9) m') => Bytes_ok (hmy.mono hm) (by omega)
        rw [hye] at BY
        refine VS_pure (P_move rfl) rfl rfl rfl ?_
        iterate 3 (refine VS_pure (P_extract rfl rfl) rfl rfl rfl ?_)
        iterate 3 (refine VS_pure (P_assign rfl) rfl rfl rfl ?_)
        refine VS_nil ?_
        refine QS_then ?_
        refine TS_seq ?_
        refine TS_seq ?_
        refine TS_region ?_
        refine VS_pure (P_move rfl) rfl rfl rfl ?_
        refine VS_pure (df (P_neq rfl rfl) (by omega)) rfl rfl rfl ?_
        refine VS_nil ?_
        refine QS_then ?_
        refine TS_false rfl ?_
        refine TS_skip ?_
        refine QS_then ?_
        refine TS_seq ?_
        refine TS_region ?_
        refine VS_pure (P_move rfl) rfl rfl rfl ?_
        refine VS_step ((S_call cl12 rfl (fun m' hm he => (BY m' hm).mono fun v L' h => h.some) rfl ?_)) rfl
        rintro _ _ ⟨A9, c9, rfl, rfl⟩
        refine VS_pure (P_move rfl) rfl rfl rfl ?_
        refine VS_pure (P_extract rfl rfl) rfl rfl rfl ?_
        refine VS_pure (P_extract rfl rfl) rfl rfl rfl ?_
        refine VS_pure (P_assign rfl) rfl rfl rfl ?_
        refine VS_pure (P_assign rfl) rfl rfl rfl ?_
        refine VS_nil ?_
        refine QS_then ?_
        refine TS_seq ?_
        refine TS_region ?_
        refine VS_pure (P_move rfl) rfl rfl rfl ?_
        refine VS_pure (dt (P_eql rfl rfl) rfl) rfl rfl rfl ?_
        refine VS_pure (P_move rfl) rfl rfl rfl ?_
        refine VS_pure (P_move rfl) rfl rfl rfl ?_
        refine VS_read (fun h hs => R_bstr bt22 st9 rfl rfl (Own.rd (hs.get .here))) rfl rfl rfl ?_
        refine VS_pure (P_move rfl) rfl rfl rfl ?_
        refine VS_read (fun h hs => R_bstr bt22 st9 rfl rfl (hr.mono (((Le.refl m).trans hle9).trans hs.base))) rfl rfl rfl ?_
        refine VS_pure (dt (P_seql rfl rfl) rfl) rfl rfl rfl ?_
        refine VS_pure (P_pick_t rfl rfl) rfl rfl rfl ?_
        refine VS_pure (P_move rfl) rfl rfl rfl ?_
        refine VS_step (S_callR cl8 rfl (fun m' hm he => (wakes_ok)) rfl ?_) rfl
        rintro _ rfl
        refine VS_pure (P_pick_t rfl rfl) rfl rfl rfl ?_
        refine VS_pure (P_assign rfl) rfl rfl rfl ?_
        refine VS_nil ?_
        refine QS_then ?_
        refine TS_ret ?_
        exact QS_retW ((Le.refl m).trans hle9) [_] ⟨rfl, trivial⟩ [] (Pick.nil _) ⟨rfl, rfl⟩
      · refine VS_pure (P_move rfl) rfl rfl rfl ?_
        iterate 3 (refine VS_pure (P_extract rfl rfl) rfl rfl rfl ?_)
        iterate 3 (refine VS_pure (P_assign rfl) rfl rfl rfl ?_)
        refine VS_nil ?_
        refine QS_then ?_
        refine TS_seq ?_
        refine TS_seq ?_
        refine TS_region ?_
        refine VS_pure (P_move rfl) rfl rfl rfl ?_
        refine VS_pure (dt (P_neq rfl rfl) (by omega)) rfl rfl rfl ?_
        refine VS_nil ?_
        refine QS_then ?_
        refine TS_true rfl ?_
        refine TS_seq ?_
        refine TS_region ?_
        refine VS_step (S_callR cl8 rfl (fun m' hm he => (wakes_ok)) rfl ?_) rfl
        rintro _ rfl
        refine VS_pure (P_assign rfl) rfl rfl rfl ?_
        refine VS_nil ?_
        refine QS_then ?_
        refine TS_ret ?_
        refine QS_then_ret ?_
        exact QS_retW (Le.refl m) [_] ⟨rfl, trivial⟩ [] (Pick.nil _) ⟨rfl, rfl⟩
end Go.Proofs.Ytbpihgphicmdiaa
