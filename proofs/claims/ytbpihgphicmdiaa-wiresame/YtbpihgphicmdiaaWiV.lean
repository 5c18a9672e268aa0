/- A part of the proof: contracts of functions of the program. No condition. -/
import Derived.Test.YtbpihgphicmdiaaWiU
namespace Go.Proofs.Ytbpihgphicmdiaa
open Go.Eng Wi
set_option maxRecDepth 100000
section
variable {P : Program} {n : Nat} {env : Env} {m : Mp} {L : List Ent} {Q : Post}
/-- the walk cut at what is written so far -/
def roundO (m : Mp) (S : Option Addr → Nat → List UInt8 → Bool → Env) (F : List UInt8 → Bool → Prop) (Q : Post) : Post := roundS m (fun y : Option Addr × Nat × List UInt8 × Bool => S y.1 y.2.1 y.2.2.1 y.2.2.2) (fun y => outE y.1 y.2.1 y.2.2.1) (fun y => F y.2.2.1 y.2.2.2) (fun _ => 0) 1 Q
theorem TS_cutO {a c b : Code} (S : Option Addr → Nat → List UInt8 → Bool → Env) (F : List UInt8 → Bool → Prop) (h1 : TS P n a env m L (thenQ P n c (roundO m S F Q))) (h2 : ∀ A k o ok, F o ok → TS P n b (S A k o ok) m (outE A k o) Q) : TS P n a env m L (thenQ P n c (thenQ P n b Q)) :=
  TS_cut3 (fun y : Option Addr × Nat × List UInt8 × Bool => S y.1 y.2.1 y.2.2.1 y.2.2.2) (fun y => outE y.1 y.2.1 y.2.2.1) (fun y => F y.2.2.1 y.2.2.2) h1 fun y hF => h2 _ _ _ _ hF
theorem QS_roundO {S : Option Addr → Nat → List UInt8 → Bool → Env} {F : List UInt8 → Bool → Prop} (A : Option Addr) (k : Nat) (o : List UInt8) (ok : Bool) (hs : Sub (S A k o ok) env) (hp : Pick L (outE A k o)) (hF : F o ok) : QS (roundO m S F Q) .normal env m L := QS_round (A, k, o, ok) hs hp hF (by decide)
theorem TS_celOwn {c : Code} {b e sz k : Nat} {cs : List Value} {L' : List Ent} (hT : Sel L (cel b cs e) (own e sz (some ⟨b, 0, none⟩) k k cs) L') (hl : cs.length = k * sz) (hm : k ≤ maxLen) (ht : TS P n c env m L' Q) : TS P n c env m L Q :=
  fun h hs => ht h (hs.sel hT fun _ h2 => h2.celOwn hl hm)
end
theorem flat_text {xs : List (List UInt8)} {e : List UInt8} (h : encL eText xs = some e) : e.length ≤ xs.length * 65537 := encL_len (fun _ _ _ h => eText_len h) h
def FO (x : Ltr) (o : List UInt8) (ok : Bool) : Prop := (ok = true → eAll x = some o) ∧ (ok = false → eAll x = none)
set_option maxHeartbeats 8000000 in
theorem rBytes_ok {m : Mp} {lx : List Value} {x : Ltr} (hx : LtA m lx x) (hk : known x.kind = true) (hcl : x.cards.length ≤ 65535) (hev : ∀ e ∈ x.evs, e.cards.length ≤ 140737488355328) : CS Try.prog 13 [.agg lx.toArray] m [] (BytesPost (encX x)) := by
  obtain ⟨vb, vc, vi, vp, ve, rfl, xb, xc, xi, xp, xe, xr⟩ := hx
  have xb2 := xb
  have xc2 := xc
  have xi2 := xi
  have xp2 := xp
  have xe2 := xe
  obtain ⟨ab, db, rfl, hAb, lb, _⟩ := xb2
  obtain ⟨ac, dc, rfl, hAc, lc, _⟩ := xc2
  obtain ⟨ai, di, rfl, _, li, _⟩ := xi2
  obtain ⟨ap, dp, rfl, _, lp, _⟩ := xp2
  obtain ⟨ae, de, rfl, _, le, _⟩ := xe2
  obtain ⟨ru, rt, rtx, rcs, ⟨rop, _, _, _⟩, rto, re⟩ := xr
  have hku : (Value.int .u8 x.kind) = byteV (ub x.kind) := by unfold byteV; rw [← ub_u8 ru]
  refine CS_of [.tmp 2, .tmp 3] Try.func13 rfl rfl rfl ?_
  skip
  refine TS_seq ?_
  refine TS_region ?_
  refine VS_step (S_box rfl rfl (fun b1 => ?_)) rfl
  refine VS_pure (P_assign rfl) rfl rfl rfl ?_
  refine VS_pure (P_assign rfl) rfl rfl rfl ?_
  refine VS_nil ?_
  refine QS_then ?_
  refine TS_seq ?_
  refine TS_absorb .here (fun ns hi1 _ hd1 => ?_)
  have e0 := mc_abs (k := 0) hi1 hd1 rfl
  have e1 := mc_abs (k := 1) hi1 hd1 rfl
  have e2 := mc_abs (k := 2) hi1 hd1 rfl
  have e3 := mc_abs (k := 3) hi1 hd1 rfl
  have e4 := mc_abs (k := 4) hi1 hd1 rfl
  have e5 := mc_abs (k := 5) hi1 hd1 rfl
  have e6 := mc_abs (k := 6) hi1 hd1 rfl
  have e7 := mc_abs (k := 7) hi1 hd1 rfl
  have e8 := mc_abs (k := 8) hi1 hd1 rfl
  have e9 := mc_abs (k := 9) hi1 hd1 rfl
  have e10 := mc_abs (k := 10) hi1 hd1 rfl
  have e11 := mc_abs (k := 11) hi1 hd1 rfl
  have e12 := mc_abs (k := 12) hi1 hd1 rfl
  have e13 := mc_abs (k := 13) hi1 hd1 rfl
  have hle : Le m (uni m ns) := uni_l m ns
  have hbr : Rd (uni m ns) ab (x.bytes.map byteV) := by
    obtain ⟨a, c, e, r, _⟩ := (xb.mono hle).sl
    cases e
    exact r
  have hcr : Rd (uni m ns) ac (x.cards.map sV) := by
    obtain ⟨a, c, e, r, _⟩ := (xc.mono hle).sl
    cases e
    exact r
  have hact : ActR (uni m ns) [.int .i8 x.act.op, iV x.act.side, iV x.act.place, iV x.act.target, .slice ai x.act.ids.length di, .slice ap x.act.pairs.length dp] x.act := ⟨_, _, rfl, (xi.mono hle).sl, (xp.mono hle).sl⟩
  have hatA : At (uni m ns) ⟨b1, 5, none⟩ [.int .i8 x.act.op, iV x.act.side, iV x.act.place, iV x.act.target, .slice ai x.act.ids.length di, .slice ap x.act.pairs.length dp] := by
    intro i u hu
    rcases i with _ | _ | _ | _ | _ | _ | i <;> simp at hu <;> subst hu <;> rw [Addr.add_lit] <;> assumption
  refine TS_region ?_
  refine VS_pure (P_fieldAddr0 fo32_0 rfl) rfl rfl rfl ?_
  refine VS_read (S_load sg5 rfl e0) rfl rfl rfl ?_
  refine VS_step (S_buildSlice sl22 rfl rfl rfl rfl (fun b2 => ?_)) rfl
  refine VS_pure (P_assign rfl) rfl rfl rfl ?_
  refine VS_nil ?_
  refine QS_then ?_
  refine TS_seq ?_
  refine TS_celOwn (k := 1) (sz := 1) .here rfl (by simp only [maxLen]; omega) ?_
  refine TS_pick (outE (some ⟨b2, 0, none⟩) 1 [ub x.kind]) (by show Pick [own 5 1 _ 1 1 [.int .u8 x.kind]] _; rw [hku]; exact Pick.refl _) ?_
  refine TS_region ?_
  refine VS_pure (P_assign rfl) rfl rfl rfl ?_
  refine VS_nil ?_
  refine QS_then ?_
  refine TS_seq ?_
  refine TS_seq ?_
  refine TS_cutO (fun A k o ok => [(4, .slice A o.length k), (5, .bool ok)]) (FO x) ?_ ?_
  · unfold outE
    rcases known_or hk with h | h | h | h | h | h | h | h | h | h | h | h
    · refine TS_region ?_
      refine VS_pure (P_fieldAddr0 fo32_0 rfl) rfl rfl rfl ?_
      refine VS_read (S_load sg5 rfl e0) rfl rfl rfl ?_
      refine VS_nil ?_
      refine QS_then ?_
      refine TS_block ?_
      refine TS_seq ?_
      refine TS_region ?_
      refine VS_pure (dt (P_eql rfl rfl) (by assumption)) rfl rfl rfl ?_
      refine VS_pure (P_assign rfl) rfl rfl rfl ?_
      refine VS_nil ?_
      refine QS_then ?_
      refine TS_true rfl ?_
      refine TS_region ?_
      refine VS_pure (P_move rfl) rfl rfl rfl ?_
      refine VS_pure (P_fieldAddr0 fo32_3 rfl) rfl rfl rfl ?_
      refine VS_read (S_load sg22 rfl e3) rfl rfl rfl ?_
      refine VS_read (S_bstr bt22 st9 rfl (by first | rfl | omega) hbr) rfl rfl rfl ?_
      have HG : ∀ m', Le (uni m ns) m' → _ := fun m' hm => rtext_ok (m := m') lb (some ⟨b2, 0, none⟩) 1 ([ub x.kind]) (by simp [be8_len])
      unfold outE at HG
      cases hen : eText x.bytes with
      | none =>
        rw [hen] at HG
        refine VS_step ((S_callL cl26 rfl (.cons .here .nil) (fun m' hm he => HG m' hm) rfl ?_)) rfl
        rintro _ _ ⟨A9, c9, o9, rfl, rfl, _⟩
        refine VS_pure (P_move rfl) rfl rfl rfl ?_
        refine VS_pure (P_extract rfl rfl) rfl rfl rfl ?_
        refine VS_pure (P_extract rfl rfl) rfl rfl rfl ?_
        refine VS_pure (P_assign rfl) rfl rfl rfl ?_
        refine VS_pure (P_assign rfl) rfl rfl rfl ?_
        refine VS_nil ?_
        refine QS_block ?_
        exact QS_roundO A9 c9 o9 false ⟨rfl, rfl, trivial⟩ (Pick.refl _) ⟨(fun h => by cases h), fun _ => (by rw [eAll, eBody, if_pos h, hen]; rfl)⟩
      | some ee =>
        rw [hen] at HG
        refine VS_step ((S_callL cl26 rfl (.cons .here .nil) (fun m' hm he => HG m' hm) rfl ?_)) rfl
        rintro _ _ ⟨A9, c9, o9, rfl, rfl, ho9⟩
        obtain rfl := ho9 _ rfl
        refine VS_pure (P_move rfl) rfl rfl rfl ?_
        refine VS_pure (P_extract rfl rfl) rfl rfl rfl ?_
        refine VS_pure (P_extract rfl rfl) rfl rfl rfl ?_
        refine VS_pure (P_assign rfl) rfl rfl rfl ?_
        refine VS_pure (P_assign rfl) rfl rfl rfl ?_
        refine VS_nil ?_
        refine QS_block ?_
        exact QS_roundO A9 c9 _ true ⟨rfl, rfl, trivial⟩ (Pick.refl _) ⟨(fun _ => (by rw [eAll, eBody, if_pos h, hen]; rfl)), fun h => by cases h⟩
    · refine TS_region ?_
      refine VS_pure (P_fieldAddr0 fo32_0 rfl) rfl rfl rfl ?_
      refine VS_read (S_load sg5 rfl e0) rfl rfl rfl ?_
      refine VS_nil ?_
      refine QS_then ?_
      refine TS_block ?_
      refine TS_seq ?_
      refine TS_region ?_
      refine VS_pure (df (P_eql rfl rfl) (by omega)) rfl rfl rfl ?_
      refine VS_pure (P_assign rfl) rfl rfl rfl ?_
      refine VS_nil ?_
      refine QS_then ?_
      refine TS_false rfl ?_
      refine TS_seq ?_
      refine TS_region ?_
      refine VS_pure (dt (P_eql rfl rfl) (by assumption)) rfl rfl rfl ?_
      refine VS_pure (P_assign rfl) rfl rfl rfl ?_
      refine VS_nil ?_
      refine QS_then ?_
      refine TS_true rfl ?_
      refine TS_drawB (.step 0 true (.step 1 true (.step 2 true (.step 4 true (.step 5 true (.step 3 false (.step 6 false (.step 7 true (.step 8 true (.step 9 true (.step 10 true (.step 11 true (.done))))))))))))) mixed (by kernel_rfl) (fun _ _ _ _ hq => hq) ?_
      refine VBS_pure rfl (P_move rfl) rfl rfl rfl ?_
      refine VBS_pure rfl (P_fieldAddr0 fo32_1 rfl) rfl rfl rfl ?_
      refine VBS_read rfl (S_load sg3 rfl e1) rfl rfl rfl ?_
      refine VBS_pure rfl (P_fieldAddr0 fo32_2 rfl) rfl rfl rfl ?_
      refine VBS_read rfl (S_load sg9 rfl e2) rfl rfl rfl ?_
      have HA1 : ∀ m', _ := fun m' => rnum_ok (m := m') (A := (some ⟨b2, 0, none⟩)) (c := 1) (n := x.table) (out := [ub x.kind]) (by simp [be8_len])
      unfold outE at HA1
      refine VBS_step rfl ((S_callL cl27 rfl (.cons .here .nil) (fun m' hm he => HA1 m') rfl ?_)) rfl
      rintro _ _ ⟨A1, c1, rfl, rfl⟩
      skip
      have HG : ∀ m', Le (uni m ns) m' → _ := fun m' hm => rtext_ok (m := m') rtx A1 c1 ([ub x.kind] ++ be8 x.table) (by simp [be8_len])
      unfold outE at HG
      cases hen : eText x.text with
      | none =>
        rw [hen] at HG
        refine VBS_step rfl ((S_callL cl26 rfl (.cons .here .nil) (fun m' hm he => HG m' hm) rfl ?_)) rfl
        rintro _ _ ⟨A9, c9, o9, rfl, rfl, _⟩
        refine VBS_pure rfl (P_move rfl) rfl rfl rfl ?_
        refine VBS_pure rfl (P_extract rfl rfl) rfl rfl rfl ?_
        refine VBS_pure rfl (P_extract rfl rfl) rfl rfl rfl ?_
        refine VBS_pure rfl (P_assign rfl) rfl rfl rfl ?_
        refine VBS_pure rfl (P_assign rfl) rfl rfl rfl ?_
        refine VBS_nil ?_
        refine QS_block ?_
        exact QS_roundO A9 c9 o9 false ⟨rfl, rfl, trivial⟩ (Pick.refl _) ⟨(fun h => by cases h), fun _ => (by rw [eAll, eBody, if_neg (by omega), if_neg (by omega), if_neg (by omega), if_pos h, hen]; rfl)⟩
      | some ee =>
        rw [hen] at HG
        refine VBS_step rfl ((S_callL cl26 rfl (.cons .here .nil) (fun m' hm he => HG m' hm) rfl ?_)) rfl
        rintro _ _ ⟨A9, c9, o9, rfl, rfl, ho9⟩
        obtain rfl := ho9 _ rfl
        refine VBS_pure rfl (P_move rfl) rfl rfl rfl ?_
        refine VBS_pure rfl (P_extract rfl rfl) rfl rfl rfl ?_
        refine VBS_pure rfl (P_extract rfl rfl) rfl rfl rfl ?_
        refine VBS_pure rfl (P_assign rfl) rfl rfl rfl ?_
        refine VBS_pure rfl (P_assign rfl) rfl rfl rfl ?_
        refine VBS_nil ?_
        refine QS_block ?_
        exact QS_roundO A9 c9 _ true ⟨rfl, rfl, trivial⟩ (Pick.refl _) ⟨(fun _ => (by rw [eAll, eBody, if_neg (by omega), if_neg (by omega), if_neg (by omega), if_pos h, hen]; simp)), fun h => by cases h⟩
    · refine TS_region ?_
      refine VS_pure (P_fieldAddr0 fo32_0 rfl) rfl rfl rfl ?_
      refine VS_read (S_load sg5 rfl e0) rfl rfl rfl ?_
      refine VS_nil ?_
      refine QS_then ?_
      refine TS_block ?_
      refine TS_seq ?_
      refine TS_region ?_
      refine VS_pure (df (P_eql rfl rfl) (by omega)) rfl rfl rfl ?_
      refine VS_pure (P_assign rfl) rfl rfl rfl ?_
      refine VS_nil ?_
      refine QS_then ?_
      refine TS_false rfl ?_
      refine TS_seq ?_
      refine TS_region ?_
      refine VS_pure (df (P_eql rfl rfl) (by omega)) rfl rfl rfl ?_
      refine VS_pure (P_assign rfl) rfl rfl rfl ?_
      refine VS_nil ?_
      refine QS_then ?_
      refine TS_false rfl ?_
      refine TS_seq ?_
      refine TS_region ?_
      refine VS_pure (dt (P_eql rfl rfl) (by assumption)) rfl rfl rfl ?_
      refine VS_pure (P_assign rfl) rfl rfl rfl ?_
      refine VS_nil ?_
      refine QS_then ?_
      refine TS_true rfl ?_
      refine TS_seq ?_
      refine TS_drawB (.step 0 true (.step 1 true (.step 2 true (.step 4 true (.step 5 true (.step 6 true (.step 3 false (.step 7 false (.step 8 true (.step 9 true (.step 10 true (.step 11 true (.step 12 true (.done)))))))))))))) mixed (by kernel_rfl) (fun _ _ _ _ hq => hq) ?_
      refine VBS_pure rfl (P_move rfl) rfl rfl rfl ?_
      refine VBS_pure rfl (P_fieldAddr0 fo32_1 rfl) rfl rfl rfl ?_
      refine VBS_read rfl (S_load sg3 rfl e1) rfl rfl rfl ?_
      refine VBS_pure rfl (P_fieldAddr0 fo32_4 rfl) rfl rfl rfl ?_
      refine VBS_read rfl (S_load sg23 rfl e4) rfl rfl rfl ?_
      refine VBS_pure rfl (P_len il23 rfl) rfl rfl rfl ?_
      have HA1 : ∀ m', _ := fun m' => rnum_ok (m := m') (A := (some ⟨b2, 0, none⟩)) (c := 1) (n := x.table) (out := [ub x.kind]) (by simp [be8_len])
      unfold outE at HA1
      refine VBS_step rfl ((S_callL cl27 rfl (.cons .here .nil) (fun m' hm he => HA1 m') rfl ?_)) rfl
      rintro _ _ ⟨A1, c1, rfl, rfl⟩
      skip
      have H2 : ∀ m', _ := fun m' => rtwo_ok (m := m') (n := x.cards.length) A1 c1 ([ub x.kind] ++ be8 x.table) (by simp [be8_len])
      rw [show eSz x.cards.length = some (sz2 x.cards.length) from if_pos hcl] at H2
      unfold outE at H2
      refine VBS_step rfl ((S_callL cl28 rfl (.cons .here .nil) (fun m' hm he => H2 m') rfl ?_)) rfl
      rintro _ _ ⟨A2, c2, o2, rfl, rfl, ho2⟩
      obtain rfl := ho2 _ rfl
      refine VBS_pure rfl (P_move rfl) rfl rfl rfl ?_
      refine VBS_pure rfl (P_extract rfl rfl) rfl rfl rfl ?_
      refine VBS_pure rfl (P_extract rfl rfl) rfl rfl rfl ?_
      refine VBS_pure rfl (P_assign rfl) rfl rfl rfl ?_
      refine VBS_pure rfl (P_assign rfl) rfl rfl rfl ?_
      refine VBS_nil ?_
      refine QS_then ?_
      refine TS_seq ?_
      refine TS_region ?_
      refine VS_pure (P_assign rfl) rfl rfl rfl ?_
      refine VS_nil ?_
      refine QS_then ?_
      refine TS_block ?_
      generalize ho0 : [ub x.kind] ++ be8 x.table ++ sz2 x.cards.length = o0
      have hl0 : o0.length = 11 := by rw [← ho0]; simp [be8_len, sz2_len]
      refine TS_loop4 (β := Option (List UInt8)) (fun j A c b => [(1, .pointer (some ⟨b1, 0, none⟩)), (4, .slice A (b.getD (o0 ++ (encL eText (x.cards.take j)).getD [])).length c), (5, .bool b.isNone), (6, .int .i64 (j : Nat))]) (fun j A c b => outE A c (b.getD (o0 ++ (encL eText (x.cards.take j)).getD []))) (fun j b => j ≤ x.cards.length ∧ (b.isSome = true → encMany eText x.cards = none) ∧ (b = none → (encL eText (x.cards.take j)).isSome = true)) (fun j => x.cards.length - j) 0 A2 c2 none ⟨rfl, by simp only [List.take_zero, encL, Option.getD_some, Option.getD_none, List.append_nil]; rfl, rfl, rfl, trivial⟩ (by simp only [List.take_zero, encL, Option.getD_some, Option.getD_none, List.append_nil]; exact Pick.refl _) ⟨Nat.zero_le _, (fun h => by cases h), fun _ => rfl⟩ ?_
      rintro j A3 c3 (_ | bad) ⟨hj, hbad, hok⟩
      · obtain ⟨ej, hej⟩ := Option.isSome_iff_exists.1 (hok rfl)
        rw [hej]
        unfold outE
        simp only [Option.getD_some, Option.getD_none, Option.isNone_none]
        have hlj : ej.length ≤ 65535 * 65537 := by
          have h1 := flat_text hej
          rw [List.length_take] at h1
          exact Nat.le_trans h1 (Nat.mul_le_mul_right 65537 (show min j x.cards.length ≤ 65535 by omega))
        by_cases hlt : j < x.cards.length
        · have hx : mc (uni m ns) ((sa ac).add j) = some (sV x.cards[j]) := hcr.map hlt
          have hA := hAc (by omega)
          refine TS_seq ?_
          refine TS_seq ?_
          refine TS_region ?_
          refine VS_pure (P_move rfl) rfl rfl rfl ?_
          refine VS_pure (P_fieldAddr0 fo32_4 rfl) rfl rfl rfl ?_
          refine VS_read (S_load sg23 rfl e4) rfl rfl rfl ?_
          refine VS_pure (P_len il23 rfl) rfl rfl rfl ?_
          refine VS_pure (dt (P_lss rfl rfl) (by omega)) rfl rfl rfl ?_
          refine VS_pure (P_move rfl) rfl rfl rfl ?_
          refine VS_pure (P_move rfl) rfl rfl rfl ?_
          refine VS_pure (P_pick_t rfl rfl) rfl rfl rfl ?_
          refine VS_nil ?_
          refine QS_then ?_
          refine TS_true rfl ?_
          refine TS_skip ?_
          refine QS_then ?_
          refine TS_seq ?_
          refine TS_block ?_
          refine TS_region ?_
          refine VS_pure (P_move rfl) rfl rfl rfl ?_
          refine VS_pure (P_fieldAddr0 fo32_4 rfl) rfl rfl rfl ?_
          refine VS_read (S_load sg23 rfl e4) rfl rfl rfl ?_
          refine VS_pure (P_move rfl) rfl rfl rfl ?_
          refine VS_pure (P_indexAddr1N ez23 rfl rfl hA (by omega)) rfl rfl rfl ?_
          refine VS_read (S_load sg9 rfl hx) rfl rfl rfl ?_
          have H3 : ∀ m', _ := fun m' => rtext_ok (m := m') (rcs _ (List.getElem_mem hlt)) A3 c3 (o0 ++ ej) (by rw [List.length_append]; omega)
          unfold outE at H3
          cases hen : eText x.cards[j] with
          | none =>
            rw [hen] at H3
            refine VS_step ((S_callL cl26 rfl (.cons .here .nil) (fun m' hm he => H3 m') rfl ?_)) rfl
            rintro _ _ ⟨A9, c9, o9, rfl, rfl, _⟩
            refine VS_pure (P_move rfl) rfl rfl rfl ?_
            refine VS_pure (P_extract rfl rfl) rfl rfl rfl ?_
            refine VS_pure (P_extract rfl rfl) rfl rfl rfl ?_
            refine VS_pure (P_assign rfl) rfl rfl rfl ?_
            refine VS_pure (P_assign rfl) rfl rfl rfl ?_
            refine VS_nil ?_
            refine QS_block ?_
            refine QS_then ?_
            refine TS_region ?_
            refine VS_pure (P_move rfl) rfl rfl rfl ?_
            refine VS_pure (P_add rfl rfl (w64 (by omega) (by omega))) rfl rfl rfl ?_
            refine VS_pure (P_assign rfl) rfl rfl rfl ?_
            refine VS_nil ?_
            exact QS_round4 (Le.refl _) (j + 1) A9 c9 (some o9) ⟨rfl, rfl, rfl, rfl, trivial⟩ (.cons .here (.nil _)) ⟨hlt, (fun _ => by rw [encMany, if_pos hcl, encL_none hlt hen]; rfl), fun h => by cases h⟩ (by omega)
          | some ee =>
            rw [hen] at H3
            refine VS_step ((S_callL cl26 rfl (.cons .here .nil) (fun m' hm he => H3 m') rfl ?_)) rfl
            rintro _ _ ⟨A9, c9, o9, rfl, rfl, ho9⟩
            obtain rfl := ho9 _ rfl
            have hev := encL_take hlt hej hen
            refine VS_pure (P_move rfl) rfl rfl rfl ?_
            refine VS_pure (P_extract rfl rfl) rfl rfl rfl ?_
            refine VS_pure (P_extract rfl rfl) rfl rfl rfl ?_
            refine VS_pure (P_assign rfl) rfl rfl rfl ?_
            refine VS_pure (P_assign rfl) rfl rfl rfl ?_
            refine VS_nil ?_
            refine QS_block ?_
            refine QS_then ?_
            refine TS_region ?_
            refine VS_pure (P_move rfl) rfl rfl rfl ?_
            refine VS_pure (P_add rfl rfl (w64 (by omega) (by omega))) rfl rfl rfl ?_
            refine VS_pure (P_assign rfl) rfl rfl rfl ?_
            refine VS_nil ?_
            have heq : o0 ++ (encL eText (x.cards.take (j + 1))).getD [] = o0 ++ ej ++ ee := by rw [hev, Option.getD_some, List.append_assoc]
            exact QS_round4 (Le.refl _) (j + 1) A9 c9 none ⟨rfl, by rw [heq]; rfl, rfl, rfl, trivial⟩ (by rw [heq]; exact .cons .here (.nil _)) ⟨hlt, (fun h => by cases h), fun _ => by rw [hev]; rfl⟩ (by omega)
        · have e : j = x.cards.length := by omega
          subst e
          rw [List.take_length] at hej
          refine TS_seq ?_
          refine TS_seq ?_
          refine TS_region ?_
          refine VS_pure (P_move rfl) rfl rfl rfl ?_
          refine VS_pure (P_fieldAddr0 fo32_4 rfl) rfl rfl rfl ?_
          refine VS_read (S_load sg23 rfl e4) rfl rfl rfl ?_
          refine VS_pure (P_len il23 rfl) rfl rfl rfl ?_
          refine VS_pure (df (P_lss rfl rfl) (by omega)) rfl rfl rfl ?_
          refine VS_pure (P_move rfl) rfl rfl rfl ?_
          refine VS_skip rfl rfl rfl ?_
          refine VS_pure (P_pick_f rfl rfl) rfl rfl rfl ?_
          refine VS_nil ?_
          refine QS_then ?_
          refine TS_false rfl ?_
          refine TS_exit ?_
          refine QS_then_exit ?_
          refine QS_round4_exit ?_
          refine QS_block_here ?_
          refine QS_block ?_
          exact QS_roundO A3 c3 (o0 ++ ej) true ⟨rfl, rfl, trivial⟩ (Pick.refl _) ⟨(fun _ => by rw [eAll, eBody, if_neg (by omega), if_neg (by omega), if_neg (by omega), if_neg (by omega), if_pos h, encMany, if_pos hcl, hej, ← ho0]; simp), fun h => by cases h⟩
      · unfold outE
        simp only [Option.getD_some, Option.isNone_some]
        have hnn : eAll x = none := by rw [eAll, eBody, if_neg (by omega), if_neg (by omega), if_neg (by omega), if_neg (by omega), if_pos h, hbad rfl]; rfl
        by_cases hlt : j < x.cards.length
        · refine TS_seq ?_
          refine TS_seq ?_
          refine TS_region ?_
          refine VS_pure (P_move rfl) rfl rfl rfl ?_
          refine VS_pure (P_fieldAddr0 fo32_4 rfl) rfl rfl rfl ?_
          refine VS_read (S_load sg23 rfl e4) rfl rfl rfl ?_
          refine VS_pure (P_len il23 rfl) rfl rfl rfl ?_
          refine VS_pure (dt (P_lss rfl rfl) (by omega)) rfl rfl rfl ?_
          refine VS_pure (P_move rfl) rfl rfl rfl ?_
          refine VS_pure (P_move rfl) rfl rfl rfl ?_
          refine VS_pure (P_pick_t rfl rfl) rfl rfl rfl ?_
          refine VS_nil ?_
          refine QS_then ?_
          refine TS_false rfl ?_
          refine TS_exit ?_
          refine QS_then_exit ?_
          refine QS_round4_exit ?_
          refine QS_block_here ?_
          refine QS_block ?_
          exact QS_roundO A3 c3 bad false ⟨rfl, rfl, trivial⟩ (Pick.refl _) ⟨(fun h => by cases h), fun _ => hnn⟩
        · refine TS_seq ?_
          refine TS_seq ?_
          refine TS_region ?_
          refine VS_pure (P_move rfl) rfl rfl rfl ?_
          refine VS_pure (P_fieldAddr0 fo32_4 rfl) rfl rfl rfl ?_
          refine VS_read (S_load sg23 rfl e4) rfl rfl rfl ?_
          refine VS_pure (P_len il23 rfl) rfl rfl rfl ?_
          refine VS_pure (df (P_lss rfl rfl) (by omega)) rfl rfl rfl ?_
          refine VS_pure (P_move rfl) rfl rfl rfl ?_
          refine VS_skip rfl rfl rfl ?_
          refine VS_pure (P_pick_f rfl rfl) rfl rfl rfl ?_
          refine VS_nil ?_
          refine QS_then ?_
          refine TS_false rfl ?_
          refine TS_exit ?_
          refine QS_then_exit ?_
          refine QS_round4_exit ?_
          refine QS_block_here ?_
          refine QS_block ?_
          exact QS_roundO A3 c3 bad false ⟨rfl, rfl, trivial⟩ (Pick.refl _) ⟨(fun h => by cases h), fun _ => hnn⟩
    · refine TS_region ?_
      refine VS_pure (P_fieldAddr0 fo32_0 rfl) rfl rfl rfl ?_
      refine VS_read (S_load sg5 rfl e0) rfl rfl rfl ?_
      refine VS_nil ?_
      refine QS_then ?_
      refine TS_block ?_
      refine TS_seq ?_
      refine TS_region ?_
      refine VS_pure (df (P_eql rfl rfl) (by omega)) rfl rfl rfl ?_
      refine VS_pure (P_assign rfl) rfl rfl rfl ?_
      refine VS_nil ?_
      refine QS_then ?_
      refine TS_false rfl ?_
      refine TS_seq ?_
      refine TS_region ?_
      refine VS_pure (df (P_eql rfl rfl) (by omega)) rfl rfl rfl ?_
      refine VS_pure (P_assign rfl) rfl rfl rfl ?_
      refine VS_nil ?_
      refine QS_then ?_
      refine TS_false rfl ?_
      refine TS_seq ?_
      refine TS_region ?_
      refine VS_pure (df (P_eql rfl rfl) (by omega)) rfl rfl rfl ?_
      refine VS_pure (P_assign rfl) rfl rfl rfl ?_
      refine VS_nil ?_
      refine QS_then ?_
      refine TS_false rfl ?_
      refine TS_seq ?_
      refine TS_region ?_
      refine VS_pure (dt (P_eql rfl rfl) (by assumption)) rfl rfl rfl ?_
      refine VS_pure (P_assign rfl) rfl rfl rfl ?_
      refine VS_nil ?_
      refine QS_then ?_
      refine TS_true rfl ?_
      refine TS_drawB (.step 0 true (.step 1 true (.step 2 true (.step 4 true (.step 5 true (.step 3 false (.step 6 false (.step 7 true (.step 8 true (.step 9 true (.step 10 true (.step 11 true (.done))))))))))))) mixed (by kernel_rfl) (fun _ _ _ _ hq => hq) ?_
      refine VBS_pure rfl (P_move rfl) rfl rfl rfl ?_
      refine VBS_pure rfl (P_fieldAddr0 fo32_1 rfl) rfl rfl rfl ?_
      refine VBS_read rfl (S_load sg3 rfl e1) rfl rfl rfl ?_
      refine VBS_pure rfl (P_fieldAddr0 fo32_5 rfl) rfl rfl rfl ?_
      refine VBS_read rfl (S_loadAt ag28 rfl rfl hatA) rfl rfl rfl ?_
      have HA1 : ∀ m', _ := fun m' => rnum_ok (m := m') (A := (some ⟨b2, 0, none⟩)) (c := 1) (n := x.table) (out := [ub x.kind]) (by simp [be8_len])
      unfold outE at HA1
      refine VBS_step rfl ((S_callL cl27 rfl (.cons .here .nil) (fun m' hm he => HA1 m') rfl ?_)) rfl
      rintro _ _ ⟨A1, c1, rfl, rfl⟩
      skip
      have HG : ∀ m', Le (uni m ns) m' → _ := fun m' hm => raction_ok (hact.mono hm) rop li lp A1 c1 ([ub x.kind] ++ be8 x.table) (by simp [be8_len])
      unfold outE at HG
      cases hen : eAct x.act with
      | none =>
        rw [hen] at HG
        refine VBS_step rfl ((S_callL cl29 rfl (.cons .here .nil) (fun m' hm he => HG m' hm) rfl ?_)) rfl
        rintro _ _ ⟨A9, c9, o9, rfl, rfl, _⟩
        refine VBS_pure rfl (P_move rfl) rfl rfl rfl ?_
        refine VBS_pure rfl (P_extract rfl rfl) rfl rfl rfl ?_
        refine VBS_pure rfl (P_extract rfl rfl) rfl rfl rfl ?_
        refine VBS_pure rfl (P_assign rfl) rfl rfl rfl ?_
        refine VBS_pure rfl (P_assign rfl) rfl rfl rfl ?_
        refine VBS_nil ?_
        refine QS_block ?_
        exact QS_roundO A9 c9 o9 false ⟨rfl, rfl, trivial⟩ (Pick.refl _) ⟨(fun h => by cases h), fun _ => (by rw [eAll, eBody, if_neg (by omega), if_neg (by omega), if_neg (by omega), if_neg (by omega), if_neg (by omega), if_pos h, hen]; rfl)⟩
      | some ee =>
        rw [hen] at HG
        refine VBS_step rfl ((S_callL cl29 rfl (.cons .here .nil) (fun m' hm he => HG m' hm) rfl ?_)) rfl
        rintro _ _ ⟨A9, c9, o9, rfl, rfl, ho9⟩
        obtain rfl := ho9 _ rfl
        refine VBS_pure rfl (P_move rfl) rfl rfl rfl ?_
        refine VBS_pure rfl (P_extract rfl rfl) rfl rfl rfl ?_
        refine VBS_pure rfl (P_extract rfl rfl) rfl rfl rfl ?_
        refine VBS_pure rfl (P_assign rfl) rfl rfl rfl ?_
        refine VBS_pure rfl (P_assign rfl) rfl rfl rfl ?_
        refine VBS_nil ?_
        refine QS_block ?_
        exact QS_roundO A9 c9 _ true ⟨rfl, rfl, trivial⟩ (Pick.refl _) ⟨(fun _ => (by rw [eAll, eBody, if_neg (by omega), if_neg (by omega), if_neg (by omega), if_neg (by omega), if_neg (by omega), if_pos h, hen]; simp)), fun h => by cases h⟩
    · refine TS_region ?_
      refine VS_pure (P_fieldAddr0 fo32_0 rfl) rfl rfl rfl ?_
      refine VS_read (S_load sg5 rfl e0) rfl rfl rfl ?_
      refine VS_nil ?_
      refine QS_then ?_
      refine TS_block ?_
      refine TS_seq ?_
      refine TS_region ?_
      refine VS_pure (df (P_eql rfl rfl) (by omega)) rfl rfl rfl ?_
      refine VS_pure (P_assign rfl) rfl rfl rfl ?_
      refine VS_nil ?_
      refine QS_then ?_
      refine TS_false rfl ?_
      refine TS_seq ?_
      refine TS_region ?_
      refine VS_pure (df (P_eql rfl rfl) (by omega)) rfl rfl rfl ?_
      refine VS_pure (P_assign rfl) rfl rfl rfl ?_
      refine VS_nil ?_
      refine QS_then ?_
      refine TS_false rfl ?_
      refine TS_seq ?_
      refine TS_region ?_
      refine VS_pure (df (P_eql rfl rfl) (by omega)) rfl rfl rfl ?_
      refine VS_pure (P_assign rfl) rfl rfl rfl ?_
      refine VS_nil ?_
      refine QS_then ?_
      refine TS_false rfl ?_
      refine TS_seq ?_
      refine TS_region ?_
      refine VS_pure (df (P_eql rfl rfl) (by omega)) rfl rfl rfl ?_
      refine VS_pure (P_assign rfl) rfl rfl rfl ?_
      refine VS_nil ?_
      refine QS_then ?_
      refine TS_false rfl ?_
      refine TS_seq ?_
      refine TS_seq ?_
      refine TS_region ?_
      refine VS_pure (dt (P_eql rfl rfl) (by assumption)) rfl rfl rfl ?_
      refine VS_pure (P_assign rfl) rfl rfl rfl ?_
      refine VS_nil ?_
      refine QS_then ?_
      refine TS_true rfl ?_
      refine TS_skip ?_
      refine QS_then ?_
      refine TS_true rfl ?_
      refine TS_region ?_
      refine VS_pure (P_move rfl) rfl rfl rfl ?_
      refine VS_pure (P_fieldAddr0 fo32_1 rfl) rfl rfl rfl ?_
      refine VS_read (S_load sg3 rfl e1) rfl rfl rfl ?_
      have HA1 : ∀ m', _ := fun m' => rnum_ok (m := m') (A := (some ⟨b2, 0, none⟩)) (c := 1) (n := x.table) (out := [ub x.kind]) (by simp [be8_len])
      unfold outE at HA1
      refine VS_step ((S_callL cl27 rfl (.cons .here .nil) (fun m' hm he => HA1 m') rfl ?_)) rfl
      rintro _ _ ⟨A1, c1, rfl, rfl⟩
      refine VS_pure (P_assign rfl) rfl rfl rfl ?_
      refine VS_nil ?_
      refine QS_block ?_
      exact QS_roundO A1 c1 _ true ⟨rfl, rfl, trivial⟩ (Pick.refl _) ⟨(fun _ => (by rw [eAll, eBody, if_neg (by omega), if_neg (by omega), if_neg (by omega), if_neg (by omega), if_neg (by omega), if_neg (by omega), if_neg (by omega), if_neg (by omega), Option.map_some]; rfl)), fun h => by cases h⟩
    · refine TS_region ?_
      refine VS_pure (P_fieldAddr0 fo32_0 rfl) rfl rfl rfl ?_
      refine VS_read (S_load sg5 rfl e0) rfl rfl rfl ?_
      refine VS_nil ?_
      refine QS_then ?_
      refine TS_block ?_
      refine TS_seq ?_
      refine TS_region ?_
      refine VS_pure (df (P_eql rfl rfl) (by omega)) rfl rfl rfl ?_
      refine VS_pure (P_assign rfl) rfl rfl rfl ?_
      refine VS_nil ?_
      refine QS_then ?_
      refine TS_false rfl ?_
      refine TS_seq ?_
      refine TS_region ?_
      refine VS_pure (df (P_eql rfl rfl) (by omega)) rfl rfl rfl ?_
      refine VS_pure (P_assign rfl) rfl rfl rfl ?_
      refine VS_nil ?_
      refine QS_then ?_
      refine TS_false rfl ?_
      refine TS_seq ?_
      refine TS_region ?_
      refine VS_pure (df (P_eql rfl rfl) (by omega)) rfl rfl rfl ?_
      refine VS_pure (P_assign rfl) rfl rfl rfl ?_
      refine VS_nil ?_
      refine QS_then ?_
      refine TS_false rfl ?_
      refine TS_seq ?_
      refine TS_region ?_
      refine VS_pure (df (P_eql rfl rfl) (by omega)) rfl rfl rfl ?_
      refine VS_pure (P_assign rfl) rfl rfl rfl ?_
      refine VS_nil ?_
      refine QS_then ?_
      refine TS_false rfl ?_
      refine TS_seq ?_
      refine TS_seq ?_
      refine TS_region ?_
      refine VS_pure (df (P_eql rfl rfl) (by omega)) rfl rfl rfl ?_
      refine VS_pure (P_assign rfl) rfl rfl rfl ?_
      refine VS_nil ?_
      refine QS_then ?_
      refine TS_false rfl ?_
      refine TS_seq ?_
      refine TS_region ?_
      refine VS_pure (dt (P_eql rfl rfl) (by assumption)) rfl rfl rfl ?_
      refine VS_pure (P_assign rfl) rfl rfl rfl ?_
      refine VS_nil ?_
      refine QS_then ?_
      refine TS_true rfl ?_
      refine TS_skip ?_
      refine QS_then ?_
      refine TS_true rfl ?_
      refine TS_region ?_
      refine VS_pure (P_move rfl) rfl rfl rfl ?_
      refine VS_pure (P_fieldAddr0 fo32_1 rfl) rfl rfl rfl ?_
      refine VS_read (S_load sg3 rfl e1) rfl rfl rfl ?_
      have HA1 : ∀ m', _ := fun m' => rnum_ok (m := m') (A := (some ⟨b2, 0, none⟩)) (c := 1) (n := x.table) (out := [ub x.kind]) (by simp [be8_len])
      unfold outE at HA1
      refine VS_step ((S_callL cl27 rfl (.cons .here .nil) (fun m' hm he => HA1 m') rfl ?_)) rfl
      rintro _ _ ⟨A1, c1, rfl, rfl⟩
      refine VS_pure (P_assign rfl) rfl rfl rfl ?_
      refine VS_nil ?_
      refine QS_block ?_
      exact QS_roundO A1 c1 _ true ⟨rfl, rfl, trivial⟩ (Pick.refl _) ⟨(fun _ => (by rw [eAll, eBody, if_neg (by omega), if_neg (by omega), if_neg (by omega), if_neg (by omega), if_neg (by omega), if_neg (by omega), if_neg (by omega), if_neg (by omega), Option.map_some]; rfl)), fun h => by cases h⟩
    · refine TS_region ?_
      refine VS_pure (P_fieldAddr0 fo32_0 rfl) rfl rfl rfl ?_
      refine VS_read (S_load sg5 rfl e0) rfl rfl rfl ?_
      refine VS_nil ?_
      refine QS_then ?_
      refine TS_block ?_
      refine TS_seq ?_
      refine TS_region ?_
      refine VS_pure (df (P_eql rfl rfl) (by omega)) rfl rfl rfl ?_
      refine VS_pure (P_assign rfl) rfl rfl rfl ?_
      refine VS_nil ?_
      refine QS_then ?_
      refine TS_false rfl ?_
      refine TS_seq ?_
      refine TS_region ?_
      refine VS_pure (df (P_eql rfl rfl) (by omega)) rfl rfl rfl ?_
      refine VS_pure (P_assign rfl) rfl rfl rfl ?_
      refine VS_nil ?_
      refine QS_then ?_
      refine TS_false rfl ?_
      refine TS_seq ?_
      refine TS_region ?_
      refine VS_pure (df (P_eql rfl rfl) (by omega)) rfl rfl rfl ?_
      refine VS_pure (P_assign rfl) rfl rfl rfl ?_
      refine VS_nil ?_
      refine QS_then ?_
      refine TS_false rfl ?_
      refine TS_seq ?_
      refine TS_region ?_
      refine VS_pure (df (P_eql rfl rfl) (by omega)) rfl rfl rfl ?_
      refine VS_pure (P_assign rfl) rfl rfl rfl ?_
      refine VS_nil ?_
      refine QS_then ?_
      refine TS_false rfl ?_
      refine TS_seq ?_
      refine TS_seq ?_
      refine TS_region ?_
      refine VS_pure (df (P_eql rfl rfl) (by omega)) rfl rfl rfl ?_
      refine VS_pure (P_assign rfl) rfl rfl rfl ?_
      refine VS_nil ?_
      refine QS_then ?_
      refine TS_false rfl ?_
      refine TS_seq ?_
      refine TS_region ?_
      refine VS_pure (df (P_eql rfl rfl) (by omega)) rfl rfl rfl ?_
      refine VS_pure (P_assign rfl) rfl rfl rfl ?_
      refine VS_nil ?_
      refine QS_then ?_
      refine TS_false rfl ?_
      refine TS_region ?_
      refine VS_pure (dt (P_eql rfl rfl) (by assumption)) rfl rfl rfl ?_
      refine VS_pure (P_assign rfl) rfl rfl rfl ?_
      refine VS_nil ?_
      refine QS_then ?_
      refine TS_true rfl ?_
      refine TS_region ?_
      refine VS_pure (P_move rfl) rfl rfl rfl ?_
      refine VS_pure (P_fieldAddr0 fo32_1 rfl) rfl rfl rfl ?_
      refine VS_read (S_load sg3 rfl e1) rfl rfl rfl ?_
      have HA1 : ∀ m', _ := fun m' => rnum_ok (m := m') (A := (some ⟨b2, 0, none⟩)) (c := 1) (n := x.table) (out := [ub x.kind]) (by simp [be8_len])
      unfold outE at HA1
      refine VS_step ((S_callL cl27 rfl (.cons .here .nil) (fun m' hm he => HA1 m') rfl ?_)) rfl
      rintro _ _ ⟨A1, c1, rfl, rfl⟩
      refine VS_pure (P_assign rfl) rfl rfl rfl ?_
      refine VS_nil ?_
      refine QS_block ?_
      exact QS_roundO A1 c1 _ true ⟨rfl, rfl, trivial⟩ (Pick.refl _) ⟨(fun _ => (by rw [eAll, eBody, if_neg (by omega), if_neg (by omega), if_neg (by omega), if_neg (by omega), if_neg (by omega), if_neg (by omega), if_neg (by omega), if_neg (by omega), Option.map_some]; rfl)), fun h => by cases h⟩
    · refine TS_region ?_
      refine VS_pure (P_fieldAddr0 fo32_0 rfl) rfl rfl rfl ?_
      refine VS_read (S_load sg5 rfl e0) rfl rfl rfl ?_
      refine VS_nil ?_
      refine QS_then ?_
      refine TS_block ?_
      refine TS_seq ?_
      refine TS_region ?_
      refine VS_pure (df (P_eql rfl rfl) (by omega)) rfl rfl rfl ?_
      refine VS_pure (P_assign rfl) rfl rfl rfl ?_
      refine VS_nil ?_
      refine QS_then ?_
      refine TS_false rfl ?_
      refine TS_seq ?_
      refine TS_region ?_
      refine VS_pure (df (P_eql rfl rfl) (by omega)) rfl rfl rfl ?_
      refine VS_pure (P_assign rfl) rfl rfl rfl ?_
      refine VS_nil ?_
      refine QS_then ?_
      refine TS_false rfl ?_
      refine TS_seq ?_
      refine TS_region ?_
      refine VS_pure (df (P_eql rfl rfl) (by omega)) rfl rfl rfl ?_
      refine VS_pure (P_assign rfl) rfl rfl rfl ?_
      refine VS_nil ?_
      refine QS_then ?_
      refine TS_false rfl ?_
      refine TS_seq ?_
      refine TS_region ?_
      refine VS_pure (df (P_eql rfl rfl) (by omega)) rfl rfl rfl ?_
      refine VS_pure (P_assign rfl) rfl rfl rfl ?_
      refine VS_nil ?_
      refine QS_then ?_
      refine TS_false rfl ?_
      refine TS_seq ?_
      refine TS_seq ?_
      refine TS_region ?_
      refine VS_pure (df (P_eql rfl rfl) (by omega)) rfl rfl rfl ?_
      refine VS_pure (P_assign rfl) rfl rfl rfl ?_
      refine VS_nil ?_
      refine QS_then ?_
      refine TS_false rfl ?_
      refine TS_seq ?_
      refine TS_region ?_
      refine VS_pure (df (P_eql rfl rfl) (by omega)) rfl rfl rfl ?_
      refine VS_pure (P_assign rfl) rfl rfl rfl ?_
      refine VS_nil ?_
      refine QS_then ?_
      refine TS_false rfl ?_
      refine TS_region ?_
      refine VS_pure (df (P_eql rfl rfl) (by omega)) rfl rfl rfl ?_
      refine VS_pure (P_assign rfl) rfl rfl rfl ?_
      refine VS_nil ?_
      refine QS_then ?_
      refine TS_false rfl ?_
      refine TS_seq ?_
      refine TS_region ?_
      refine VS_pure (df (P_eql rfl rfl) (by omega)) rfl rfl rfl ?_
      refine VS_pure (P_assign rfl) rfl rfl rfl ?_
      refine VS_nil ?_
      refine QS_then ?_
      refine TS_false rfl ?_
      refine TS_seq ?_
      refine TS_seq ?_
      refine TS_region ?_
      refine VS_pure (df (P_eql rfl rfl) (by omega)) rfl rfl rfl ?_
      refine VS_pure (P_assign rfl) rfl rfl rfl ?_
      refine VS_nil ?_
      refine QS_then ?_
      refine TS_false rfl ?_
      refine TS_region ?_
      refine VS_pure (df (P_eql rfl rfl) (by omega)) rfl rfl rfl ?_
      refine VS_pure (P_assign rfl) rfl rfl rfl ?_
      refine VS_nil ?_
      refine QS_then ?_
      refine TS_false rfl ?_
      refine TS_seq ?_
      refine TS_region ?_
      refine VS_pure (df (P_eql rfl rfl) (by omega)) rfl rfl rfl ?_
      refine VS_pure (P_assign rfl) rfl rfl rfl ?_
      refine VS_nil ?_
      refine QS_then ?_
      refine TS_false rfl ?_
      refine TS_skip ?_
      refine QS_block ?_
      exact QS_roundO (some ⟨b2, 0, none⟩) 1 [ub x.kind] true ⟨rfl, rfl, trivial⟩ (Pick.refl _) ⟨(fun _ => (by rw [eAll, eBody, if_neg (by omega), if_neg (by omega), if_pos h]; rfl)), fun h => by cases h⟩
    · have htu : (Value.int .u8 x.to_) = byteV (ub x.to_) := by unfold byteV; rw [← ub_u8 rto]
      refine TS_region ?_
      refine VS_pure (P_fieldAddr0 fo32_0 rfl) rfl rfl rfl ?_
      refine VS_read (S_load sg5 rfl e0) rfl rfl rfl ?_
      refine VS_nil ?_
      refine QS_then ?_
      refine TS_block ?_
      refine TS_seq ?_
      refine TS_region ?_
      refine VS_pure (df (P_eql rfl rfl) (by omega)) rfl rfl rfl ?_
      refine VS_pure (P_assign rfl) rfl rfl rfl ?_
      refine VS_nil ?_
      refine QS_then ?_
      refine TS_false rfl ?_
      refine TS_seq ?_
      refine TS_region ?_
      refine VS_pure (df (P_eql rfl rfl) (by omega)) rfl rfl rfl ?_
      refine VS_pure (P_assign rfl) rfl rfl rfl ?_
      refine VS_nil ?_
      refine QS_then ?_
      refine TS_false rfl ?_
      refine TS_seq ?_
      refine TS_region ?_
      refine VS_pure (df (P_eql rfl rfl) (by omega)) rfl rfl rfl ?_
      refine VS_pure (P_assign rfl) rfl rfl rfl ?_
      refine VS_nil ?_
      refine QS_then ?_
      refine TS_false rfl ?_
      refine TS_seq ?_
      refine TS_region ?_
      refine VS_pure (df (P_eql rfl rfl) (by omega)) rfl rfl rfl ?_
      refine VS_pure (P_assign rfl) rfl rfl rfl ?_
      refine VS_nil ?_
      refine QS_then ?_
      refine TS_false rfl ?_
      refine TS_seq ?_
      refine TS_seq ?_
      refine TS_region ?_
      refine VS_pure (df (P_eql rfl rfl) (by omega)) rfl rfl rfl ?_
      refine VS_pure (P_assign rfl) rfl rfl rfl ?_
      refine VS_nil ?_
      refine QS_then ?_
      refine TS_false rfl ?_
      refine TS_seq ?_
      refine TS_region ?_
      refine VS_pure (df (P_eql rfl rfl) (by omega)) rfl rfl rfl ?_
      refine VS_pure (P_assign rfl) rfl rfl rfl ?_
      refine VS_nil ?_
      refine QS_then ?_
      refine TS_false rfl ?_
      refine TS_region ?_
      refine VS_pure (df (P_eql rfl rfl) (by omega)) rfl rfl rfl ?_
      refine VS_pure (P_assign rfl) rfl rfl rfl ?_
      refine VS_nil ?_
      refine QS_then ?_
      refine TS_false rfl ?_
      refine TS_seq ?_
      refine TS_region ?_
      refine VS_pure (dt (P_eql rfl rfl) (by assumption)) rfl rfl rfl ?_
      refine VS_pure (P_assign rfl) rfl rfl rfl ?_
      refine VS_nil ?_
      refine QS_then ?_
      refine TS_true rfl ?_
      refine TS_drawB (.step 0 true (.step 1 true (.step 2 true (.step 5 true (.step 6 true (.step 3 false (.step 4 false (.step 7 false (.step 8 true (.done)))))))))) mixed (by kernel_rfl) (fun _ _ _ _ hq => hq) ?_
      refine VBS_pure rfl (P_move rfl) rfl rfl rfl ?_
      refine VBS_pure rfl (P_fieldAddr0 fo32_6 rfl) rfl rfl rfl ?_
      refine VBS_read rfl (S_load sg5 rfl e11) rfl rfl rfl ?_
      refine VBS_pure rfl (P_fieldAddr0 fo32_7 rfl) rfl rfl rfl ?_
      refine VBS_read rfl (S_load sg29 rfl e12) rfl rfl rfl ?_
      refine VBS_step rfl (S_buildSlice sl22 rfl rfl rfl rfl (fun b3 => ?_)) rfl
      refine VBS_step rfl (S_append sl22 rfl rfl rfl rfl (.here) (fun _ _ => (.there (.here))) rfl rfl (by first | omega | (simp only [maxLen]; omega)) (by omega) rfl (fun A1 c1 => ?_)) rfl
      rw [htu]
      have H1 : ∀ m', _ := fun m' => rnum_ok (m := m') (A := A1) (c := c1) (n := x.e) (out := [ub x.kind, ub x.to_]) (by simp)
      unfold outE at H1
      refine VBS_step rfl ((S_callL cl27 rfl (.cons (.there .here) .nil) (fun m' hm he => H1 m') rfl ?_)) rfl
      rintro _ _ ⟨A2, c2, rfl, rfl⟩
      refine VBS_pure rfl (P_assign rfl) rfl rfl rfl ?_
      refine VBS_nil ?_
      refine QS_block ?_
      exact QS_roundO A2 c2 _ true ⟨rfl, rfl, trivial⟩ (.cons .here (.nil _)) ⟨(fun _ => (by rw [eAll, eBody, if_neg (by omega), if_pos h, Option.map_some]; rfl)), fun h => by cases h⟩
    · refine TS_region ?_
      refine VS_pure (P_fieldAddr0 fo32_0 rfl) rfl rfl rfl ?_
      refine VS_read (S_load sg5 rfl e0) rfl rfl rfl ?_
      refine VS_nil ?_
      refine QS_then ?_
      refine TS_block ?_
      refine TS_seq ?_
      refine TS_region ?_
      refine VS_pure (df (P_eql rfl rfl) (by omega)) rfl rfl rfl ?_
      refine VS_pure (P_assign rfl) rfl rfl rfl ?_
      refine VS_nil ?_
      refine QS_then ?_
      refine TS_false rfl ?_
      refine TS_seq ?_
      refine TS_region ?_
      refine VS_pure (df (P_eql rfl rfl) (by omega)) rfl rfl rfl ?_
      refine VS_pure (P_assign rfl) rfl rfl rfl ?_
      refine VS_nil ?_
      refine QS_then ?_
      refine TS_false rfl ?_
      refine TS_seq ?_
      refine TS_region ?_
      refine VS_pure (df (P_eql rfl rfl) (by omega)) rfl rfl rfl ?_
      refine VS_pure (P_assign rfl) rfl rfl rfl ?_
      refine VS_nil ?_
      refine QS_then ?_
      refine TS_false rfl ?_
      refine TS_seq ?_
      refine TS_region ?_
      refine VS_pure (df (P_eql rfl rfl) (by omega)) rfl rfl rfl ?_
      refine VS_pure (P_assign rfl) rfl rfl rfl ?_
      refine VS_nil ?_
      refine QS_then ?_
      refine TS_false rfl ?_
      refine TS_seq ?_
      refine TS_seq ?_
      refine TS_region ?_
      refine VS_pure (df (P_eql rfl rfl) (by omega)) rfl rfl rfl ?_
      refine VS_pure (P_assign rfl) rfl rfl rfl ?_
      refine VS_nil ?_
      refine QS_then ?_
      refine TS_false rfl ?_
      refine TS_seq ?_
      refine TS_region ?_
      refine VS_pure (df (P_eql rfl rfl) (by omega)) rfl rfl rfl ?_
      refine VS_pure (P_assign rfl) rfl rfl rfl ?_
      refine VS_nil ?_
      refine QS_then ?_
      refine TS_false rfl ?_
      refine TS_region ?_
      refine VS_pure (df (P_eql rfl rfl) (by omega)) rfl rfl rfl ?_
      refine VS_pure (P_assign rfl) rfl rfl rfl ?_
      refine VS_nil ?_
      refine QS_then ?_
      refine TS_false rfl ?_
      refine TS_seq ?_
      refine TS_region ?_
      refine VS_pure (df (P_eql rfl rfl) (by omega)) rfl rfl rfl ?_
      refine VS_pure (P_assign rfl) rfl rfl rfl ?_
      refine VS_nil ?_
      refine QS_then ?_
      refine TS_false rfl ?_
      refine TS_seq ?_
      refine TS_seq ?_
      refine TS_region ?_
      refine VS_pure (dt (P_eql rfl rfl) (by assumption)) rfl rfl rfl ?_
      refine VS_pure (P_assign rfl) rfl rfl rfl ?_
      refine VS_nil ?_
      refine QS_then ?_
      refine TS_true rfl ?_
      refine TS_skip ?_
      refine QS_then ?_
      refine TS_true rfl ?_
      refine TS_drawB (.step 0 true (.step 1 true (.step 2 true (.step 4 true (.step 5 true (.step 6 true (.step 3 false (.step 7 false (.step 8 true (.step 9 true (.step 10 true (.step 11 true (.step 12 true (.done)))))))))))))) mixed (by kernel_rfl) (fun _ _ _ _ hq => hq) ?_
      refine VBS_pure rfl (P_move rfl) rfl rfl rfl ?_
      refine VBS_pure rfl (P_fieldAddr0 fo32_1 rfl) rfl rfl rfl ?_
      refine VBS_read rfl (S_load sg3 rfl e1) rfl rfl rfl ?_
      refine VBS_pure rfl (P_fieldAddr0 fo32_3 rfl) rfl rfl rfl ?_
      refine VBS_read rfl (S_load sg22 rfl e3) rfl rfl rfl ?_
      refine VBS_read rfl (S_bstr bt22 st9 rfl (by first | rfl | omega) hbr) rfl rfl rfl ?_
      have HA1 : ∀ m', _ := fun m' => rnum_ok (m := m') (A := (some ⟨b2, 0, none⟩)) (c := 1) (n := x.table) (out := [ub x.kind]) (by simp [be8_len])
      unfold outE at HA1
      refine VBS_step rfl ((S_callL cl27 rfl (.cons .here .nil) (fun m' hm he => HA1 m') rfl ?_)) rfl
      rintro _ _ ⟨A1, c1, rfl, rfl⟩
      skip
      have HG : ∀ m', Le (uni m ns) m' → _ := fun m' hm => rtext_ok (m := m') lb A1 c1 ([ub x.kind] ++ be8 x.table) (by simp [be8_len])
      unfold outE at HG
      cases hen : eText x.bytes with
      | none =>
        rw [hen] at HG
        refine VBS_step rfl ((S_callL cl26 rfl (.cons .here .nil) (fun m' hm he => HG m' hm) rfl ?_)) rfl
        rintro _ _ ⟨A9, c9, o9, rfl, rfl, _⟩
        refine VBS_pure rfl (P_move rfl) rfl rfl rfl ?_
        refine VBS_pure rfl (P_extract rfl rfl) rfl rfl rfl ?_
        refine VBS_pure rfl (P_extract rfl rfl) rfl rfl rfl ?_
        refine VBS_pure rfl (P_assign rfl) rfl rfl rfl ?_
        refine VBS_pure rfl (P_assign rfl) rfl rfl rfl ?_
        refine VBS_nil ?_
        refine QS_block ?_
        exact QS_roundO A9 c9 o9 false ⟨rfl, rfl, trivial⟩ (Pick.refl _) ⟨(fun h => by cases h), fun _ => (by rw [eAll, eBody, if_neg (by omega), if_neg (by omega), if_neg (by omega), if_neg (by omega), if_neg (by omega), if_neg (by omega), if_pos (.inl h), hen]; rfl)⟩
      | some ee =>
        rw [hen] at HG
        refine VBS_step rfl ((S_callL cl26 rfl (.cons .here .nil) (fun m' hm he => HG m' hm) rfl ?_)) rfl
        rintro _ _ ⟨A9, c9, o9, rfl, rfl, ho9⟩
        obtain rfl := ho9 _ rfl
        refine VBS_pure rfl (P_move rfl) rfl rfl rfl ?_
        refine VBS_pure rfl (P_extract rfl rfl) rfl rfl rfl ?_
        refine VBS_pure rfl (P_extract rfl rfl) rfl rfl rfl ?_
        refine VBS_pure rfl (P_assign rfl) rfl rfl rfl ?_
        refine VBS_pure rfl (P_assign rfl) rfl rfl rfl ?_
        refine VBS_nil ?_
        refine QS_block ?_
        exact QS_roundO A9 c9 _ true ⟨rfl, rfl, trivial⟩ (Pick.refl _) ⟨(fun _ => (by rw [eAll, eBody, if_neg (by omega), if_neg (by omega), if_neg (by omega), if_neg (by omega), if_neg (by omega), if_neg (by omega), if_pos (.inl h), hen]; simp)), fun h => by cases h⟩
    · refine TS_region ?_
      refine VS_pure (P_fieldAddr0 fo32_0 rfl) rfl rfl rfl ?_
      refine VS_read (S_load sg5 rfl e0) rfl rfl rfl ?_
      refine VS_nil ?_
      refine QS_then ?_
      refine TS_block ?_
      refine TS_seq ?_
      refine TS_region ?_
      refine VS_pure (df (P_eql rfl rfl) (by omega)) rfl rfl rfl ?_
      refine VS_pure (P_assign rfl) rfl rfl rfl ?_
      refine VS_nil ?_
      refine QS_then ?_
      refine TS_false rfl ?_
      refine TS_seq ?_
      refine TS_region ?_
      refine VS_pure (df (P_eql rfl rfl) (by omega)) rfl rfl rfl ?_
      refine VS_pure (P_assign rfl) rfl rfl rfl ?_
      refine VS_nil ?_
      refine QS_then ?_
      refine TS_false rfl ?_
      refine TS_seq ?_
      refine TS_region ?_
      refine VS_pure (df (P_eql rfl rfl) (by omega)) rfl rfl rfl ?_
      refine VS_pure (P_assign rfl) rfl rfl rfl ?_
      refine VS_nil ?_
      refine QS_then ?_
      refine TS_false rfl ?_
      refine TS_seq ?_
      refine TS_region ?_
      refine VS_pure (df (P_eql rfl rfl) (by omega)) rfl rfl rfl ?_
      refine VS_pure (P_assign rfl) rfl rfl rfl ?_
      refine VS_nil ?_
      refine QS_then ?_
      refine TS_false rfl ?_
      refine TS_seq ?_
      refine TS_seq ?_
      refine TS_region ?_
      refine VS_pure (df (P_eql rfl rfl) (by omega)) rfl rfl rfl ?_
      refine VS_pure (P_assign rfl) rfl rfl rfl ?_
      refine VS_nil ?_
      refine QS_then ?_
      refine TS_false rfl ?_
      refine TS_seq ?_
      refine TS_region ?_
      refine VS_pure (df (P_eql rfl rfl) (by omega)) rfl rfl rfl ?_
      refine VS_pure (P_assign rfl) rfl rfl rfl ?_
      refine VS_nil ?_
      refine QS_then ?_
      refine TS_false rfl ?_
      refine TS_region ?_
      refine VS_pure (df (P_eql rfl rfl) (by omega)) rfl rfl rfl ?_
      refine VS_pure (P_assign rfl) rfl rfl rfl ?_
      refine VS_nil ?_
      refine QS_then ?_
      refine TS_false rfl ?_
      refine TS_seq ?_
      refine TS_region ?_
      refine VS_pure (df (P_eql rfl rfl) (by omega)) rfl rfl rfl ?_
      refine VS_pure (P_assign rfl) rfl rfl rfl ?_
      refine VS_nil ?_
      refine QS_then ?_
      refine TS_false rfl ?_
      refine TS_seq ?_
      refine TS_seq ?_
      refine TS_region ?_
      refine VS_pure (df (P_eql rfl rfl) (by omega)) rfl rfl rfl ?_
      refine VS_pure (P_assign rfl) rfl rfl rfl ?_
      refine VS_nil ?_
      refine QS_then ?_
      refine TS_false rfl ?_
      refine TS_region ?_
      refine VS_pure (df (P_eql rfl rfl) (by omega)) rfl rfl rfl ?_
      refine VS_pure (P_assign rfl) rfl rfl rfl ?_
      refine VS_nil ?_
      refine QS_then ?_
      refine TS_false rfl ?_
      refine TS_seq ?_
      refine TS_region ?_
      refine VS_pure (dt (P_eql rfl rfl) (by assumption)) rfl rfl rfl ?_
      refine VS_pure (P_assign rfl) rfl rfl rfl ?_
      refine VS_nil ?_
      refine QS_then ?_
      refine TS_true rfl ?_
      refine TS_drawB (.step 0 true (.step 1 true (.step 2 true (.step 4 true (.step 5 true (.step 3 false (.step 6 false (.step 7 true (.step 8 true (.step 9 true (.step 10 true (.step 11 true (.done))))))))))))) mixed (by kernel_rfl) (fun _ _ _ _ hq => hq) ?_
      refine VBS_pure rfl (P_move rfl) rfl rfl rfl ?_
      refine VBS_pure rfl (P_fieldAddr0 fo32_1 rfl) rfl rfl rfl ?_
      refine VBS_read rfl (S_load sg3 rfl e1) rfl rfl rfl ?_
      refine VBS_pure rfl (P_fieldAddr0 fo32_8 rfl) rfl rfl rfl ?_
      refine VBS_read rfl (S_load sg30 rfl e13) rfl rfl rfl ?_
      have HA1 : ∀ m', _ := fun m' => rnum_ok (m := m') (A := (some ⟨b2, 0, none⟩)) (c := 1) (n := x.table) (out := [ub x.kind]) (by simp [be8_len])
      unfold outE at HA1
      refine VBS_step rfl ((S_callL cl27 rfl (.cons .here .nil) (fun m' hm he => HA1 m') rfl ?_)) rfl
      rintro _ _ ⟨A1, c1, rfl, rfl⟩
      skip
      have HG : ∀ m', Le (uni m ns) m' → _ := fun m' hm => revents_ok (((xe.mono hle).sl).mono hm) le hev A1 c1 ([ub x.kind] ++ be8 x.table) (by simp [be8_len])
      unfold outE at HG
      cases hen : encMany eEvt x.evs with
      | none =>
        rw [hen] at HG
        refine VBS_step rfl ((S_callL cl30 rfl (.cons .here .nil) (fun m' hm he => HG m' hm) rfl ?_)) rfl
        rintro _ _ ⟨A9, c9, o9, rfl, rfl, _⟩
        refine VBS_pure rfl (P_move rfl) rfl rfl rfl ?_
        refine VBS_pure rfl (P_extract rfl rfl) rfl rfl rfl ?_
        refine VBS_pure rfl (P_extract rfl rfl) rfl rfl rfl ?_
        refine VBS_pure rfl (P_assign rfl) rfl rfl rfl ?_
        refine VBS_pure rfl (P_assign rfl) rfl rfl rfl ?_
        refine VBS_nil ?_
        refine QS_block ?_
        exact QS_roundO A9 c9 o9 false ⟨rfl, rfl, trivial⟩ (Pick.refl _) ⟨(fun h => by cases h), fun _ => (by rw [eAll, eBody, if_neg (by omega), if_neg (by omega), if_neg (by omega), if_neg (by omega), if_neg (by omega), if_neg (by omega), if_neg (by omega), if_pos h, hen]; rfl)⟩
      | some ee =>
        rw [hen] at HG
        refine VBS_step rfl ((S_callL cl30 rfl (.cons .here .nil) (fun m' hm he => HG m' hm) rfl ?_)) rfl
        rintro _ _ ⟨A9, c9, o9, rfl, rfl, ho9⟩
        obtain rfl := ho9 _ rfl
        refine VBS_pure rfl (P_move rfl) rfl rfl rfl ?_
        refine VBS_pure rfl (P_extract rfl rfl) rfl rfl rfl ?_
        refine VBS_pure rfl (P_extract rfl rfl) rfl rfl rfl ?_
        refine VBS_pure rfl (P_assign rfl) rfl rfl rfl ?_
        refine VBS_pure rfl (P_assign rfl) rfl rfl rfl ?_
        refine VBS_nil ?_
        refine QS_block ?_
        exact QS_roundO A9 c9 _ true ⟨rfl, rfl, trivial⟩ (Pick.refl _) ⟨(fun _ => (by rw [eAll, eBody, if_neg (by omega), if_neg (by omega), if_neg (by omega), if_neg (by omega), if_neg (by omega), if_neg (by omega), if_neg (by omega), if_pos h, hen]; simp)), fun h => by cases h⟩
    · refine TS_region ?_
      refine VS_pure (P_fieldAddr0 fo32_0 rfl) rfl rfl rfl ?_
      refine VS_read (S_load sg5 rfl e0) rfl rfl rfl ?_
      refine VS_nil ?_
      refine QS_then ?_
      refine TS_block ?_
      refine TS_seq ?_
      refine TS_region ?_
      refine VS_pure (df (P_eql rfl rfl) (by omega)) rfl rfl rfl ?_
      refine VS_pure (P_assign rfl) rfl rfl rfl ?_
      refine VS_nil ?_
      refine QS_then ?_
      refine TS_false rfl ?_
      refine TS_seq ?_
      refine TS_region ?_
      refine VS_pure (df (P_eql rfl rfl) (by omega)) rfl rfl rfl ?_
      refine VS_pure (P_assign rfl) rfl rfl rfl ?_
      refine VS_nil ?_
      refine QS_then ?_
      refine TS_false rfl ?_
      refine TS_seq ?_
      refine TS_region ?_
      refine VS_pure (df (P_eql rfl rfl) (by omega)) rfl rfl rfl ?_
      refine VS_pure (P_assign rfl) rfl rfl rfl ?_
      refine VS_nil ?_
      refine QS_then ?_
      refine TS_false rfl ?_
      refine TS_seq ?_
      refine TS_region ?_
      refine VS_pure (df (P_eql rfl rfl) (by omega)) rfl rfl rfl ?_
      refine VS_pure (P_assign rfl) rfl rfl rfl ?_
      refine VS_nil ?_
      refine QS_then ?_
      refine TS_false rfl ?_
      refine TS_seq ?_
      refine TS_seq ?_
      refine TS_region ?_
      refine VS_pure (df (P_eql rfl rfl) (by omega)) rfl rfl rfl ?_
      refine VS_pure (P_assign rfl) rfl rfl rfl ?_
      refine VS_nil ?_
      refine QS_then ?_
      refine TS_false rfl ?_
      refine TS_seq ?_
      refine TS_region ?_
      refine VS_pure (df (P_eql rfl rfl) (by omega)) rfl rfl rfl ?_
      refine VS_pure (P_assign rfl) rfl rfl rfl ?_
      refine VS_nil ?_
      refine QS_then ?_
      refine TS_false rfl ?_
      refine TS_region ?_
      refine VS_pure (df (P_eql rfl rfl) (by omega)) rfl rfl rfl ?_
      refine VS_pure (P_assign rfl) rfl rfl rfl ?_
      refine VS_nil ?_
      refine QS_then ?_
      refine TS_false rfl ?_
      refine TS_seq ?_
      refine TS_region ?_
      refine VS_pure (df (P_eql rfl rfl) (by omega)) rfl rfl rfl ?_
      refine VS_pure (P_assign rfl) rfl rfl rfl ?_
      refine VS_nil ?_
      refine QS_then ?_
      refine TS_false rfl ?_
      refine TS_seq ?_
      refine TS_seq ?_
      refine TS_region ?_
      refine VS_pure (df (P_eql rfl rfl) (by omega)) rfl rfl rfl ?_
      refine VS_pure (P_assign rfl) rfl rfl rfl ?_
      refine VS_nil ?_
      refine QS_then ?_
      refine TS_false rfl ?_
      refine TS_region ?_
      refine VS_pure (dt (P_eql rfl rfl) (by assumption)) rfl rfl rfl ?_
      refine VS_pure (P_assign rfl) rfl rfl rfl ?_
      refine VS_nil ?_
      refine QS_then ?_
      refine TS_true rfl ?_
      refine TS_drawB (.step 0 true (.step 1 true (.step 2 true (.step 4 true (.step 5 true (.step 6 true (.step 3 false (.step 7 false (.step 8 true (.step 9 true (.step 10 true (.step 11 true (.step 12 true (.done)))))))))))))) mixed (by kernel_rfl) (fun _ _ _ _ hq => hq) ?_
      refine VBS_pure rfl (P_move rfl) rfl rfl rfl ?_
      refine VBS_pure rfl (P_fieldAddr0 fo32_1 rfl) rfl rfl rfl ?_
      refine VBS_read rfl (S_load sg3 rfl e1) rfl rfl rfl ?_
      refine VBS_pure rfl (P_fieldAddr0 fo32_3 rfl) rfl rfl rfl ?_
      refine VBS_read rfl (S_load sg22 rfl e3) rfl rfl rfl ?_
      refine VBS_read rfl (S_bstr bt22 st9 rfl (by first | rfl | omega) hbr) rfl rfl rfl ?_
      have HA1 : ∀ m', _ := fun m' => rnum_ok (m := m') (A := (some ⟨b2, 0, none⟩)) (c := 1) (n := x.table) (out := [ub x.kind]) (by simp [be8_len])
      unfold outE at HA1
      refine VBS_step rfl ((S_callL cl27 rfl (.cons .here .nil) (fun m' hm he => HA1 m') rfl ?_)) rfl
      rintro _ _ ⟨A1, c1, rfl, rfl⟩
      skip
      have HG : ∀ m', Le (uni m ns) m' → _ := fun m' hm => rtext_ok (m := m') lb A1 c1 ([ub x.kind] ++ be8 x.table) (by simp [be8_len])
      unfold outE at HG
      cases hen : eText x.bytes with
      | none =>
        rw [hen] at HG
        refine VBS_step rfl ((S_callL cl26 rfl (.cons .here .nil) (fun m' hm he => HG m' hm) rfl ?_)) rfl
        rintro _ _ ⟨A9, c9, o9, rfl, rfl, _⟩
        refine VBS_pure rfl (P_move rfl) rfl rfl rfl ?_
        refine VBS_pure rfl (P_extract rfl rfl) rfl rfl rfl ?_
        refine VBS_pure rfl (P_extract rfl rfl) rfl rfl rfl ?_
        refine VBS_pure rfl (P_assign rfl) rfl rfl rfl ?_
        refine VBS_pure rfl (P_assign rfl) rfl rfl rfl ?_
        refine VBS_nil ?_
        refine QS_block ?_
        exact QS_roundO A9 c9 o9 false ⟨rfl, rfl, trivial⟩ (Pick.refl _) ⟨(fun h => by cases h), fun _ => (by rw [eAll, eBody, if_neg (by omega), if_neg (by omega), if_neg (by omega), if_neg (by omega), if_neg (by omega), if_neg (by omega), if_pos (.inr h), hen]; rfl)⟩
      | some ee =>
        rw [hen] at HG
        refine VBS_step rfl ((S_callL cl26 rfl (.cons .here .nil) (fun m' hm he => HG m' hm) rfl ?_)) rfl
        rintro _ _ ⟨A9, c9, o9, rfl, rfl, ho9⟩
        obtain rfl := ho9 _ rfl
        refine VBS_pure rfl (P_move rfl) rfl rfl rfl ?_
        refine VBS_pure rfl (P_extract rfl rfl) rfl rfl rfl ?_
        refine VBS_pure rfl (P_extract rfl rfl) rfl rfl rfl ?_
        refine VBS_pure rfl (P_assign rfl) rfl rfl rfl ?_
        refine VBS_pure rfl (P_assign rfl) rfl rfl rfl ?_
        refine VBS_nil ?_
        refine QS_block ?_
        exact QS_roundO A9 c9 _ true ⟨rfl, rfl, trivial⟩ (Pick.refl _) ⟨(fun _ => (by rw [eAll, eBody, if_neg (by omega), if_neg (by omega), if_neg (by omega), if_neg (by omega), if_neg (by omega), if_neg (by omega), if_pos (.inr h), hen]; simp)), fun h => by cases h⟩
  · intro A k o ok hF
    unfold outE
    cases ok with
    | false =>
      rw [show encX x = none by rw [encX, hF.2 rfl]; rfl]
      refine TS_seq ?_
      refine TS_seq ?_
      refine TS_region ?_
      refine VS_pure (P_move rfl) rfl rfl rfl ?_
      refine VS_pure (P_not rfl) rfl rfl rfl ?_
      refine VS_pure (P_move rfl) rfl rfl rfl ?_
      iterate 3 (refine VS_skip rfl rfl rfl ?_)
      refine VS_pure (P_pick_t rfl rfl) rfl rfl rfl ?_
      refine VS_nil ?_
      refine QS_then ?_
      refine TS_true rfl ?_
      refine TS_seq ?_
      refine TS_region ?_
      refine VS_pure (P_assign rfl) rfl rfl rfl ?_
      refine VS_pure (P_assign rfl) rfl rfl rfl ?_
      refine VS_nil ?_
      refine QS_then ?_
      refine TS_ret ?_
      refine QS_then_ret ?_
      exact QS_retW hle [_, _] ⟨rfl, rfl, trivial⟩ [] (Pick.nil _) (.inr ⟨rfl, rfl, rfl⟩)
    | true =>
      by_cases hlen : o.length ≤ 4096
      · rw [show encX x = some o by rw [encX, hF.1 rfl, Option.bind_some, if_pos hlen]]
        refine TS_seq ?_
        refine TS_seq ?_
        refine TS_region ?_
        refine VS_pure (P_move rfl) rfl rfl rfl ?_
        refine VS_pure (P_not rfl) rfl rfl rfl ?_
        refine VS_pure (P_move rfl) rfl rfl rfl ?_
        refine VS_pure (P_move rfl) rfl rfl rfl ?_
        refine VS_pure (P_len il22 rfl) rfl rfl rfl ?_
        refine VS_pure (df (P_gtr rfl rfl) (by omega)) rfl rfl rfl ?_
        refine VS_pure (P_pick_f rfl rfl) rfl rfl rfl ?_
        refine VS_nil ?_
        refine QS_then ?_
        refine TS_false rfl ?_
        refine TS_skip ?_
        refine QS_then ?_
        refine TS_seq ?_
        refine TS_region ?_
        refine VS_pure (P_move rfl) rfl rfl rfl ?_
        refine VS_pure (P_assign rfl) rfl rfl rfl ?_
        refine VS_pure (P_assign rfl) rfl rfl rfl ?_
        refine VS_nil ?_
        refine QS_then ?_
        refine TS_ret ?_
        exact QS_retW hle [_, _] ⟨rfl, rfl, trivial⟩ (outE A k o) (Pick.refl _) (.inl ⟨o, A, k, rfl, rfl, rfl⟩)
      · rw [show encX x = none by rw [encX, hF.1 rfl, Option.bind_some, if_neg hlen]]
        refine TS_seq ?_
        refine TS_seq ?_
        refine TS_region ?_
        refine VS_pure (P_move rfl) rfl rfl rfl ?_
        refine VS_pure (P_not rfl) rfl rfl rfl ?_
        refine VS_pure (P_move rfl) rfl rfl rfl ?_
        refine VS_pure (P_move rfl) rfl rfl rfl ?_
        refine VS_pure (P_len il22 rfl) rfl rfl rfl ?_
        refine VS_pure (dt (P_gtr rfl rfl) (by omega)) rfl rfl rfl ?_
        refine VS_pure (P_pick_f rfl rfl) rfl rfl rfl ?_
        refine VS_nil ?_
        refine QS_then ?_
        refine TS_true rfl ?_
        refine TS_seq ?_
        refine TS_region ?_
        refine VS_pure (P_assign rfl) rfl rfl rfl ?_
        refine VS_pure (P_assign rfl) rfl rfl rfl ?_
        refine VS_nil ?_
        refine QS_then ?_
        refine TS_ret ?_
        refine QS_then_ret ?_
        exact QS_retW hle [_, _] ⟨rfl, rfl, trivial⟩ [] (Pick.nil _) (.inr ⟨rfl, rfl, rfl⟩)
end Go.Proofs.Ytbpihgphicmdiaa
