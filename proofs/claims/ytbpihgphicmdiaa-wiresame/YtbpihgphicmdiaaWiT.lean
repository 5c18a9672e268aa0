/- A part of the proof: contracts of functions of the program. No condition. -/
import Derived.Test.YtbpihgphicmdiaaWiS
namespace Go.Proofs.Ytbpihgphicmdiaa
open Go.Eng Wi
set_option maxRecDepth 100000
theorem ePair_some : ePair = fun p => some (be8 p.1 ++ be8 p.2) := rfl
theorem flat_pair {xs : List (Int × Int)} : (xs.flatMap fun p => be8 p.1 ++ be8 p.2).length = 16 * xs.length := by
  induction xs with
  | nil => rfl
  | cons x r ih => rw [List.flatMap_cons, List.length_append, ih, List.length_append, be8_len, be8_len, List.length_cons]; omega
theorem flat_pV {xs : List (Int × Int)} : (xs.flatMap pV).length = 2 * xs.length := by
  induction xs with
  | nil => rfl
  | cons x r ih => rw [List.flatMap_cons, List.length_append, ih, List.length_cons]; simp only [pV, List.length_cons, List.length_nil]; omega
theorem eAct_op {x : Acn} (h : x.op < 0) : eAct x = none := by unfold eAct wSmall; rw [if_neg (by omega)]; rfl
theorem eAct_ids {x : Acn} (h : encMany eNum x.ids = none) : eAct x = none := by
  unfold eAct
  rw [h]
  cases wSmall x.op <;> rfl
theorem eAct_pairs {x : Acn} (h : encMany ePair x.pairs = none) : eAct x = none := by
  unfold eAct
  rw [h]
  cases wSmall x.op <;> cases encMany eNum x.ids <;> rfl
theorem eAct_some {x : Acn} {i p : List UInt8} (h0 : ¬ x.op < 0) (hi : encMany eNum x.ids = some i) (hp : encMany ePair x.pairs = some p) : eAct x = some ([ub x.op] ++ be8 x.side ++ be8 x.place ++ be8 x.target ++ i ++ p) := by
  unfold eAct wSmall
  rw [if_pos (by omega), hi, hp]
  simp
set_option maxHeartbeats 8000000 in
theorem raction_ok {m : Mp} {lx : List Value} {x : Acn} (hx : ActR m lx x) (h1 : I8 x.op) (hi : x.ids.length ≤ 140737488355328) (hp : x.pairs.length ≤ 140737488355328) : GC 29 [.agg lx.toArray] m 549700000000 (eAct x) := by
  obtain ⟨v, w, rfl, xi, xp⟩ := hx
  intro A c out hl
  have xi2 := xi
  obtain ⟨ai, ki, rfl, _, _⟩ := xi2
  obtain ⟨ap, kp, rfl, hrd, hmp⟩ := xp
  refine CS_of [.tmp 4, .tmp 5] Try.func29 rfl rfl rfl ?_
  unfold outE
  skip
  refine TS_seq ?_
  refine TS_region ?_
  refine VS_step (S_box rfl rfl (fun b1 => ?_)) rfl
  refine VS_pure (P_assign rfl) rfl rfl rfl ?_
  refine VS_pure (P_assign rfl) rfl rfl rfl ?_
  refine VS_nil ?_
  refine QS_then ?_
  refine TS_seq ?_
  refine TS_absorb .here (fun ns hi1 _ hd1 => ?_)
  have e0 := mc_abs (k := 0) hi1 hd1 rfl
  have e1 := mc_abs (k := 1) hi1 hd1 rfl
  have e2 := mc_abs (k := 2) hi1 hd1 rfl
  have e3 := mc_abs (k := 3) hi1 hd1 rfl
  have e4 := mc_abs (k := 4) hi1 hd1 rfl
  have e5 := mc_abs (k := 5) hi1 hd1 rfl
  have hrd2 := hrd.mono (uni_l m ns)
  refine TS_region ?_
  refine VS_pure (P_move rfl) rfl rfl rfl ?_
  refine VS_pure (P_fieldAddr0 fo28_0 rfl) rfl rfl rfl ?_
  refine VS_read (S_load sg24 rfl e0) rfl rfl rfl ?_
  refine VS_pure (P_conv_int us24 ik5 rfl rfl) rfl rfl rfl ?_
  refine VS_step (S_buildSlice sl22 rfl rfl rfl rfl (fun b2 => ?_)) rfl
  refine VS_step (S_append sl22 rfl rfl rfl rfl (.here) (fun _ _ => (.there (.here))) rfl rfl (by first | omega | (simp only [maxLen]; omega)) (by omega) rfl (fun A1 c1 => ?_)) rfl
  refine VS_pure (P_assign rfl) rfl rfl rfl ?_
  refine VS_nil ?_
  refine QS_then ?_
  refine TS_seq ?_
  rw [ub_spec x.op]
  refine TS_pick (outE A1 c1 (out ++ [ub x.op])) (by unfold outE; rw [own_app]; exact .cons (.there .here) (.nil _)) ?_
  refine TS_keep [(0, .slice A1 (out ++ [ub x.op]).length c1), (3, .pointer (some ⟨b1, 0, none⟩))] ⟨by rw [List.length_append]; rfl, rfl, trivial⟩ ?_
  unfold outE
  refine TS_drawB (.step 0 true (.step 1 true (.step 2 true (.step 4 true (.step 5 true (.step 7 true (.step 8 true (.step 3 false (.step 6 false (.step 9 false (.step 10 true (.done)))))))))))) mixed (by kernel_rfl) (fun _ _ _ _ hq => hq) ?_
  refine VBS_pure rfl (P_move rfl) rfl rfl rfl ?_
  refine VBS_pure rfl (P_fieldAddr0 fo28_1 rfl) rfl rfl rfl ?_
  refine VBS_read rfl (S_load sg3 rfl e1) rfl rfl rfl ?_
  refine VBS_pure rfl (P_fieldAddr0 fo28_2 rfl) rfl rfl rfl ?_
  refine VBS_read rfl (S_load sg3 rfl e2) rfl rfl rfl ?_
  refine VBS_pure rfl (P_fieldAddr0 fo28_3 rfl) rfl rfl rfl ?_
  refine VBS_read rfl (S_load sg3 rfl e3) rfl rfl rfl ?_
  have H1 : ∀ m', _ := fun m' => rnum_ok (m := m') (A := A1) (c := c1) (n := x.side) (out := out ++ [ub x.op]) (by simp; omega)
  unfold outE at H1
  refine VBS_step rfl ((S_callL cl27 rfl (.cons .here .nil) (fun m' hm he => H1 m') rfl ?_)) rfl
  rintro _ _ ⟨A2, c2, rfl, rfl⟩
  skip
  have H2 : ∀ m', _ := fun m' => rnum_ok (m := m') (A := A2) (c := c2) (n := x.place) (out := out ++ [ub x.op] ++ be8 x.side) (by simp [be8_len]; omega)
  unfold outE at H2
  refine VBS_step rfl ((S_callL cl27 rfl (.cons .here .nil) (fun m' hm he => H2 m') rfl ?_)) rfl
  rintro _ _ ⟨A3, c3, rfl, rfl⟩
  skip
  have H3 : ∀ m', _ := fun m' => rnum_ok (m := m') (A := A3) (c := c3) (n := x.target) (out := out ++ [ub x.op] ++ be8 x.side ++ be8 x.place) (by simp [be8_len]; omega)
  unfold outE at H3
  refine VBS_step rfl ((S_callL cl27 rfl (.cons .here .nil) (fun m' hm he => H3 m') rfl ?_)) rfl
  rintro _ _ ⟨A4, c4, rfl, rfl⟩
  generalize ho3 : out ++ [ub x.op] ++ be8 x.side ++ be8 x.place ++ be8 x.target = o3
  have hl3 : o3.length = out.length + 25 := by rw [← ho3]; simp [be8_len]
  refine VBS_pure rfl (P_assign rfl) rfl rfl rfl ?_
  refine VBS_nil ?_
  refine QS_then ?_
  refine TS_seq ?_
  refine TS_region ?_
  refine VS_pure (P_move rfl) rfl rfl rfl ?_
  refine VS_pure (P_fieldAddr0 fo28_4 rfl) rfl rfl rfl ?_
  refine VS_read (S_load sg25 rfl e4) rfl rfl rfl ?_
  have H4 : ∀ m', Le m m' → _ := fun m' hm => rnums_ok (m := m') (xi.mono hm) hi A4 c4 o3 (by omega)
  unfold outE at H4
  cases hids : encMany eNum x.ids with
  | none =>
    rw [hids] at H4
    rw [eAct_ids hids]
    refine VS_step ((S_callL cl54 rfl (.cons .here .nil) (fun m' hm he => H4 m' ((uni_l _ _).trans hm)) rfl ?_)) rfl
    rintro _ _ ⟨A5, c5, o5, rfl, rfl, _⟩
    refine VS_pure (P_move rfl) rfl rfl rfl ?_
    refine VS_pure (P_extract rfl rfl) rfl rfl rfl ?_
    refine VS_pure (P_extract rfl rfl) rfl rfl rfl ?_
    refine VS_pure (P_assign rfl) rfl rfl rfl ?_
    refine VS_pure (P_assign rfl) rfl rfl rfl ?_
    refine VS_nil ?_
    refine QS_then ?_
    refine TS_seq ?_
    refine TS_seq ?_
    refine TS_region ?_
    refine VS_pure (P_move rfl) rfl rfl rfl ?_
    refine VS_pure (P_not rfl) rfl rfl rfl ?_
    refine VS_nil ?_
    refine QS_then ?_
    refine TS_true rfl ?_
    refine TS_seq ?_
    refine TS_region ?_
    refine VS_pure (P_move rfl) rfl rfl rfl ?_
    refine VS_pure (P_assign rfl) rfl rfl rfl ?_
    refine VS_pure (P_assign rfl) rfl rfl rfl ?_
    refine VS_nil ?_
    refine QS_then ?_
    refine TS_ret ?_
    refine QS_then_ret ?_
    exact QS_retW (uni_l _ _) [_, _] ⟨rfl, rfl, trivial⟩ (outE A5 c5 o5) (Pick.refl _) ⟨A5, c5, o5, rfl, rfl, fun e h => by cases h⟩
  | some ei =>
    rw [hids] at H4
    refine VS_step ((S_callL cl54 rfl (.cons .here .nil) (fun m' hm he => H4 m' ((uni_l _ _).trans hm)) rfl ?_)) rfl
    rintro _ _ ⟨A5, c5, o5, rfl, rfl, ho5⟩
    obtain rfl := ho5 _ rfl
    have hli := encMany_len (K := 8) (fun _ _ _ h => eNum_len h) hids
    have hl5 : (o3 ++ ei).length ≤ out.length + 25 + 2 + 65535 * 8 := by rw [List.length_append]; omega
    generalize ho5 : o3 ++ ei = o5 at hl5
    refine VS_pure (P_move rfl) rfl rfl rfl ?_
    refine VS_pure (P_extract rfl rfl) rfl rfl rfl ?_
    refine VS_pure (P_extract rfl rfl) rfl rfl rfl ?_
    refine VS_pure (P_assign rfl) rfl rfl rfl ?_
    refine VS_pure (P_assign rfl) rfl rfl rfl ?_
    refine VS_nil ?_
    refine QS_then ?_
    refine TS_seq ?_
    refine TS_seq ?_
    refine TS_region ?_
    refine VS_pure (P_move rfl) rfl rfl rfl ?_
    refine VS_pure (P_not rfl) rfl rfl rfl ?_
    refine VS_nil ?_
    refine QS_then ?_
    refine TS_false rfl ?_
    refine TS_skip ?_
    refine QS_then ?_
    refine TS_seq ?_
    refine TS_region ?_
    refine VS_pure (P_move rfl) rfl rfl rfl ?_
    refine VS_pure (P_fieldAddr0 fo28_5 rfl) rfl rfl rfl ?_
    refine VS_read (S_load sg26 rfl e5) rfl rfl rfl ?_
    refine VS_pure (P_len il26 rfl) rfl rfl rfl ?_
    have H5 : ∀ m', _ := fun m' => rtwo_ok (m := m') (n := x.pairs.length) A5 c5 o5 (by omega)
    unfold outE at H5
    by_cases hn : x.pairs.length ≤ 65535
    · rw [show eSz x.pairs.length = some (sz2 x.pairs.length) from if_pos hn] at H5
      have hpe : encMany ePair x.pairs = some (sz2 x.pairs.length ++ x.pairs.flatMap fun p => be8 p.1 ++ be8 p.2) := by rw [ePair_some, encMany_eq, if_pos hn]
      refine VS_step ((S_callL cl28 rfl (.cons .here .nil) (fun m' hm he => H5 m') rfl ?_)) rfl
      rintro _ _ ⟨A6, c6, o6, rfl, rfl, ho6⟩
      obtain rfl := ho6 _ rfl
      refine VS_pure (P_move rfl) rfl rfl rfl ?_
      refine VS_pure (P_extract rfl rfl) rfl rfl rfl ?_
      refine VS_pure (P_extract rfl rfl) rfl rfl rfl ?_
      refine VS_pure (P_assign rfl) rfl rfl rfl ?_
      refine VS_pure (P_assign rfl) rfl rfl rfl ?_
      refine VS_nil ?_
      refine QS_then ?_
      refine TS_seq ?_
      refine TS_seq ?_
      refine TS_region ?_
      refine VS_pure (P_assign rfl) rfl rfl rfl ?_
      refine VS_nil ?_
      refine QS_then ?_
      refine TS_block ?_
      refine TS_loop3 (fun j A c => [(0, .slice A (o5 ++ sz2 x.pairs.length ++ (x.pairs.take j).flatMap fun p => be8 p.1 ++ be8 p.2).length c), (3, .pointer (some ⟨b1, 0, none⟩)), (6, .bool true), (7, .int .i64 (j : Nat))]) (fun j A c => outE A c (o5 ++ sz2 x.pairs.length ++ (x.pairs.take j).flatMap fun p => be8 p.1 ++ be8 p.2)) (fun j => j ≤ x.pairs.length) (fun j => x.pairs.length - j) 0 A6 c6 ⟨by simp only [List.take_zero, List.flatMap_nil, List.append_nil]; rfl, rfl, rfl, rfl, trivial⟩ (by simp only [List.take_zero, List.flatMap_nil, List.append_nil]; exact Pick.refl _) (Nat.zero_le _) ?_
      intro j A7 c7 hj
      unfold outE
      have hlen : (o5 ++ sz2 x.pairs.length ++ (x.pairs.take j).flatMap fun p => be8 p.1 ++ be8 p.2).length ≤ o5.length + 2 + 16 * 65535 := by rw [List.length_append, List.length_append, sz2_len, flat_pair, List.length_take]; omega
      by_cases hlt : j < x.pairs.length
      · have hrow := hrd2
        have hx0 : mc (uni m ns) (((sa ap).add (j * 2)).add 0) = some (iV x.pairs[j].1) := by
          rw [add_add]
          exact hrd2.at_ (by rw [List.flatMap_def, flat_get (q := 2) (by intro l hl; obtain ⟨p, _, rfl⟩ := List.mem_map.1 hl; rfl) j 0 (by omega)]; simp [hlt, pV])
        have hx1 : mc (uni m ns) (((sa ap).add (j * 2)).add 1) = some (iV x.pairs[j].2) := by
          rw [add_add]
          exact hrd2.at_ (by rw [List.flatMap_def, flat_get (q := 2) (by intro l hl; obtain ⟨p, _, rfl⟩ := List.mem_map.1 hl; rfl) j 1 (by omega)]; simp [hlt, pV])
        have hA : ap.isSome = true := hrd2.isSome (by rw [flat_pV]; omega)
        refine TS_seq ?_
        refine TS_seq ?_
        refine TS_region ?_
        refine VS_pure (P_move rfl) rfl rfl rfl ?_
        refine VS_pure (P_fieldAddr0 fo28_5 rfl) rfl rfl rfl ?_
        refine VS_read (S_load sg26 rfl e5) rfl rfl rfl ?_
        refine VS_pure (P_len il26 rfl) rfl rfl rfl ?_
        refine VS_pure (dt (P_lss rfl rfl) (by omega)) rfl rfl rfl ?_
        refine VS_pure (P_move rfl) rfl rfl rfl ?_
        refine VS_pure (P_move rfl) rfl rfl rfl ?_
        refine VS_pure (P_pick_t rfl rfl) rfl rfl rfl ?_
        refine VS_nil ?_
        refine QS_then ?_
        refine TS_true rfl ?_
        refine TS_skip ?_
        refine QS_then ?_
        refine TS_seq ?_
        refine TS_block ?_
        refine TS_drawB (.step 0 true (.step 1 true (.step 2 true (.step 3 true (.step 4 true (.step 5 true (.step 6 true (.step 8 true (.step 9 true (.step 10 true (.step 11 true (.step 12 true (.step 13 true (.step 7 false (.step 14 false (.step 15 true (.done))))))))))))))))) mixed (by kernel_rfl) (fun _ _ _ _ hq => hq) ?_
        refine VBS_pure rfl (P_move rfl) rfl rfl rfl ?_
        refine VBS_pure rfl (P_fieldAddr0 fo28_5 rfl) rfl rfl rfl ?_
        refine VBS_read rfl (S_load sg26 rfl e5) rfl rfl rfl ?_
        refine VBS_pure rfl (P_move rfl) rfl rfl rfl ?_
        refine VBS_pure rfl (P_indexAddrN ez26 rfl rfl hA (by omega)) rfl rfl rfl ?_
        refine VBS_pure rfl (P_fieldAddr fo132_0 rfl) rfl rfl rfl ?_
        refine VBS_read rfl (S_load sg3 rfl hx0) rfl rfl rfl ?_
        refine VBS_pure rfl (P_fieldAddr0 fo28_5 rfl) rfl rfl rfl ?_
        refine VBS_read rfl (S_load sg26 rfl e5) rfl rfl rfl ?_
        refine VBS_pure rfl (P_move rfl) rfl rfl rfl ?_
        refine VBS_pure rfl (P_indexAddrN ez26 rfl rfl hA (by omega)) rfl rfl rfl ?_
        refine VBS_pure rfl (P_fieldAddr fo132_1 rfl) rfl rfl rfl ?_
        refine VBS_read rfl (S_load sg3 rfl hx1) rfl rfl rfl ?_
        have H7 : ∀ m', _ := fun m' => rnum_ok (m := m') (A := A7) (c := c7) (n := x.pairs[j].1) (out := o5 ++ sz2 x.pairs.length ++ (x.pairs.take j).flatMap fun p => be8 p.1 ++ be8 p.2) (by omega)
        unfold outE at H7
        refine VBS_step rfl ((S_callL cl27 rfl (.cons .here .nil) (fun m' hm he => H7 m') rfl ?_)) rfl
        rintro _ _ ⟨A8, c8, rfl, rfl⟩
        skip
        have H8 : ∀ m', _ := fun m' => rnum_ok (m := m') (A := A8) (c := c8) (n := x.pairs[j].2) (out := (o5 ++ sz2 x.pairs.length ++ (x.pairs.take j).flatMap fun p => be8 p.1 ++ be8 p.2) ++ be8 x.pairs[j].1) (by rw [List.length_append, be8_len]; omega)
        unfold outE at H8
        refine VBS_step rfl ((S_callL cl27 rfl (.cons .here .nil) (fun m' hm he => H8 m') rfl ?_)) rfl
        rintro _ _ ⟨A9, c9, rfl, rfl⟩
        refine VBS_pure rfl (P_assign rfl) rfl rfl rfl ?_
        refine VBS_nil ?_
        refine QS_block ?_
        refine QS_then ?_
        refine TS_region ?_
        refine VS_pure (P_move rfl) rfl rfl rfl ?_
        refine VS_pure (P_add rfl rfl (w64 (by omega) (by omega))) rfl rfl rfl ?_
        refine VS_pure (P_assign rfl) rfl rfl rfl ?_
        refine VS_nil ?_
        refine QS_round3 (j + 1) A9 c9 ⟨?_, rfl, rfl, rfl, trivial⟩ ?_ (by omega) (by omega)
        · rw [flat_take hlt, ← List.append_assoc, ← List.append_assoc]; rfl
        · rw [flat_take hlt, ← List.append_assoc, ← List.append_assoc]
          exact .cons .here (.nil _)
      · have e : j = x.pairs.length := by omega
        subst e
        rw [List.take_length]
        by_cases hop : x.op < 0
        · rw [eAct_op hop]
          refine TS_seq ?_
          refine TS_seq ?_
          refine TS_region ?_
          refine VS_pure (P_move rfl) rfl rfl rfl ?_
          refine VS_pure (P_fieldAddr0 fo28_5 rfl) rfl rfl rfl ?_
          refine VS_read (S_load sg26 rfl e5) rfl rfl rfl ?_
          refine VS_pure (P_len il26 rfl) rfl rfl rfl ?_
          refine VS_pure (df (P_lss rfl rfl) (by omega)) rfl rfl rfl ?_
          refine VS_pure (P_move rfl) rfl rfl rfl ?_
          refine VS_skip rfl rfl rfl ?_
          refine VS_pure (P_pick_f rfl rfl) rfl rfl rfl ?_
          refine VS_nil ?_
          refine QS_then ?_
          refine TS_false rfl ?_
          refine TS_exit ?_
          refine QS_then_exit ?_
          refine QS_round3_exit ?_
          refine QS_block_here ?_
          refine QS_then ?_
          refine TS_seq ?_
          refine TS_drawB (.step 0 true (.step 1 true (.step 2 true (.step 3 true (.step 4 true (.step 5 true (.step 6 true (.step 7 true (.step 8 true (.done)))))))))) mixed (by kernel_rfl) (fun _ _ _ _ hq => hq) ?_
          iterate 3 (refine VBS_pure rfl (P_move rfl) rfl rfl rfl ?_)
          refine VBS_pure rfl (P_fieldAddr0 fo28_0 rfl) rfl rfl rfl ?_
          refine VBS_read rfl (S_load sg24 rfl e0) rfl rfl rfl ?_
          refine VBS_pure rfl (df (P_geq rfl rfl) (by omega)) rfl rfl rfl ?_
          refine VBS_pure rfl (P_pick_t rfl rfl) rfl rfl rfl ?_
          refine VBS_pure rfl (P_assign rfl) rfl rfl rfl ?_
          refine VBS_pure rfl (P_assign rfl) rfl rfl rfl ?_
          refine VBS_nil ?_
          refine QS_then ?_
          refine TS_ret ?_
          exact QS_retW (uni_l _ _) [_, _] ⟨rfl, rfl, trivial⟩ (outE A7 c7 _) (Pick.refl _) ⟨A7, c7, _, rfl, rfl, fun e h => by cases h⟩
        · rw [eAct_some hop hids hpe]
          refine TS_seq ?_
          refine TS_seq ?_
          refine TS_region ?_
          refine VS_pure (P_move rfl) rfl rfl rfl ?_
          refine VS_pure (P_fieldAddr0 fo28_5 rfl) rfl rfl rfl ?_
          refine VS_read (S_load sg26 rfl e5) rfl rfl rfl ?_
          refine VS_pure (P_len il26 rfl) rfl rfl rfl ?_
          refine VS_pure (df (P_lss rfl rfl) (by omega)) rfl rfl rfl ?_
          refine VS_pure (P_move rfl) rfl rfl rfl ?_
          refine VS_skip rfl rfl rfl ?_
          refine VS_pure (P_pick_f rfl rfl) rfl rfl rfl ?_
          refine VS_nil ?_
          refine QS_then ?_
          refine TS_false rfl ?_
          refine TS_exit ?_
          refine QS_then_exit ?_
          refine QS_round3_exit ?_
          refine QS_block_here ?_
          refine QS_then ?_
          refine TS_seq ?_
          refine TS_drawB (.step 0 true (.step 1 true (.step 2 true (.step 3 true (.step 4 true (.step 5 true (.step 6 true (.step 7 true (.step 8 true (.done)))))))))) mixed (by kernel_rfl) (fun _ _ _ _ hq => hq) ?_
          iterate 3 (refine VBS_pure rfl (P_move rfl) rfl rfl rfl ?_)
          refine VBS_pure rfl (P_fieldAddr0 fo28_0 rfl) rfl rfl rfl ?_
          refine VBS_read rfl (S_load sg24 rfl e0) rfl rfl rfl ?_
          refine VBS_pure rfl (dt (P_geq rfl rfl) (by omega)) rfl rfl rfl ?_
          refine VBS_pure rfl (P_pick_t rfl rfl) rfl rfl rfl ?_
          refine VBS_pure rfl (P_assign rfl) rfl rfl rfl ?_
          refine VBS_pure rfl (P_assign rfl) rfl rfl rfl ?_
          refine VBS_nil ?_
          refine QS_then ?_
          refine TS_ret ?_
          exact QS_retW (uni_l _ _) [_, _] ⟨rfl, rfl, trivial⟩ (outE A7 c7 _) (Pick.refl _) ⟨A7, c7, _, rfl, rfl, fun e h => by cases h; subst ho5; subst ho3; simp⟩
    · rw [show eSz x.pairs.length = none from if_neg hn] at H5
      have hpe : encMany ePair x.pairs = none := by rw [ePair_some, encMany_eq, if_neg hn]
      rw [eAct_pairs hpe]
      refine VS_step ((S_callL cl28 rfl (.cons .here .nil) (fun m' hm he => H5 m') rfl ?_)) rfl
      rintro _ _ ⟨A6, c6, o6, rfl, rfl, _⟩
      refine VS_pure (P_move rfl) rfl rfl rfl ?_
      refine VS_pure (P_extract rfl rfl) rfl rfl rfl ?_
      refine VS_pure (P_extract rfl rfl) rfl rfl rfl ?_
      refine VS_pure (P_assign rfl) rfl rfl rfl ?_
      refine VS_pure (P_assign rfl) rfl rfl rfl ?_
      refine VS_nil ?_
      refine QS_then ?_
      refine TS_seq ?_
      refine TS_seq ?_
      refine TS_region ?_
      refine VS_pure (P_assign rfl) rfl rfl rfl ?_
      refine VS_nil ?_
      refine QS_then ?_
      refine TS_block ?_
      refine TS_loop3 (fun j A c => [(0, .slice A6 o6.length c6), (3, .pointer (some ⟨b1, 0, none⟩)), (6, .bool false), (7, .int .i64 (j : Nat))]) (fun j A c => outE A6 c6 o6) (fun j => j = 0) (fun j => 1 - j) 0 A6 c6 ⟨rfl, rfl, rfl, rfl, trivial⟩ (Pick.refl _) rfl ?_
      rintro j A7 c7 rfl
      unfold outE
      refine TS_seq ?_
      refine TS_seq ?_
      refine TS_region ?_
      refine VS_pure (P_move rfl) rfl rfl rfl ?_
      refine VS_pure (P_fieldAddr0 fo28_5 rfl) rfl rfl rfl ?_
      refine VS_read (S_load sg26 rfl e5) rfl rfl rfl ?_
      refine VS_pure (P_len il26 rfl) rfl rfl rfl ?_
      refine VS_pure (dt (P_lss rfl rfl) (by omega)) rfl rfl rfl ?_
      refine VS_pure (P_move rfl) rfl rfl rfl ?_
      refine VS_pure (P_move rfl) rfl rfl rfl ?_
      refine VS_pure (P_pick_t rfl rfl) rfl rfl rfl ?_
      refine VS_nil ?_
      refine QS_then ?_
      refine TS_false rfl ?_
      refine TS_exit ?_
      refine QS_then_exit ?_
      refine QS_round3_exit ?_
      refine QS_block_here ?_
      refine QS_then ?_
      refine TS_seq ?_
      refine TS_drawB (.step 0 true (.step 1 true (.step 2 true (.step 3 true (.step 4 true (.step 5 true (.step 6 true (.step 7 true (.step 8 true (.done)))))))))) mixed (by kernel_rfl) (fun _ _ _ _ hq => hq) ?_
      iterate 3 (refine VBS_pure rfl (P_move rfl) rfl rfl rfl ?_)
      iterate 3 (refine VBS_skip rfl rfl rfl rfl ?_)
      refine VBS_pure rfl (P_pick_f rfl rfl) rfl rfl rfl ?_
      refine VBS_pure rfl (P_assign rfl) rfl rfl rfl ?_
      refine VBS_pure rfl (P_assign rfl) rfl rfl rfl ?_
      refine VBS_nil ?_
      refine QS_then ?_
      refine TS_ret ?_
      exact QS_retW (uni_l _ _) [_, _] ⟨rfl, rfl, trivial⟩ (outE A6 c6 o6) (Pick.refl _) ⟨A6, c6, o6, rfl, rfl, fun e h => by cases h⟩
end Go.Proofs.Ytbpihgphicmdiaa
