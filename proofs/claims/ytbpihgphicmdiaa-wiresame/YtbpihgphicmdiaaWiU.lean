/- A part of the proof: contracts of functions of the program. No condition. -/
import Derived.Test.YtbpihgphicmdiaaWiT
namespace Go.Proofs.Ytbpihgphicmdiaa
open Go.Eng Wi
set_option maxRecDepth 100000
theorem eEvt_kind {x : Evt} (h : x.kind < 0) : eEvt x = none := by unfold eEvt wSmall; rw [if_neg (by omega)]; rfl
theorem eEvt_cards {x : Evt} (h : encMany eNum x.cards = none) : eEvt x = none := by
  unfold eEvt
  rw [h]
  cases wSmall x.kind <;> rfl
theorem eEvt_some {x : Evt} {i : List UInt8} (h0 : ¬ x.kind < 0) (hi : encMany eNum x.cards = some i) : eEvt x = some ([ub x.kind] ++ be8 x.side ++ be8 x.card ++ be8 x.id ++ be8 x.other ++ be8 x.n ++ i) := by
  unfold eEvt wSmall
  rw [if_pos (by omega), hi]
  simp
def badOut (out : List UInt8) (o : Option (List UInt8)) : List UInt8 := o.getD out
set_option maxHeartbeats 8000000 in
theorem revents_ok {m : Mp} {v : Value} {xs : List Evt} (hv : SlE m v xs) (hb : xs.length ≤ 140737488355328) (hc : ∀ x ∈ xs, x.cards.length ≤ 140737488355328) : GC 30 [v] m 400000000000 (encMany eEvt xs) := by
  obtain ⟨a, k, vs, rfl, hrd, hvl, hmax, hg⟩ := hv
  intro A c out hl
  refine CS_of [.tmp 4, .tmp 5] Try.func30 rfl rfl rfl ?_
  unfold outE
  skip
  by_cases hn : xs.length ≤ 65535
  · have H : ∀ m', _ := fun m' => rtwo_ok (m := m') (n := xs.length) A c out (by omega)
    rw [show eSz xs.length = some (sz2 xs.length) from if_pos hn] at H
    unfold outE at H
    refine TS_seq ?_
    refine TS_region ?_
    refine VS_pure (P_assign rfl) rfl rfl rfl ?_
    refine VS_pure (P_assign rfl) rfl rfl rfl ?_
    refine VS_nil ?_
    refine QS_then ?_
    refine TS_seq ?_
    refine TS_region ?_
    refine VS_pure (P_move rfl) rfl rfl rfl ?_
    refine VS_pure (P_move rfl) rfl rfl rfl ?_
    refine VS_pure (P_len il30 rfl) rfl rfl rfl ?_
    refine VS_step ((S_callL cl28 rfl (.cons .here .nil) (fun m' hm he => H m') rfl ?_)) rfl
    rintro _ _ ⟨A1, c1, out1, rfl, rfl, hout⟩
    obtain rfl := hout _ rfl
    refine VS_pure (P_move rfl) rfl rfl rfl ?_
    refine VS_pure (P_extract rfl rfl) rfl rfl rfl ?_
    refine VS_pure (P_extract rfl rfl) rfl rfl rfl ?_
    refine VS_pure (P_assign rfl) rfl rfl rfl ?_
    refine VS_pure (P_assign rfl) rfl rfl rfl ?_
    refine VS_nil ?_
    refine QS_then ?_
    refine TS_seq ?_
    refine TS_seq ?_
    refine TS_region ?_
    refine VS_pure (P_assign rfl) rfl rfl rfl ?_
    refine VS_nil ?_
    refine QS_then ?_
    refine TS_block ?_
    generalize ho0 : out ++ sz2 xs.length = o0
    have hl0 : o0.length = out.length + 2 := by rw [← ho0, List.length_append, sz2_len]
    refine TS_loop4 (β := Option (List UInt8)) (fun j A c b => [(0, .slice A (b.getD (o0 ++ (encL eEvt (xs.take j)).getD [])).length c), (1, .slice a xs.length k), (6, .bool b.isNone), (7, .int .i64 (j : Nat))]) (fun j A c b => outE A c (b.getD (o0 ++ (encL eEvt (xs.take j)).getD []))) (fun j b => j ≤ xs.length ∧ (b.isSome = true → encMany eEvt xs = none) ∧ (b = none → (encL eEvt (xs.take j)).isSome = true)) (fun j => xs.length - j) 0 A1 c1 none ⟨by simp only [List.take_zero, encL, Option.getD_some, Option.getD_none, List.append_nil]; rfl, rfl, rfl, rfl, trivial⟩ (by simp only [List.take_zero, encL, Option.getD_some, Option.getD_none, List.append_nil]; exact Pick.refl _) ⟨Nat.zero_le _, (fun h => by cases h), fun _ => rfl⟩ ?_
    rintro j A2 c2 (_ | bad) ⟨hj, hbad, hok⟩
    · obtain ⟨ej, hej⟩ := Option.isSome_iff_exists.1 (hok rfl)
      rw [hej]
      unfold outE
      simp only [Option.getD_some, Option.getD_none, Option.isNone_none]
      by_cases hlt : j < xs.length
      · obtain ⟨l, hl1, hat, hA⟩ := SlE_at hrd hvl hg hlt
        obtain ⟨vc, rfl, hcs⟩ := hl1
        have hcs2 := hcs
        obtain ⟨ac, kc, rfl, _, _⟩ := hcs2
        have hcb := hc _ (List.getElem_mem hlt)
        have hle : ej.length ≤ 65535 * 524323 := by
          have h1 := encL_len (K := 524323) (fun x _ e h => eEvt_len h) hej
          rw [List.length_take] at h1
          exact Nat.le_trans h1 (Nat.mul_le_mul_right 524323 (show min j xs.length ≤ 65535 by omega))
        generalize ho1 : o0 ++ ej = o1
        have hl1 : o1.length ≤ out.length + 2 + 65535 * 524323 := by rw [← ho1, List.length_append]; omega
        refine TS_seq ?_
        refine TS_seq ?_
        refine TS_region ?_
        refine VS_pure (P_move rfl) rfl rfl rfl ?_
        refine VS_pure (P_move rfl) rfl rfl rfl ?_
        refine VS_pure (P_len il30 rfl) rfl rfl rfl ?_
        refine VS_pure (dt (P_lss rfl rfl) (by omega)) rfl rfl rfl ?_
        refine VS_pure (P_move rfl) rfl rfl rfl ?_
        refine VS_pure (P_move rfl) rfl rfl rfl ?_
        refine VS_pure (P_pick_t rfl rfl) rfl rfl rfl ?_
        refine VS_nil ?_
        refine QS_then ?_
        refine TS_true rfl ?_
        refine TS_skip ?_
        refine QS_then ?_
        refine TS_seq ?_
        refine TS_block ?_
        refine TS_seq ?_
        refine TS_region ?_
        refine VS_pure (P_move rfl) rfl rfl rfl ?_
        refine VS_pure (P_move rfl) rfl rfl rfl ?_
        refine VS_pure (P_indexAddrN ez30 rfl rfl hA (by omega)) rfl rfl rfl ?_
        refine VS_read (S_loadAt ag55 rfl rfl hat) rfl rfl rfl ?_
        refine VS_step (S_alloc zl55 rfl (fun b1 => ?_)) rfl
        refine VS_step (S_storeAgg ag55 rfl rfl rfl (.here) rfl rfl ?_) rfl
        refine VS_nil ?_
        refine QS_then ?_
        refine TS_seq ?_
        refine TS_absorb .here (fun ns hi1 _ hd1 => ?_)
        have e0 := mc_abs (k := 0) hi1 hd1 rfl
        have e1 := mc_abs (k := 1) hi1 hd1 rfl
        have e2 := mc_abs (k := 2) hi1 hd1 rfl
        have e3 := mc_abs (k := 3) hi1 hd1 rfl
        have e4 := mc_abs (k := 4) hi1 hd1 rfl
        have e5 := mc_abs (k := 5) hi1 hd1 rfl
        have e6 := mc_abs (k := 6) hi1 hd1 rfl
        refine TS_region ?_
        refine VS_pure (P_move rfl) rfl rfl rfl ?_
        refine VS_pure (P_fieldAddr0 fo55_0 rfl) rfl rfl rfl ?_
        refine VS_read (S_load sg24 rfl e0) rfl rfl rfl ?_
        refine VS_pure (P_conv_int us24 ik5 rfl rfl) rfl rfl rfl ?_
        refine VS_step (S_buildSlice sl22 rfl rfl rfl rfl (fun b2 => ?_)) rfl
        refine VS_step (S_append sl22 rfl rfl rfl rfl (.here) (fun _ _ => (.there (.here))) rfl rfl (by first | omega | (simp only [maxLen]; omega)) (by omega) rfl (fun A3 c3 => ?_)) rfl
        refine VS_pure (P_assign rfl) rfl rfl rfl ?_
        refine VS_nil ?_
        refine QS_then ?_
        refine TS_seq ?_
        rw [ub_spec xs[j].kind]
        refine TS_pick (outE A3 c3 (o1 ++ [ub xs[j].kind])) (by unfold outE; rw [own_app]; exact .cons (.there .here) (.nil _)) ?_
        refine TS_keep [(0, .slice A3 (o1 ++ [ub xs[j].kind]).length c3), (1, .slice a xs.length k), (7, .int .i64 (j : Nat)), (8, .pointer (some ⟨b1, 0, none⟩))] ⟨by rw [List.length_append]; rfl, rfl, rfl, rfl, trivial⟩ ?_
        unfold outE
        refine TS_drawB (.step 0 true (.step 1 true (.step 2 true (.step 4 true (.step 5 true (.step 7 true (.step 8 true (.step 10 true (.step 11 true (.step 13 true (.step 14 true (.step 3 false (.step 6 false (.step 9 false (.step 12 false (.step 15 false (.step 16 true (.done)))))))))))))))))) mixed (by kernel_rfl) (fun _ _ _ _ hq => hq) ?_
        refine VBS_pure rfl (P_move rfl) rfl rfl rfl ?_
        refine VBS_pure rfl (P_fieldAddr0 fo55_1 rfl) rfl rfl rfl ?_
        refine VBS_read rfl (S_load sg3 rfl e1) rfl rfl rfl ?_
        refine VBS_pure rfl (P_fieldAddr0 fo55_2 rfl) rfl rfl rfl ?_
        refine VBS_read rfl (S_load sg3 rfl e2) rfl rfl rfl ?_
        refine VBS_pure rfl (P_fieldAddr0 fo55_3 rfl) rfl rfl rfl ?_
        refine VBS_read rfl (S_load sg3 rfl e3) rfl rfl rfl ?_
        refine VBS_pure rfl (P_fieldAddr0 fo55_4 rfl) rfl rfl rfl ?_
        refine VBS_read rfl (S_load sg3 rfl e4) rfl rfl rfl ?_
        refine VBS_pure rfl (P_fieldAddr0 fo55_5 rfl) rfl rfl rfl ?_
        refine VBS_read rfl (S_load sg3 rfl e5) rfl rfl rfl ?_
        have H1 : ∀ m', _ := fun m' => rnum_ok (m := m') (A := A3) (c := c3) (n := xs[j].side) (out := o1 ++ [ub xs[j].kind]) (by simp [be8_len]; omega)
        unfold outE at H1
        refine VBS_step rfl ((S_callL cl27 rfl (.cons .here .nil) (fun m' hm he => H1 m') rfl ?_)) rfl
        rintro _ _ ⟨A4, c4, rfl, rfl⟩
        skip
        have H2 : ∀ m', _ := fun m' => rnum_ok (m := m') (A := A4) (c := c4) (n := xs[j].card) (out := o1 ++ [ub xs[j].kind] ++ be8 xs[j].side) (by simp [be8_len]; omega)
        unfold outE at H2
        refine VBS_step rfl ((S_callL cl27 rfl (.cons .here .nil) (fun m' hm he => H2 m') rfl ?_)) rfl
        rintro _ _ ⟨A5, c5, rfl, rfl⟩
        skip
        have H3 : ∀ m', _ := fun m' => rnum_ok (m := m') (A := A5) (c := c5) (n := xs[j].id) (out := o1 ++ [ub xs[j].kind] ++ be8 xs[j].side ++ be8 xs[j].card) (by simp [be8_len]; omega)
        unfold outE at H3
        refine VBS_step rfl ((S_callL cl27 rfl (.cons .here .nil) (fun m' hm he => H3 m') rfl ?_)) rfl
        rintro _ _ ⟨A6, c6, rfl, rfl⟩
        skip
        have H4 : ∀ m', _ := fun m' => rnum_ok (m := m') (A := A6) (c := c6) (n := xs[j].other) (out := o1 ++ [ub xs[j].kind] ++ be8 xs[j].side ++ be8 xs[j].card ++ be8 xs[j].id) (by simp [be8_len]; omega)
        unfold outE at H4
        refine VBS_step rfl ((S_callL cl27 rfl (.cons .here .nil) (fun m' hm he => H4 m') rfl ?_)) rfl
        rintro _ _ ⟨A7, c7, rfl, rfl⟩
        skip
        have H5 : ∀ m', _ := fun m' => rnum_ok (m := m') (A := A7) (c := c7) (n := xs[j].n) (out := o1 ++ [ub xs[j].kind] ++ be8 xs[j].side ++ be8 xs[j].card ++ be8 xs[j].id ++ be8 xs[j].other) (by simp [be8_len]; omega)
        unfold outE at H5
        refine VBS_step rfl ((S_callL cl27 rfl (.cons .here .nil) (fun m' hm he => H5 m') rfl ?_)) rfl
        rintro _ _ ⟨A8, c8, rfl, rfl⟩
        generalize ho2 : o1 ++ [ub xs[j].kind] ++ be8 xs[j].side ++ be8 xs[j].card ++ be8 xs[j].id ++ be8 xs[j].other ++ be8 xs[j].n = o2
        have hl2 : o2.length = o1.length + 41 := by rw [← ho2]; simp [be8_len]
        refine VBS_pure rfl (P_assign rfl) rfl rfl rfl ?_
        refine VBS_nil ?_
        refine QS_then ?_
        refine TS_seq ?_
        refine TS_region ?_
        refine VS_pure (P_move rfl) rfl rfl rfl ?_
        refine VS_pure (P_fieldAddr0 fo55_6 rfl) rfl rfl rfl ?_
        refine VS_read (S_load sg25 rfl e6) rfl rfl rfl ?_
        have H6 : ∀ m', Le m m' → _ := fun m' hm => rnums_ok (m := m') (hcs.mono hm) hcb A8 c8 o2 (by omega)
        unfold outE at H6
        cases hids : encMany eNum xs[j].cards with
        | none =>
          rw [hids] at H6
          refine VS_step ((S_callL cl54 rfl (.cons .here .nil) (fun m' hm he => H6 m' ((uni_l _ _).trans hm)) rfl ?_)) rfl
          rintro _ _ ⟨A9, c9, o3, rfl, rfl, _⟩
          refine VS_pure (P_move rfl) rfl rfl rfl ?_
          refine VS_pure (P_extract rfl rfl) rfl rfl rfl ?_
          refine VS_pure (P_extract rfl rfl) rfl rfl rfl ?_
          refine VS_pure (P_assign rfl) rfl rfl rfl ?_
          refine VS_pure (P_assign rfl) rfl rfl rfl ?_
          refine VS_nil ?_
          refine QS_then ?_
          refine TS_region ?_
          refine VS_pure (P_move rfl) rfl rfl rfl ?_
          refine VS_pure (P_move rfl) rfl rfl rfl ?_
          iterate 3 (refine VS_skip rfl rfl rfl ?_)
          refine VS_pure (P_pick_f rfl rfl) rfl rfl rfl ?_
          refine VS_pure (P_assign rfl) rfl rfl rfl ?_
          refine VS_nil ?_
          refine QS_block ?_
          refine QS_then ?_
          refine TS_region ?_
          refine VS_pure (P_move rfl) rfl rfl rfl ?_
          refine VS_pure (P_add rfl rfl (w64 (by omega) (by omega))) rfl rfl rfl ?_
          refine VS_pure (P_assign rfl) rfl rfl rfl ?_
          refine VS_nil ?_
          exact QS_round4 (uni_l _ _) (j + 1) A9 c9 (some o3) ⟨rfl, rfl, rfl, rfl, trivial⟩ (.cons .here (.nil _)) ⟨hlt, (fun _ => by rw [encMany, if_pos hn, encL_none hlt (eEvt_cards hids)]; rfl), fun h => by cases h⟩ (by omega)
        | some ei =>
          rw [hids] at H6
          refine VS_step ((S_callL cl54 rfl (.cons .here .nil) (fun m' hm he => H6 m' ((uni_l _ _).trans hm)) rfl ?_)) rfl
          rintro _ _ ⟨A9, c9, o3, rfl, rfl, ho3⟩
          obtain rfl := ho3 _ rfl
          by_cases hk : xs[j].kind < 0
          · refine VS_pure (P_move rfl) rfl rfl rfl ?_
            refine VS_pure (P_extract rfl rfl) rfl rfl rfl ?_
            refine VS_pure (P_extract rfl rfl) rfl rfl rfl ?_
            refine VS_pure (P_assign rfl) rfl rfl rfl ?_
            refine VS_pure (P_assign rfl) rfl rfl rfl ?_
            refine VS_nil ?_
            refine QS_then ?_
            refine TS_region ?_
            refine VS_pure (P_move rfl) rfl rfl rfl ?_
            refine VS_pure (P_move rfl) rfl rfl rfl ?_
            refine VS_pure (P_fieldAddr0 fo55_0 rfl) rfl rfl rfl ?_
            refine VS_read (S_load sg24 rfl e0) rfl rfl rfl ?_
            refine VS_pure (df (P_geq rfl rfl) (by omega)) rfl rfl rfl ?_
            refine VS_pure (P_pick_t rfl rfl) rfl rfl rfl ?_
            refine VS_pure (P_assign rfl) rfl rfl rfl ?_
            refine VS_nil ?_
            refine QS_block ?_
            refine QS_then ?_
            refine TS_region ?_
            refine VS_pure (P_move rfl) rfl rfl rfl ?_
            refine VS_pure (P_add rfl rfl (w64 (by omega) (by omega))) rfl rfl rfl ?_
            refine VS_pure (P_assign rfl) rfl rfl rfl ?_
            refine VS_nil ?_
            exact QS_round4 (uni_l _ _) (j + 1) A9 c9 (some (o2 ++ ei)) ⟨rfl, rfl, rfl, rfl, trivial⟩ (.cons .here (.nil _)) ⟨hlt, (fun _ => by rw [encMany, if_pos hn, encL_none hlt (eEvt_kind hk)]; rfl), fun h => by cases h⟩ (by omega)
          · have hev := encL_take hlt hej (eEvt_some hk hids)
            refine VS_pure (P_move rfl) rfl rfl rfl ?_
            refine VS_pure (P_extract rfl rfl) rfl rfl rfl ?_
            refine VS_pure (P_extract rfl rfl) rfl rfl rfl ?_
            refine VS_pure (P_assign rfl) rfl rfl rfl ?_
            refine VS_pure (P_assign rfl) rfl rfl rfl ?_
            refine VS_nil ?_
            refine QS_then ?_
            refine TS_region ?_
            refine VS_pure (P_move rfl) rfl rfl rfl ?_
            refine VS_pure (P_move rfl) rfl rfl rfl ?_
            refine VS_pure (P_fieldAddr0 fo55_0 rfl) rfl rfl rfl ?_
            refine VS_read (S_load sg24 rfl e0) rfl rfl rfl ?_
            refine VS_pure (dt (P_geq rfl rfl) (by omega)) rfl rfl rfl ?_
            refine VS_pure (P_pick_t rfl rfl) rfl rfl rfl ?_
            refine VS_pure (P_assign rfl) rfl rfl rfl ?_
            refine VS_nil ?_
            refine QS_block ?_
            refine QS_then ?_
            refine TS_region ?_
            refine VS_pure (P_move rfl) rfl rfl rfl ?_
            refine VS_pure (P_add rfl rfl (w64 (by omega) (by omega))) rfl rfl rfl ?_
            refine VS_pure (P_assign rfl) rfl rfl rfl ?_
            refine VS_nil ?_
            have heq : o0 ++ (encL eEvt (xs.take (j + 1))).getD [] = o2 ++ ei := by rw [hev, Option.getD_some, ← ho2, ← ho1]; simp
            refine QS_round4 (uni_l _ _) (j + 1) A9 c9 none ⟨by rw [heq]; rfl, rfl, rfl, rfl, trivial⟩ (by rw [heq]; exact .cons .here (.nil _)) ⟨hlt, (fun h => by cases h), fun _ => by rw [hev]; rfl⟩ (by omega)
      · have e : j = xs.length := by omega
        subst e
        rw [List.take_length] at hej
        rw [show encMany eEvt xs = some (sz2 xs.length ++ ej) by rw [encMany, if_pos hn, hej]; rfl]
        refine TS_seq ?_
        refine TS_seq ?_
        refine TS_region ?_
        refine VS_pure (P_move rfl) rfl rfl rfl ?_
        refine VS_pure (P_move rfl) rfl rfl rfl ?_
        refine VS_pure (P_len il30 rfl) rfl rfl rfl ?_
        refine VS_pure (df (P_lss rfl rfl) (by omega)) rfl rfl rfl ?_
        refine VS_pure (P_move rfl) rfl rfl rfl ?_
        refine VS_skip rfl rfl rfl ?_
        refine VS_pure (P_pick_f rfl rfl) rfl rfl rfl ?_
        refine VS_nil ?_
        refine QS_then ?_
        refine TS_false rfl ?_
        refine TS_exit ?_
        refine QS_then_exit ?_
        refine QS_round4_exit ?_
        refine QS_block_here ?_
        refine QS_then ?_
        refine TS_seq ?_
        refine TS_region ?_
        refine VS_pure (P_move rfl) rfl rfl rfl ?_
        refine VS_pure (P_move rfl) rfl rfl rfl ?_
        refine VS_pure (P_assign rfl) rfl rfl rfl ?_
        refine VS_pure (P_assign rfl) rfl rfl rfl ?_
        refine VS_nil ?_
        refine QS_then ?_
        refine TS_ret ?_
        exact QS_ret [_, _] ⟨rfl, rfl, trivial⟩ (outE A2 c2 _) (Pick.refl _) ⟨A2, c2, _, rfl, rfl, fun e h => by cases h; rw [← ho0, List.append_assoc]⟩
    · unfold outE
      simp only [Option.getD_some, Option.isNone_some]
      rw [hbad rfl]
      by_cases hlt : j < xs.length
      · refine TS_seq ?_
        refine TS_seq ?_
        refine TS_region ?_
        refine VS_pure (P_move rfl) rfl rfl rfl ?_
        refine VS_pure (P_move rfl) rfl rfl rfl ?_
        refine VS_pure (P_len il30 rfl) rfl rfl rfl ?_
        refine VS_pure (dt (P_lss rfl rfl) (by omega)) rfl rfl rfl ?_
        refine VS_pure (P_move rfl) rfl rfl rfl ?_
        refine VS_pure (P_move rfl) rfl rfl rfl ?_
        refine VS_pure (P_pick_t rfl rfl) rfl rfl rfl ?_
        refine VS_nil ?_
        refine QS_then ?_
        refine TS_false rfl ?_
        refine TS_exit ?_
        refine QS_then_exit ?_
        refine QS_round4_exit ?_
        refine QS_block_here ?_
        refine QS_then ?_
        refine TS_seq ?_
        refine TS_region ?_
        refine VS_pure (P_move rfl) rfl rfl rfl ?_
        refine VS_pure (P_move rfl) rfl rfl rfl ?_
        refine VS_pure (P_assign rfl) rfl rfl rfl ?_
        refine VS_pure (P_assign rfl) rfl rfl rfl ?_
        refine VS_nil ?_
        refine QS_then ?_
        refine TS_ret ?_
        exact QS_ret [_, _] ⟨rfl, rfl, trivial⟩ (outE A2 c2 bad) (Pick.refl _) ⟨A2, c2, bad, rfl, rfl, fun e h => by cases h⟩
      · refine TS_seq ?_
        refine TS_seq ?_
        refine TS_region ?_
        refine VS_pure (P_move rfl) rfl rfl rfl ?_
        refine VS_pure (P_move rfl) rfl rfl rfl ?_
        refine VS_pure (P_len il30 rfl) rfl rfl rfl ?_
        refine VS_pure (df (P_lss rfl rfl) (by omega)) rfl rfl rfl ?_
        refine VS_pure (P_move rfl) rfl rfl rfl ?_
        refine VS_skip rfl rfl rfl ?_
        refine VS_pure (P_pick_f rfl rfl) rfl rfl rfl ?_
        refine VS_nil ?_
        refine QS_then ?_
        refine TS_false rfl ?_
        refine TS_exit ?_
        refine QS_then_exit ?_
        refine QS_round4_exit ?_
        refine QS_block_here ?_
        refine QS_then ?_
        refine TS_seq ?_
        refine TS_region ?_
        refine VS_pure (P_move rfl) rfl rfl rfl ?_
        refine VS_pure (P_move rfl) rfl rfl rfl ?_
        refine VS_pure (P_assign rfl) rfl rfl rfl ?_
        refine VS_pure (P_assign rfl) rfl rfl rfl ?_
        refine VS_nil ?_
        refine QS_then ?_
        refine TS_ret ?_
        exact QS_ret [_, _] ⟨rfl, rfl, trivial⟩ (outE A2 c2 bad) (Pick.refl _) ⟨A2, c2, bad, rfl, rfl, fun e h => by cases h⟩
  · rw [show encMany eEvt xs = none by rw [encMany, if_neg hn]]
    have H : ∀ m', _ := fun m' => rtwo_ok (m := m') (n := xs.length) A c out (by omega)
    rw [show eSz xs.length = none from if_neg hn] at H
    unfold outE at H
    refine TS_seq ?_
    refine TS_region ?_
    refine VS_pure (P_assign rfl) rfl rfl rfl ?_
    refine VS_pure (P_assign rfl) rfl rfl rfl ?_
    refine VS_nil ?_
    refine QS_then ?_
    refine TS_seq ?_
    refine TS_region ?_
    refine VS_pure (P_move rfl) rfl rfl rfl ?_
    refine VS_pure (P_move rfl) rfl rfl rfl ?_
    refine VS_pure (P_len il30 rfl) rfl rfl rfl ?_
    refine VS_step ((S_callL cl28 rfl (.cons .here .nil) (fun m' hm he => H m') rfl ?_)) rfl
    rintro _ _ ⟨A1, c1, out1, rfl, rfl, _⟩
    refine VS_pure (P_move rfl) rfl rfl rfl ?_
    refine VS_pure (P_extract rfl rfl) rfl rfl rfl ?_
    refine VS_pure (P_extract rfl rfl) rfl rfl rfl ?_
    refine VS_pure (P_assign rfl) rfl rfl rfl ?_
    refine VS_pure (P_assign rfl) rfl rfl rfl ?_
    refine VS_nil ?_
    refine QS_then ?_
    refine TS_seq ?_
    refine TS_seq ?_
    refine TS_region ?_
    refine VS_pure (P_assign rfl) rfl rfl rfl ?_
    refine VS_nil ?_
    refine QS_then ?_
    refine TS_block ?_
    refine TS_loop3 (fun j A c => [(0, .slice A1 out1.length c1), (1, .slice a xs.length k), (6, .bool false), (7, .int .i64 (j : Nat))]) (fun j A c => outE A1 c1 out1) (fun j => j = 0) (fun j => 1 - j) 0 A1 c1 ⟨rfl, rfl, rfl, rfl, trivial⟩ (Pick.refl _) rfl ?_
    rintro j A2 c2 rfl
    unfold outE
    refine TS_seq ?_
    refine TS_seq ?_
    refine TS_region ?_
    refine VS_pure (P_move rfl) rfl rfl rfl ?_
    refine VS_pure (P_move rfl) rfl rfl rfl ?_
    refine VS_pure (P_len il30 rfl) rfl rfl rfl ?_
    refine VS_pure (dt (P_lss rfl rfl) (by omega)) rfl rfl rfl ?_
    refine VS_pure (P_move rfl) rfl rfl rfl ?_
    refine VS_pure (P_move rfl) rfl rfl rfl ?_
    refine VS_pure (P_pick_t rfl rfl) rfl rfl rfl ?_
    refine VS_nil ?_
    refine QS_then ?_
    refine TS_false rfl ?_
    refine TS_exit ?_
    refine QS_then_exit ?_
    refine QS_round3_exit ?_
    refine QS_block_here ?_
    refine QS_then ?_
    refine TS_seq ?_
    refine TS_region ?_
    refine VS_pure (P_move rfl) rfl rfl rfl ?_
    refine VS_pure (P_move rfl) rfl rfl rfl ?_
    refine VS_pure (P_assign rfl) rfl rfl rfl ?_
    refine VS_pure (P_assign rfl) rfl rfl rfl ?_
    refine VS_nil ?_
    refine QS_then ?_
    refine TS_ret ?_
    exact QS_ret [_, _] ⟨rfl, rfl, trivial⟩ (outE A1 c1 out1) (Pick.refl _) ⟨A1, c1, out1, rfl, rfl, fun e h => by cases h⟩
end Go.Proofs.Ytbpihgphicmdiaa
