/- A part of the proof: contracts of functions of the program. No condition. -/
import Derived.Test.YtigfdclopkagmaaDoorWdH
import Derived.Test.YtigfdclopkagmaaDoorWdJ
namespace Go.Proofs.YtigfdclopkagmaaDoor
open Go.Eng Wd Go.RowKit

set_option maxHeartbeats 8000000 in
theorem parts_core {m : Mp} (hT : Tabs m) {s : List UInt8} (hs : s.length ≤ 9223372036854775807) : CS Tryd.prog 4 [.string (bs s)] m [] (Gives (.bool true)) := by
  refine CS_of [.tmp 2] Tryd.func4 rfl rfl rfl ?_
  have F1 : ∀ m', Le m m' → CS Tryd.prog 6 [.string (bs s)] m' [] (CutPost (cutP s)) := fun m' hm => Cut_ok (hT.mono hm) hs
  cases hc : cutP s with
  | error p =>
    obtain ⟨e, a⟩ := p
    obtain ⟨he0, ha⟩ := cutP_fault hc
    rw [hc] at F1
    refine TS_seq ?_
    refine TS_region ?_
    refine VS_pure (P_assign rfl) rfl rfl rfl ?_
    refine VS_nil ?_
    refine QS_then ?_
    refine TS_seq ?_
    refine TS_region ?_
    refine VS_pure (P_move rfl) rfl rfl rfl ?_
    refine VS_step ((S_call cl6 rfl (fun m' hm he => F1 m' hm) rfl ?_)) rfl
    rintro _ _ ⟨rfl, rfl⟩
    refine VS_pure (P_move rfl) rfl rfl rfl ?_
    refine VS_pure (P_extract rfl rfl) rfl rfl rfl ?_
    refine VS_pure (P_extract rfl rfl) rfl rfl rfl ?_
    refine VS_step (S_alloc zl25 rfl (fun b1 => ?_)) rfl
    refine VS_pure (P_assign rfl) rfl rfl rfl ?_
    refine VS_step (S_storeAgg ag25 rfl rfl rfl (.here) rfl rfl ?_) rfl
    refine VS_nil ?_
    refine QS_then ?_
    refine TS_seq ?_
    refine TS_seq ?_
    refine TS_region ?_
    refine VS_pure (P_fieldAddr0 fo25_0 rfl) rfl rfl rfl ?_
    refine VS_read (S_loadB sg23 rfl (.here) rfl) rfl rfl rfl ?_
    refine VS_pure (dt (P_neq rfl rfl) (by first | assumption | rfl | omega | decide)) rfl rfl rfl ?_
    refine VS_nil ?_
    refine QS_then ?_
    refine TS_true rfl ?_
    refine TS_seq ?_
    refine TS_region ?_
    refine VS_pure (P_move rfl) rfl rfl rfl ?_
    refine VS_pure (P_len il22 rfl) rfl rfl rfl ?_
    refine VS_pure (dt (P_eql rfl rfl) (by first | assumption | rfl | omega | decide)) rfl rfl rfl ?_
    refine VS_pure (P_move rfl) rfl rfl rfl ?_
    refine VS_pure (P_fieldAddr0 fo25_1 rfl) rfl rfl rfl ?_
    refine VS_read (S_loadB sg3 rfl (.here) rfl) rfl rfl rfl ?_
    refine VS_pure (dt (P_geq rfl rfl) (by first | assumption | rfl | omega | decide)) rfl rfl rfl ?_
    refine VS_pure (P_pick_t rfl rfl) rfl rfl rfl ?_
    refine VS_pure (P_move rfl) rfl rfl rfl ?_
    refine VS_pure (P_fieldAddr0 fo25_1 rfl) rfl rfl rfl ?_
    refine VS_read (S_loadB sg3 rfl (.here) rfl) rfl rfl rfl ?_
    refine VS_pure (P_move rfl) rfl rfl rfl ?_
    refine VS_pure (P_len_str rfl st9) rfl rfl rfl ?_
    refine VS_pure (dt (P_leq rfl rfl) (by first | assumption | rfl | omega | decide)) rfl rfl rfl ?_
    refine VS_pure (P_pick_t rfl rfl) rfl rfl rfl ?_
    refine VS_pure (P_move rfl) rfl rfl rfl ?_
    refine VS_step (S_callR cl8 rfl (fun m' hm he => (wakes_ok (hT.mono hm))) rfl ?_) rfl
    rintro _ rfl
    refine VS_pure (P_pick_t rfl rfl) rfl rfl rfl ?_
    refine VS_pure (P_assign rfl) rfl rfl rfl ?_
    refine VS_nil ?_
    refine QS_then ?_
    refine TS_ret ?_
    refine QS_then_ret ?_
    exact QS_ret [_] ⟨rfl, trivial⟩ [] (Pick.nil _) ⟨rfl, rfl⟩
  | ok ws =>
    rw [hc] at F1
    have hl := cutP_len hc
    obtain ⟨hs2, hparts⟩ := cutP_parts hc
    refine TS_seq ?_
    refine TS_region ?_
    refine VS_pure (P_assign rfl) rfl rfl rfl ?_
    refine VS_nil ?_
    refine QS_then ?_
    refine TS_seq ?_
    refine TS_region ?_
    refine VS_pure (P_move rfl) rfl rfl rfl ?_
    refine VS_step ((S_call cl6 rfl (fun m' hm he => F1 m' hm) rfl ?_)) rfl
    rintro _ _ ⟨A1, c1, rfl, rfl⟩
    refine VS_pure (P_move rfl) rfl rfl rfl ?_
    refine VS_pure (P_extract rfl rfl) rfl rfl rfl ?_
    refine VS_pure (P_extract rfl rfl) rfl rfl rfl ?_
    refine VS_step (S_alloc zl25 rfl (fun b1 => ?_)) rfl
    refine VS_pure (P_assign rfl) rfl rfl rfl ?_
    refine VS_step (S_storeAgg ag25 rfl rfl rfl (.here) rfl rfl ?_) rfl
    refine VS_nil ?_
    refine QS_then ?_
    refine TS_seq ?_
    refine TS_seq ?_
    refine TS_region ?_
    refine VS_pure (P_fieldAddr0 fo25_0 rfl) rfl rfl rfl ?_
    refine VS_read (S_loadB sg23 rfl (.here) rfl) rfl rfl rfl ?_
    refine VS_pure (df (P_neq rfl rfl) (by first | assumption | omega | decide | exact fun hx => hx (by assumption))) rfl rfl rfl ?_
    refine VS_nil ?_
    refine QS_then ?_
    refine TS_false rfl ?_
    refine TS_skip ?_
    refine QS_then ?_
    refine TS_seq ?_
    refine TS_region ?_
    refine VS_pure (P_assign rfl) rfl rfl rfl ?_
    refine VS_nil ?_
    refine QS_then ?_
    refine TS_seq ?_
    refine TS_seq ?_
    refine TS_region ?_
    refine VS_pure (P_move rfl) rfl rfl rfl ?_
    refine VS_pure (P_len il22 rfl) rfl rfl rfl ?_
    refine VS_pure (P_move rfl) rfl rfl rfl ?_
    refine VS_nil ?_
    refine QS_then ?_
    refine TS_block ?_
    refine TS_loop (fun y : Nat × Nat => [(0, .string (bs s)), (3, .slice A1 ws.length c1), (5, .int .i64 (y.2 : Nat)), (37, .slice A1 ws.length c1), (38, .int .i64 (ws.length : Nat)), (39, .int .i64 (y.1 : Nat))]) (fun _ => [own 30 4 A1 ws.length c1 (wsV ws)])
      (fun y => y.1 ≤ ws.length ∧ y.2 ≤ s.length ∧ (y.1 < ws.length → Parts s y.2 (ws.drop y.1)) ∧ (y.1 = ws.length → y.2 = s.length)) (fun y => ws.length - y.1) (0, 0) ⟨rfl, rfl, rfl, rfl, rfl, rfl, trivial⟩ (Pick.cons (.there .here) (Pick.nil _)) ⟨Nat.zero_le _, Nat.zero_le _, fun _ => hparts, fun e => ?_⟩ ?_
    · obtain ⟨p, _, hw, _⟩ := hparts
      exact absurd (List.length_eq_zero_iff.1 e.symm) hw.ne
    rintro ⟨i, nxt⟩ ⟨hi, hn, hp, hend⟩
    simp only at hi hn hp hend ⊢
    by_cases hlt : i < ws.length
    · refine TS_fact (own_isSome .here (by rw [wsV_len]; omega)) (fun hA1 => ?_)
      obtain ⟨k, t, n, a, r, hd, h1, h2, h3, h4⟩ := (hp hlt).round hs2
      have hwi : ws[i] = ⟨k, t, n, (a : Nat)⟩ := by
        have := congrArg (·[0]?) hd
        simpa [List.getElem?_drop, hlt] using this
      have hdr : ws.drop (i + 1) = r := by
        have := congrArg (List.drop 1) hd
        simpa [List.drop_drop] using this
      have e : ((wsV ws).drop (i * 4)).take 4 = [.int .i8 k, .string (bs t), .int .i64 n, .int .i64 (a : Nat)] := by
        rw [wsV_at hlt, hwi]; rfl
      have F2 : ∀ m', Le m m' → CS Tryd.prog 6 [.string (bs (seg s nxt a))] m' [] (fun v L' => ∃ A c, v = .tuple [.slice A 1 c, faultV 0 0].toArray ∧ L' = [own 30 4 A 1 c (wsV [⟨0, [], 0, (a - nxt : Nat)⟩])]) := fun m' hm => by
        have := Cut_ok (hT.mono hm) (s := seg s nxt a) (by rw [seg_len h1 h2]; omega)
        rw [h3] at this; exact this
      have hrl : r.length = ws.length - (i + 1) := by rw [← hdr, List.length_drop]
      rcases h4 with ⟨rfl, rfl, rfl, rfl⟩ | ⟨hr, hk, g1, g2, g3⟩ | ⟨hr, rfl, rfl, j, rfl, g0, g1, g3⟩
      · have hiw : i + 1 = ws.length := by simp at hrl; omega
        have g2 : seg s s.length (s.length + ([] : List UInt8).length) = [] := by simp [seg]
        refine TS_seq ?_
        refine TS_region ?_
        refine VS_pure (dt (P_lss rfl rfl) (by first | assumption | rfl | omega | decide)) rfl rfl rfl ?_
        refine VS_nil ?_
        refine QS_then ?_
        refine TS_seq ?_
        refine TS_true rfl ?_
        refine TS_skip ?_
        refine QS_then ?_
        refine TS_seq ?_
        refine TS_block ?_
        refine TS_seq ?_
        refine TS_region ?_
        refine VS_pure (P_move rfl) rfl rfl rfl ?_
        refine VS_pure (P_indexAddrN ez22 rfl rfl hA1 (by omega)) rfl rfl rfl ?_
        refine VS_read (S_loadOS ag30 rfl (.here) (by assumption) rfl) rfl rfl rfl ?_
        refine VS_step (S_alloc zl30 rfl (fun b2 => ?_)) rfl
        refine VS_pure (P_assign rfl) rfl rfl rfl ?_
        refine VS_step (S_storeAgg ag30 rfl rfl rfl (.here) rfl rfl ?_) rfl
        refine VS_nil ?_
        refine QS_then ?_
        refine TS_seq ?_
        refine TS_seq ?_
        refine TS_region ?_
        refine VS_pure (P_fieldAddr0 fo30_3 rfl) rfl rfl rfl ?_
        refine VS_read (S_loadB sg3 rfl (.here) rfl) rfl rfl rfl ?_
        refine VS_pure (P_move rfl) rfl rfl rfl ?_
        refine VS_pure (df (P_lss rfl rfl) (by first | assumption | omega | decide | exact fun hx => hx (by assumption))) rfl rfl rfl ?_
        refine VS_pure (P_move rfl) rfl rfl rfl ?_
        refine VS_pure (P_fieldAddr0 fo30_3 rfl) rfl rfl rfl ?_
        refine VS_read (S_loadB sg3 rfl (.here) rfl) rfl rfl rfl ?_
        refine VS_pure (P_move rfl) rfl rfl rfl ?_
        refine VS_pure (P_len_str rfl st9) rfl rfl rfl ?_
        refine VS_pure (df (P_gtr rfl rfl) (by first | assumption | omega | decide | exact fun hx => hx (by assumption))) rfl rfl rfl ?_
        refine VS_pure (P_pick_f rfl rfl) rfl rfl rfl ?_
        refine VS_pure (P_move rfl) rfl rfl rfl ?_
        refine VS_pure (P_fieldAddr0 fo30_0 rfl) rfl rfl rfl ?_
        refine VS_read (S_loadB sg28 rfl (.here) rfl) rfl rfl rfl ?_
        refine VS_pure (dt (P_eql rfl rfl) (by first | assumption | rfl | omega | decide)) rfl rfl rfl ?_
        refine VS_pure (P_move rfl) rfl rfl rfl ?_
        refine VS_pure (P_move rfl) rfl rfl rfl ?_
        refine VS_pure (P_len il22 rfl) rfl rfl rfl ?_
        refine VS_pure (P_sub rfl rfl (w64 (by omega) (by omega))) rfl rfl rfl ?_
        refine VS_pure (dt (P_eql rfl rfl) (by first | assumption | rfl | omega | decide)) rfl rfl rfl ?_
        refine VS_pure (P_bneq bo4 rfl rfl) rfl rfl rfl ?_
        refine VS_pure (P_pick_f rfl rfl) rfl rfl rfl ?_
        refine VS_nil ?_
        refine QS_then ?_
        refine TS_false rfl ?_
        refine TS_skip ?_
        refine QS_then ?_
        refine TS_seq ?_
        refine TS_region ?_
        refine VS_pure (P_move rfl) rfl rfl rfl ?_
        refine VS_pure (P_move rfl) rfl rfl rfl ?_
        refine VS_pure (P_fieldAddr0 fo30_3 rfl) rfl rfl rfl ?_
        refine VS_read (S_loadB sg3 rfl (.here) rfl) rfl rfl rfl ?_
        refine VS_pure (P_sslice_lh _ _ st9 rfl rfl rfl rfl rfl (by omega) (by omega)) rfl rfl rfl ?_
        refine VS_step ((S_call cl6 rfl (fun m' hm he => F2 m' hm) rfl ?_)) rfl
        rintro _ _ ⟨A2, c2, rfl, rfl⟩
        refine VS_pure (P_move rfl) rfl rfl rfl ?_
        refine VS_pure (P_extract rfl rfl) rfl rfl rfl ?_
        refine VS_pure (P_extract rfl rfl) rfl rfl rfl ?_
        refine VS_step (S_alloc zl25 rfl (fun b3 => ?_)) rfl
        refine VS_pure (P_assign rfl) rfl rfl rfl ?_
        refine VS_step (S_storeAgg ag25 rfl rfl rfl (.here) rfl rfl ?_) rfl
        refine VS_nil ?_
        refine QS_then ?_
        refine TS_seq ?_
        refine TS_seq ?_
        refine TS_region ?_
        refine VS_pure (P_fieldAddr0 fo25_0 rfl) rfl rfl rfl ?_
        refine VS_read (S_loadB sg23 rfl (.here) rfl) rfl rfl rfl ?_
        refine VS_pure (df (P_neq rfl rfl) (by first | assumption | omega | decide | exact fun hx => hx (by assumption))) rfl rfl rfl ?_
        refine VS_pure (P_move rfl) rfl rfl rfl ?_
        refine VS_pure (P_move rfl) rfl rfl rfl ?_
        refine VS_pure (P_len il22 rfl) rfl rfl rfl ?_
        refine VS_pure (df (P_neq rfl rfl) (by first | assumption | omega | decide | exact fun hx => hx (by assumption))) rfl rfl rfl ?_
        refine VS_pure (P_pick_f rfl rfl) rfl rfl rfl ?_
        refine VS_nil ?_
        refine QS_then ?_
        refine TS_false rfl ?_
        refine TS_skip ?_
        refine QS_then ?_
        refine TS_seq ?_
        refine TS_region ?_
        refine VS_pure (P_fieldAddr0 fo30_1 rfl) rfl rfl rfl ?_
        refine VS_read (S_loadB sg9 rfl (.there (.there (.here))) rfl) rfl rfl rfl ?_
        refine VS_pure (P_len_str rfl st9) rfl rfl rfl ?_
        refine VS_pure (P_assign rfl) rfl rfl rfl ?_
        refine VS_nil ?_
        refine QS_then ?_
        refine TS_seq ?_
        refine TS_seq ?_
        refine TS_region ?_
        refine VS_pure (P_fieldAddr0 fo30_0 rfl) rfl rfl rfl ?_
        refine VS_read (S_loadB sg28 rfl (.there (.there (.here))) rfl) rfl rfl rfl ?_
        refine VS_pure (df (P_eql rfl rfl) (by first | assumption | omega | decide | exact fun hx => hx (by assumption))) rfl rfl rfl ?_
        refine VS_nil ?_
        refine QS_then ?_
        refine TS_false rfl ?_
        refine TS_skip ?_
        refine QS_then ?_
        refine TS_seq ?_
        refine TS_seq ?_
        refine TS_draw (.step 0 .pure (.step 2 .pure (.step 4 .pure (.step 5 .pure (.step 1 .read (.step 3 .pure (.step 6 .pure (.step 7 .pure (.step 8 .pure (.step 9 .read (.step 10 .pure (.step 11 .pure (.step 12 .pure (.step 13 .pure (.step 15 .pure (.step 17 .pure (.step 20 .pure (.step 14 .read (.step 16 .read (.step 18 .pure (.step 19 .pure (.step 21 .read (.step 22 .pure (.step 23 .pure (.step 24 .pure (.done)))))))))))))))))))))))))) mixed (by kernel_rfl) (fun _ _ _ _ hq => hq) ?_
        refine VTS_pure rfl (P_fieldAddr0 fo30_3 rfl) rfl rfl rfl ?_
        refine VTS_pure rfl (P_move rfl) rfl rfl rfl ?_
        refine VTS_pure rfl (P_move rfl) rfl rfl rfl ?_
        refine VTS_pure rfl (P_len_str rfl st9) rfl rfl rfl ?_
        refine VTS_read rfl (S_loadB sg3 rfl (.there (.there (.here))) rfl) rfl rfl rfl ?_
        refine VTS_pure rfl (P_addN rfl rfl (by omega)) rfl rfl rfl ?_
        refine VTS_pure rfl (df (P_gtr rfl rfl) (by first | assumption | omega | decide | exact fun hx => hx (by assumption))) rfl rfl rfl ?_
        refine VTS_pure rfl (P_move rfl) rfl rfl rfl ?_
        refine VTS_pure rfl (P_fieldAddr0 fo30_0 rfl) rfl rfl rfl ?_
        refine VTS_read rfl (S_loadB sg28 rfl (.there (.there (.here))) rfl) rfl rfl rfl ?_
        refine VTS_pure rfl (dt (P_neq rfl rfl) (by first | assumption | rfl | omega | decide)) rfl rfl rfl ?_
        refine VTS_pure rfl (P_move rfl) rfl rfl rfl ?_
        refine VTS_pure rfl (P_move rfl) rfl rfl rfl ?_
        refine VTS_pure rfl (P_fieldAddr0 fo30_3 rfl) rfl rfl rfl ?_
        refine VTS_pure rfl (P_fieldAddr0 fo30_3 rfl) rfl rfl rfl ?_
        refine VTS_pure rfl (P_move rfl) rfl rfl rfl ?_
        refine VTS_pure rfl (P_fieldAddr0 fo30_1 rfl) rfl rfl rfl ?_
        refine VTS_read rfl (S_loadB sg3 rfl (.there (.there (.here))) rfl) rfl rfl rfl ?_
        refine VTS_read rfl (S_loadB sg3 rfl (.there (.there (.here))) rfl) rfl rfl rfl ?_
        refine VTS_pure rfl (P_addN rfl rfl (by omega)) rfl rfl rfl ?_
        refine VTS_pure rfl (P_sslice_lh _ _ st9 rfl rfl rfl rfl rfl (by omega) (by omega)) rfl rfl rfl ?_
        refine VTS_read rfl (S_loadB sg9 rfl (.there (.there (.here))) rfl) rfl rfl rfl ?_
        refine VTS_pure rfl (df (P_sneq rfl rfl) (by first | assumption | omega | decide | exact fun hx => hx (by assumption))) rfl rfl rfl ?_
        refine VTS_pure rfl (P_pick_t rfl rfl) rfl rfl rfl ?_
        refine VTS_pure rfl (P_pick_f rfl rfl) rfl rfl rfl ?_
        refine VTS_nil ?_
        refine QS_then ?_
        refine TS_false rfl ?_
        refine TS_skip ?_
        refine QS_then ?_
        refine TS_region ?_
        refine VS_pure (P_fieldAddr0 fo30_3 rfl) rfl rfl rfl ?_
        refine VS_read (S_loadB sg3 rfl (.there (.there (.here))) rfl) rfl rfl rfl ?_
        refine VS_pure (P_move rfl) rfl rfl rfl ?_
        refine VS_pure (P_addN rfl rfl (by omega)) rfl rfl rfl ?_
        refine VS_pure (P_assign rfl) rfl rfl rfl ?_
        refine VS_nil ?_
        refine QS_block ?_
        refine QS_then ?_
        refine TS_region ?_
        refine VS_pure (P_add rfl rfl (w64 (by omega) (by omega))) rfl rfl rfl ?_
        refine VS_pure (P_move rfl) rfl rfl rfl ?_
        refine VS_nil ?_
        exact QS_round (i + 1, s.length) ⟨rfl, rfl, rfl, rfl, rfl, rfl, trivial⟩ (Pick.cons (.there (.there (.there .here))) (Pick.nil _)) ⟨by simp only; omega, Nat.le_refl _, fun h => by simp only at h; omega, fun _ => rfl⟩ (by simp only; omega)
      · have hr0 : 0 < r.length := List.length_pos_iff.2 hr
        have hiw : i + 1 < ws.length := by omega
        refine TS_seq ?_
        refine TS_region ?_
        refine VS_pure (dt (P_lss rfl rfl) (by first | assumption | rfl | omega | decide)) rfl rfl rfl ?_
        refine VS_nil ?_
        refine QS_then ?_
        refine TS_seq ?_
        refine TS_true rfl ?_
        refine TS_skip ?_
        refine QS_then ?_
        refine TS_seq ?_
        refine TS_block ?_
        refine TS_seq ?_
        refine TS_region ?_
        refine VS_pure (P_move rfl) rfl rfl rfl ?_
        refine VS_pure (P_indexAddrN ez22 rfl rfl hA1 (by omega)) rfl rfl rfl ?_
        refine VS_read (S_loadOS ag30 rfl (.here) (by assumption) rfl) rfl rfl rfl ?_
        refine VS_step (S_alloc zl30 rfl (fun b2 => ?_)) rfl
        refine VS_pure (P_assign rfl) rfl rfl rfl ?_
        refine VS_step (S_storeAgg ag30 rfl rfl rfl (.here) rfl rfl ?_) rfl
        refine VS_nil ?_
        refine QS_then ?_
        refine TS_seq ?_
        refine TS_seq ?_
        refine TS_region ?_
        refine VS_pure (P_fieldAddr0 fo30_3 rfl) rfl rfl rfl ?_
        refine VS_read (S_loadB sg3 rfl (.here) rfl) rfl rfl rfl ?_
        refine VS_pure (P_move rfl) rfl rfl rfl ?_
        refine VS_pure (df (P_lss rfl rfl) (by first | assumption | omega | decide | exact fun hx => hx (by assumption))) rfl rfl rfl ?_
        refine VS_pure (P_move rfl) rfl rfl rfl ?_
        refine VS_pure (P_fieldAddr0 fo30_3 rfl) rfl rfl rfl ?_
        refine VS_read (S_loadB sg3 rfl (.here) rfl) rfl rfl rfl ?_
        refine VS_pure (P_move rfl) rfl rfl rfl ?_
        refine VS_pure (P_len_str rfl st9) rfl rfl rfl ?_
        refine VS_pure (df (P_gtr rfl rfl) (by first | assumption | omega | decide | exact fun hx => hx (by assumption))) rfl rfl rfl ?_
        refine VS_pure (P_pick_f rfl rfl) rfl rfl rfl ?_
        refine VS_pure (P_move rfl) rfl rfl rfl ?_
        refine VS_pure (P_fieldAddr0 fo30_0 rfl) rfl rfl rfl ?_
        refine VS_read (S_loadB sg28 rfl (.here) rfl) rfl rfl rfl ?_
        refine VS_pure (df (P_eql rfl rfl) (by first | assumption | omega | decide | exact fun hx => hx (by assumption))) rfl rfl rfl ?_
        refine VS_pure (P_move rfl) rfl rfl rfl ?_
        refine VS_pure (P_move rfl) rfl rfl rfl ?_
        refine VS_pure (P_len il22 rfl) rfl rfl rfl ?_
        refine VS_pure (P_sub rfl rfl (w64 (by omega) (by omega))) rfl rfl rfl ?_
        refine VS_pure (df (P_eql rfl rfl) (by first | assumption | omega | decide | exact fun hx => hx (by assumption))) rfl rfl rfl ?_
        refine VS_pure (P_bneq bo4 rfl rfl) rfl rfl rfl ?_
        refine VS_pure (P_pick_f rfl rfl) rfl rfl rfl ?_
        refine VS_nil ?_
        refine QS_then ?_
        refine TS_false rfl ?_
        refine TS_skip ?_
        refine QS_then ?_
        refine TS_seq ?_
        refine TS_region ?_
        refine VS_pure (P_move rfl) rfl rfl rfl ?_
        refine VS_pure (P_move rfl) rfl rfl rfl ?_
        refine VS_pure (P_fieldAddr0 fo30_3 rfl) rfl rfl rfl ?_
        refine VS_read (S_loadB sg3 rfl (.here) rfl) rfl rfl rfl ?_
        refine VS_pure (P_sslice_lh _ _ st9 rfl rfl rfl rfl rfl (by omega) (by omega)) rfl rfl rfl ?_
        refine VS_step ((S_call cl6 rfl (fun m' hm he => F2 m' hm) rfl ?_)) rfl
        rintro _ _ ⟨A2, c2, rfl, rfl⟩
        rcases hk with rfl | rfl
        · refine VS_pure (P_move rfl) rfl rfl rfl ?_
          refine VS_pure (P_extract rfl rfl) rfl rfl rfl ?_
          refine VS_pure (P_extract rfl rfl) rfl rfl rfl ?_
          refine VS_step (S_alloc zl25 rfl (fun b3 => ?_)) rfl
          refine VS_pure (P_assign rfl) rfl rfl rfl ?_
          refine VS_step (S_storeAgg ag25 rfl rfl rfl (.here) rfl rfl ?_) rfl
          refine VS_nil ?_
          refine QS_then ?_
          refine TS_seq ?_
          refine TS_seq ?_
          refine TS_region ?_
          refine VS_pure (P_fieldAddr0 fo25_0 rfl) rfl rfl rfl ?_
          refine VS_read (S_loadB sg23 rfl (.here) rfl) rfl rfl rfl ?_
          refine VS_pure (df (P_neq rfl rfl) (by first | assumption | omega | decide | exact fun hx => hx (by assumption))) rfl rfl rfl ?_
          refine VS_pure (P_move rfl) rfl rfl rfl ?_
          refine VS_pure (P_move rfl) rfl rfl rfl ?_
          refine VS_pure (P_len il22 rfl) rfl rfl rfl ?_
          refine VS_pure (df (P_neq rfl rfl) (by first | assumption | omega | decide | exact fun hx => hx (by assumption))) rfl rfl rfl ?_
          refine VS_pure (P_pick_f rfl rfl) rfl rfl rfl ?_
          refine VS_nil ?_
          refine QS_then ?_
          refine TS_false rfl ?_
          refine TS_skip ?_
          refine QS_then ?_
          refine TS_seq ?_
          refine TS_region ?_
          refine VS_pure (P_fieldAddr0 fo30_1 rfl) rfl rfl rfl ?_
          refine VS_read (S_loadB sg9 rfl (.there (.there (.here))) rfl) rfl rfl rfl ?_
          refine VS_pure (P_len_str rfl st9) rfl rfl rfl ?_
          refine VS_pure (P_assign rfl) rfl rfl rfl ?_
          refine VS_nil ?_
          refine QS_then ?_
          refine TS_seq ?_
          refine TS_seq ?_
          refine TS_region ?_
          refine VS_pure (P_fieldAddr0 fo30_0 rfl) rfl rfl rfl ?_
          refine VS_read (S_loadB sg28 rfl (.there (.there (.here))) rfl) rfl rfl rfl ?_
          refine VS_pure (df (P_eql rfl rfl) (by first | assumption | omega | decide | exact fun hx => hx (by assumption))) rfl rfl rfl ?_
          refine VS_nil ?_
          refine QS_then ?_
          refine TS_false rfl ?_
          refine TS_skip ?_
          refine QS_then ?_
          refine TS_seq ?_
          refine TS_seq ?_
          refine TS_draw (.step 0 .pure (.step 2 .pure (.step 4 .pure (.step 5 .pure (.step 1 .read (.step 3 .pure (.step 6 .pure (.step 7 .pure (.step 8 .pure (.step 9 .read (.step 10 .pure (.step 11 .pure (.step 12 .pure (.step 13 .pure (.step 15 .pure (.step 17 .pure (.step 20 .pure (.step 14 .read (.step 16 .read (.step 18 .pure (.step 19 .pure (.step 21 .read (.step 22 .pure (.step 23 .pure (.step 24 .pure (.done)))))))))))))))))))))))))) mixed (by kernel_rfl) (fun _ _ _ _ hq => hq) ?_
          refine VTS_pure rfl (P_fieldAddr0 fo30_3 rfl) rfl rfl rfl ?_
          refine VTS_pure rfl (P_move rfl) rfl rfl rfl ?_
          refine VTS_pure rfl (P_move rfl) rfl rfl rfl ?_
          refine VTS_pure rfl (P_len_str rfl st9) rfl rfl rfl ?_
          refine VTS_read rfl (S_loadB sg3 rfl (.there (.there (.here))) rfl) rfl rfl rfl ?_
          refine VTS_pure rfl (P_addN rfl rfl (by omega)) rfl rfl rfl ?_
          refine VTS_pure rfl (df (P_gtr rfl rfl) (by first | assumption | omega | decide | exact fun hx => hx (by assumption))) rfl rfl rfl ?_
          refine VTS_pure rfl (P_move rfl) rfl rfl rfl ?_
          refine VTS_pure rfl (P_fieldAddr0 fo30_0 rfl) rfl rfl rfl ?_
          refine VTS_read rfl (S_loadB sg28 rfl (.there (.there (.here))) rfl) rfl rfl rfl ?_
          refine VTS_pure rfl (dt (P_neq rfl rfl) (by first | assumption | rfl | omega | decide)) rfl rfl rfl ?_
          refine VTS_pure rfl (P_move rfl) rfl rfl rfl ?_
          refine VTS_pure rfl (P_move rfl) rfl rfl rfl ?_
          refine VTS_pure rfl (P_fieldAddr0 fo30_3 rfl) rfl rfl rfl ?_
          refine VTS_pure rfl (P_fieldAddr0 fo30_3 rfl) rfl rfl rfl ?_
          refine VTS_pure rfl (P_move rfl) rfl rfl rfl ?_
          refine VTS_pure rfl (P_fieldAddr0 fo30_1 rfl) rfl rfl rfl ?_
          refine VTS_read rfl (S_loadB sg3 rfl (.there (.there (.here))) rfl) rfl rfl rfl ?_
          refine VTS_read rfl (S_loadB sg3 rfl (.there (.there (.here))) rfl) rfl rfl rfl ?_
          refine VTS_pure rfl (P_addN rfl rfl (by omega)) rfl rfl rfl ?_
          refine VTS_pure rfl (P_sslice_lh _ _ st9 rfl rfl rfl rfl rfl (by omega) (by omega)) rfl rfl rfl ?_
          refine VTS_read rfl (S_loadB sg9 rfl (.there (.there (.here))) rfl) rfl rfl rfl ?_
          refine VTS_pure rfl (df (P_sneq rfl rfl) (by first | assumption | omega | decide | exact fun hx => hx (by assumption))) rfl rfl rfl ?_
          refine VTS_pure rfl (P_pick_t rfl rfl) rfl rfl rfl ?_
          refine VTS_pure rfl (P_pick_f rfl rfl) rfl rfl rfl ?_
          refine VTS_nil ?_
          refine QS_then ?_
          refine TS_false rfl ?_
          refine TS_skip ?_
          refine QS_then ?_
          refine TS_region ?_
          refine VS_pure (P_fieldAddr0 fo30_3 rfl) rfl rfl rfl ?_
          refine VS_read (S_loadB sg3 rfl (.there (.there (.here))) rfl) rfl rfl rfl ?_
          refine VS_pure (P_move rfl) rfl rfl rfl ?_
          refine VS_pure (P_addN rfl rfl (by omega)) rfl rfl rfl ?_
          refine VS_pure (P_assign rfl) rfl rfl rfl ?_
          refine VS_nil ?_
          refine QS_block ?_
          refine QS_then ?_
          refine TS_region ?_
          refine VS_pure (P_add rfl rfl (w64 (by omega) (by omega))) rfl rfl rfl ?_
          refine VS_pure (P_move rfl) rfl rfl rfl ?_
          refine VS_nil ?_
          exact QS_round (i + 1, a + t.length) ⟨rfl, rfl, rfl, rfl, rfl, rfl, trivial⟩ (Pick.cons (.there (.there (.there .here))) (Pick.nil _)) ⟨by simp only; omega, g1, fun _ => by simp only; rw [hdr]; exact g3, fun h => by simp only at h; omega⟩ (by simp only; omega)
        · refine VS_pure (P_move rfl) rfl rfl rfl ?_
          refine VS_pure (P_extract rfl rfl) rfl rfl rfl ?_
          refine VS_pure (P_extract rfl rfl) rfl rfl rfl ?_
          refine VS_step (S_alloc zl25 rfl (fun b3 => ?_)) rfl
          refine VS_pure (P_assign rfl) rfl rfl rfl ?_
          refine VS_step (S_storeAgg ag25 rfl rfl rfl (.here) rfl rfl ?_) rfl
          refine VS_nil ?_
          refine QS_then ?_
          refine TS_seq ?_
          refine TS_seq ?_
          refine TS_region ?_
          refine VS_pure (P_fieldAddr0 fo25_0 rfl) rfl rfl rfl ?_
          refine VS_read (S_loadB sg23 rfl (.here) rfl) rfl rfl rfl ?_
          refine VS_pure (df (P_neq rfl rfl) (by first | assumption | omega | decide | exact fun hx => hx (by assumption))) rfl rfl rfl ?_
          refine VS_pure (P_move rfl) rfl rfl rfl ?_
          refine VS_pure (P_move rfl) rfl rfl rfl ?_
          refine VS_pure (P_len il22 rfl) rfl rfl rfl ?_
          refine VS_pure (df (P_neq rfl rfl) (by first | assumption | omega | decide | exact fun hx => hx (by assumption))) rfl rfl rfl ?_
          refine VS_pure (P_pick_f rfl rfl) rfl rfl rfl ?_
          refine VS_nil ?_
          refine QS_then ?_
          refine TS_false rfl ?_
          refine TS_skip ?_
          refine QS_then ?_
          refine TS_seq ?_
          refine TS_region ?_
          refine VS_pure (P_fieldAddr0 fo30_1 rfl) rfl rfl rfl ?_
          refine VS_read (S_loadB sg9 rfl (.there (.there (.here))) rfl) rfl rfl rfl ?_
          refine VS_pure (P_len_str rfl st9) rfl rfl rfl ?_
          refine VS_pure (P_assign rfl) rfl rfl rfl ?_
          refine VS_nil ?_
          refine QS_then ?_
          refine TS_seq ?_
          refine TS_seq ?_
          refine TS_region ?_
          refine VS_pure (P_fieldAddr0 fo30_0 rfl) rfl rfl rfl ?_
          refine VS_read (S_loadB sg28 rfl (.there (.there (.here))) rfl) rfl rfl rfl ?_
          refine VS_pure (df (P_eql rfl rfl) (by first | assumption | omega | decide | exact fun hx => hx (by assumption))) rfl rfl rfl ?_
          refine VS_nil ?_
          refine QS_then ?_
          refine TS_false rfl ?_
          refine TS_skip ?_
          refine QS_then ?_
          refine TS_seq ?_
          refine TS_seq ?_
          refine TS_draw (.step 0 .pure (.step 2 .pure (.step 4 .pure (.step 5 .pure (.step 1 .read (.step 3 .pure (.step 6 .pure (.step 7 .pure (.step 8 .pure (.step 9 .read (.step 10 .pure (.step 11 .pure (.step 12 .pure (.step 13 .pure (.step 15 .pure (.step 17 .pure (.step 20 .pure (.step 14 .read (.step 16 .read (.step 18 .pure (.step 19 .pure (.step 21 .read (.step 22 .pure (.step 23 .pure (.step 24 .pure (.done)))))))))))))))))))))))))) mixed (by kernel_rfl) (fun _ _ _ _ hq => hq) ?_
          refine VTS_pure rfl (P_fieldAddr0 fo30_3 rfl) rfl rfl rfl ?_
          refine VTS_pure rfl (P_move rfl) rfl rfl rfl ?_
          refine VTS_pure rfl (P_move rfl) rfl rfl rfl ?_
          refine VTS_pure rfl (P_len_str rfl st9) rfl rfl rfl ?_
          refine VTS_read rfl (S_loadB sg3 rfl (.there (.there (.here))) rfl) rfl rfl rfl ?_
          refine VTS_pure rfl (P_addN rfl rfl (by omega)) rfl rfl rfl ?_
          refine VTS_pure rfl (df (P_gtr rfl rfl) (by first | assumption | omega | decide | exact fun hx => hx (by assumption))) rfl rfl rfl ?_
          refine VTS_pure rfl (P_move rfl) rfl rfl rfl ?_
          refine VTS_pure rfl (P_fieldAddr0 fo30_0 rfl) rfl rfl rfl ?_
          refine VTS_read rfl (S_loadB sg28 rfl (.there (.there (.here))) rfl) rfl rfl rfl ?_
          refine VTS_pure rfl (dt (P_neq rfl rfl) (by first | assumption | rfl | omega | decide)) rfl rfl rfl ?_
          refine VTS_pure rfl (P_move rfl) rfl rfl rfl ?_
          refine VTS_pure rfl (P_move rfl) rfl rfl rfl ?_
          refine VTS_pure rfl (P_fieldAddr0 fo30_3 rfl) rfl rfl rfl ?_
          refine VTS_pure rfl (P_fieldAddr0 fo30_3 rfl) rfl rfl rfl ?_
          refine VTS_pure rfl (P_move rfl) rfl rfl rfl ?_
          refine VTS_pure rfl (P_fieldAddr0 fo30_1 rfl) rfl rfl rfl ?_
          refine VTS_read rfl (S_loadB sg3 rfl (.there (.there (.here))) rfl) rfl rfl rfl ?_
          refine VTS_read rfl (S_loadB sg3 rfl (.there (.there (.here))) rfl) rfl rfl rfl ?_
          refine VTS_pure rfl (P_addN rfl rfl (by omega)) rfl rfl rfl ?_
          refine VTS_pure rfl (P_sslice_lh _ _ st9 rfl rfl rfl rfl rfl (by omega) (by omega)) rfl rfl rfl ?_
          refine VTS_read rfl (S_loadB sg9 rfl (.there (.there (.here))) rfl) rfl rfl rfl ?_
          refine VTS_pure rfl (df (P_sneq rfl rfl) (by first | assumption | omega | decide | exact fun hx => hx (by assumption))) rfl rfl rfl ?_
          refine VTS_pure rfl (P_pick_t rfl rfl) rfl rfl rfl ?_
          refine VTS_pure rfl (P_pick_f rfl rfl) rfl rfl rfl ?_
          refine VTS_nil ?_
          refine QS_then ?_
          refine TS_false rfl ?_
          refine TS_skip ?_
          refine QS_then ?_
          refine TS_region ?_
          refine VS_pure (P_fieldAddr0 fo30_3 rfl) rfl rfl rfl ?_
          refine VS_read (S_loadB sg3 rfl (.there (.there (.here))) rfl) rfl rfl rfl ?_
          refine VS_pure (P_move rfl) rfl rfl rfl ?_
          refine VS_pure (P_addN rfl rfl (by omega)) rfl rfl rfl ?_
          refine VS_pure (P_assign rfl) rfl rfl rfl ?_
          refine VS_nil ?_
          refine QS_block ?_
          refine QS_then ?_
          refine TS_region ?_
          refine VS_pure (P_add rfl rfl (w64 (by omega) (by omega))) rfl rfl rfl ?_
          refine VS_pure (P_move rfl) rfl rfl rfl ?_
          refine VS_nil ?_
          exact QS_round (i + 1, a + t.length) ⟨rfl, rfl, rfl, rfl, rfl, rfl, trivial⟩ (Pick.cons (.there (.there (.there .here))) (Pick.nil _)) ⟨by simp only; omega, g1, fun _ => by simp only; rw [hdr]; exact g3, fun h => by simp only at h; omega⟩ (by simp only; omega)
      · have hr0 : 0 < r.length := List.length_pos_iff.2 hr
        have hiw : i + 1 < ws.length := by omega
        refine TS_seq ?_
        refine TS_region ?_
        refine VS_pure (dt (P_lss rfl rfl) (by first | assumption | rfl | omega | decide)) rfl rfl rfl ?_
        refine VS_nil ?_
        refine QS_then ?_
        refine TS_seq ?_
        refine TS_true rfl ?_
        refine TS_skip ?_
        refine QS_then ?_
        refine TS_seq ?_
        refine TS_block ?_
        refine TS_seq ?_
        refine TS_region ?_
        refine VS_pure (P_move rfl) rfl rfl rfl ?_
        refine VS_pure (P_indexAddrN ez22 rfl rfl hA1 (by omega)) rfl rfl rfl ?_
        refine VS_read (S_loadOS ag30 rfl (.here) (by assumption) rfl) rfl rfl rfl ?_
        refine VS_step (S_alloc zl30 rfl (fun b2 => ?_)) rfl
        refine VS_pure (P_assign rfl) rfl rfl rfl ?_
        refine VS_step (S_storeAgg ag30 rfl rfl rfl (.here) rfl rfl ?_) rfl
        refine VS_nil ?_
        refine QS_then ?_
        refine TS_seq ?_
        refine TS_seq ?_
        refine TS_region ?_
        refine VS_pure (P_fieldAddr0 fo30_3 rfl) rfl rfl rfl ?_
        refine VS_read (S_loadB sg3 rfl (.here) rfl) rfl rfl rfl ?_
        refine VS_pure (P_move rfl) rfl rfl rfl ?_
        refine VS_pure (df (P_lss rfl rfl) (by first | assumption | omega | decide | exact fun hx => hx (by assumption))) rfl rfl rfl ?_
        refine VS_pure (P_move rfl) rfl rfl rfl ?_
        refine VS_pure (P_fieldAddr0 fo30_3 rfl) rfl rfl rfl ?_
        refine VS_read (S_loadB sg3 rfl (.here) rfl) rfl rfl rfl ?_
        refine VS_pure (P_move rfl) rfl rfl rfl ?_
        refine VS_pure (P_len_str rfl st9) rfl rfl rfl ?_
        refine VS_pure (df (P_gtr rfl rfl) (by first | assumption | omega | decide | exact fun hx => hx (by assumption))) rfl rfl rfl ?_
        refine VS_pure (P_pick_f rfl rfl) rfl rfl rfl ?_
        refine VS_pure (P_move rfl) rfl rfl rfl ?_
        refine VS_pure (P_fieldAddr0 fo30_0 rfl) rfl rfl rfl ?_
        refine VS_read (S_loadB sg28 rfl (.here) rfl) rfl rfl rfl ?_
        refine VS_pure (df (P_eql rfl rfl) (by first | assumption | omega | decide | exact fun hx => hx (by assumption))) rfl rfl rfl ?_
        refine VS_pure (P_move rfl) rfl rfl rfl ?_
        refine VS_pure (P_move rfl) rfl rfl rfl ?_
        refine VS_pure (P_len il22 rfl) rfl rfl rfl ?_
        refine VS_pure (P_sub rfl rfl (w64 (by omega) (by omega))) rfl rfl rfl ?_
        refine VS_pure (df (P_eql rfl rfl) (by first | assumption | omega | decide | exact fun hx => hx (by assumption))) rfl rfl rfl ?_
        refine VS_pure (P_bneq bo4 rfl rfl) rfl rfl rfl ?_
        refine VS_pure (P_pick_f rfl rfl) rfl rfl rfl ?_
        refine VS_nil ?_
        refine QS_then ?_
        refine TS_false rfl ?_
        refine TS_skip ?_
        refine QS_then ?_
        refine TS_seq ?_
        refine TS_region ?_
        refine VS_pure (P_move rfl) rfl rfl rfl ?_
        refine VS_pure (P_move rfl) rfl rfl rfl ?_
        refine VS_pure (P_fieldAddr0 fo30_3 rfl) rfl rfl rfl ?_
        refine VS_read (S_loadB sg3 rfl (.here) rfl) rfl rfl rfl ?_
        refine VS_pure (P_sslice_lh _ _ st9 rfl rfl rfl rfl rfl (by omega) (by omega)) rfl rfl rfl ?_
        refine VS_step ((S_call cl6 rfl (fun m' hm he => F2 m' hm) rfl ?_)) rfl
        rintro _ _ ⟨A2, c2, rfl, rfl⟩
        by_cases j99 : 99 < j
        · have hdg : digs j = 3 := by unfold digs; rw [if_pos (by omega)]
          rw [hdg] at g1 g3
          refine VS_pure (P_move rfl) rfl rfl rfl ?_
          refine VS_pure (P_extract rfl rfl) rfl rfl rfl ?_
          refine VS_pure (P_extract rfl rfl) rfl rfl rfl ?_
          refine VS_step (S_alloc zl25 rfl (fun b3 => ?_)) rfl
          refine VS_pure (P_assign rfl) rfl rfl rfl ?_
          refine VS_step (S_storeAgg ag25 rfl rfl rfl (.here) rfl rfl ?_) rfl
          refine VS_nil ?_
          refine QS_then ?_
          refine TS_seq ?_
          refine TS_seq ?_
          refine TS_region ?_
          refine VS_pure (P_fieldAddr0 fo25_0 rfl) rfl rfl rfl ?_
          refine VS_read (S_loadB sg23 rfl (.here) rfl) rfl rfl rfl ?_
          refine VS_pure (df (P_neq rfl rfl) (by first | assumption | omega | decide | exact fun hx => hx (by assumption))) rfl rfl rfl ?_
          refine VS_pure (P_move rfl) rfl rfl rfl ?_
          refine VS_pure (P_move rfl) rfl rfl rfl ?_
          refine VS_pure (P_len il22 rfl) rfl rfl rfl ?_
          refine VS_pure (df (P_neq rfl rfl) (by first | assumption | omega | decide | exact fun hx => hx (by assumption))) rfl rfl rfl ?_
          refine VS_pure (P_pick_f rfl rfl) rfl rfl rfl ?_
          refine VS_nil ?_
          refine QS_then ?_
          refine TS_false rfl ?_
          refine TS_skip ?_
          refine QS_then ?_
          refine TS_seq ?_
          refine TS_region ?_
          refine VS_pure (P_fieldAddr0 fo30_1 rfl) rfl rfl rfl ?_
          refine VS_read (S_loadB sg9 rfl (.there (.there (.here))) rfl) rfl rfl rfl ?_
          refine VS_pure (P_len_str rfl st9) rfl rfl rfl ?_
          refine VS_pure (P_assign rfl) rfl rfl rfl ?_
          refine VS_nil ?_
          refine QS_then ?_
          refine TS_seq ?_
          refine TS_seq ?_
          refine TS_region ?_
          refine VS_pure (P_fieldAddr0 fo30_0 rfl) rfl rfl rfl ?_
          refine VS_read (S_loadB sg28 rfl (.there (.there (.here))) rfl) rfl rfl rfl ?_
          refine VS_pure (dt (P_eql rfl rfl) (by first | assumption | rfl | omega | decide)) rfl rfl rfl ?_
          refine VS_nil ?_
          refine QS_then ?_
          refine TS_true rfl ?_
          refine TS_seq ?_
          refine TS_region ?_
          refine VS_pure (P_assign rfl) rfl rfl rfl ?_
          refine VS_nil ?_
          refine QS_then ?_
          refine TS_seq ?_
          refine TS_seq ?_
          refine TS_region ?_
          refine VS_pure (P_fieldAddr0 fo30_2 rfl) rfl rfl rfl ?_
          refine VS_read (S_loadB sg3 rfl (.there (.there (.here))) rfl) rfl rfl rfl ?_
          refine VS_pure (dt (P_gtr rfl rfl) (by first | assumption | rfl | omega | decide)) rfl rfl rfl ?_
          refine VS_nil ?_
          refine QS_then ?_
          refine TS_true rfl ?_
          refine TS_region ?_
          refine VS_pure (P_assign rfl) rfl rfl rfl ?_
          refine VS_nil ?_
          refine QS_then ?_
          refine TS_seq ?_
          refine TS_seq ?_
          refine TS_region ?_
          refine VS_pure (P_fieldAddr0 fo30_2 rfl) rfl rfl rfl ?_
          refine VS_read (S_loadB sg3 rfl (.there (.there (.here))) rfl) rfl rfl rfl ?_
          refine VS_pure (dt (P_gtr rfl rfl) (by first | assumption | rfl | omega | decide)) rfl rfl rfl ?_
          refine VS_nil ?_
          refine QS_then ?_
          refine TS_true rfl ?_
          refine TS_region ?_
          refine VS_pure (P_assign rfl) rfl rfl rfl ?_
          refine VS_nil ?_
          refine QS_then ?_
          refine TS_seq ?_
          refine TS_region ?_
          refine VS_pure (P_fieldAddr0 fo30_2 rfl) rfl rfl rfl ?_
          refine VS_read (S_loadB sg3 rfl (.there (.there (.here))) rfl) rfl rfl rfl ?_
          refine VS_pure (df (P_lss rfl rfl) (by first | assumption | omega | decide | exact fun hx => hx (by assumption))) rfl rfl rfl ?_
          refine VS_pure (P_move rfl) rfl rfl rfl ?_
          refine VS_pure (P_fieldAddr0 fo30_2 rfl) rfl rfl rfl ?_
          refine VS_read (S_loadB sg3 rfl (.there (.there (.here))) rfl) rfl rfl rfl ?_
          refine VS_pure (df (P_gtr rfl rfl) (by first | assumption | omega | decide | exact fun hx => hx (by assumption))) rfl rfl rfl ?_
          refine VS_pure (P_pick_f rfl rfl) rfl rfl rfl ?_
          refine VS_nil ?_
          refine QS_then ?_
          refine TS_false rfl ?_
          refine TS_skip ?_
          refine QS_then ?_
          refine TS_seq ?_
          refine TS_seq ?_
          refine TS_draw (.step 0 .pure (.step 2 .pure (.step 4 .pure (.step 5 .pure (.step 1 .read (.step 3 .pure (.step 6 .pure (.step 7 .pure (.step 8 .pure (.step 9 .read (.step 10 .pure (.step 11 .pure (.step 12 .pure (.step 13 .pure (.step 15 .pure (.step 17 .pure (.step 20 .pure (.step 14 .read (.step 16 .read (.step 18 .pure (.step 19 .pure (.step 21 .read (.step 22 .pure (.step 23 .pure (.step 24 .pure (.done)))))))))))))))))))))))))) mixed (by kernel_rfl) (fun _ _ _ _ hq => hq) ?_
          refine VTS_pure rfl (P_fieldAddr0 fo30_3 rfl) rfl rfl rfl ?_
          refine VTS_pure rfl (P_move rfl) rfl rfl rfl ?_
          refine VTS_pure rfl (P_move rfl) rfl rfl rfl ?_
          refine VTS_pure rfl (P_len_str rfl st9) rfl rfl rfl ?_
          refine VTS_read rfl (S_loadB sg3 rfl (.there (.there (.here))) rfl) rfl rfl rfl ?_
          refine VTS_pure rfl (P_add rfl rfl (w64 (by omega) (by omega))) rfl rfl rfl ?_
          refine VTS_pure rfl (df (P_gtr rfl rfl) (by first | assumption | omega | decide | exact fun hx => hx (by assumption))) rfl rfl rfl ?_
          refine VTS_pure rfl (P_move rfl) rfl rfl rfl ?_
          refine VTS_pure rfl (P_fieldAddr0 fo30_0 rfl) rfl rfl rfl ?_
          refine VTS_read rfl (S_loadB sg28 rfl (.there (.there (.here))) rfl) rfl rfl rfl ?_
          refine VTS_pure rfl (df (P_neq rfl rfl) (by first | assumption | omega | decide | exact fun hx => hx (by assumption))) rfl rfl rfl ?_
          refine VTS_pure rfl (P_move rfl) rfl rfl rfl ?_
          refine VTS_skip rfl rfl rfl rfl rfl ?_
          refine VTS_skip rfl rfl rfl rfl rfl ?_
          refine VTS_skip rfl rfl rfl rfl rfl ?_
          refine VTS_skip rfl rfl rfl rfl rfl ?_
          refine VTS_skip rfl rfl rfl rfl rfl ?_
          refine VTS_skip rfl rfl rfl rfl rfl ?_
          refine VTS_skip rfl rfl rfl rfl rfl ?_
          refine VTS_skip rfl rfl rfl rfl rfl ?_
          refine VTS_skip rfl rfl rfl rfl rfl ?_
          refine VTS_skip rfl rfl rfl rfl rfl ?_
          refine VTS_skip rfl rfl rfl rfl rfl ?_
          refine VTS_pure rfl (P_pick_f rfl rfl) rfl rfl rfl ?_
          refine VTS_pure rfl (P_pick_f rfl rfl) rfl rfl rfl ?_
          refine VTS_nil ?_
          refine QS_then ?_
          refine TS_false rfl ?_
          refine TS_skip ?_
          refine QS_then ?_
          refine TS_region ?_
          refine VS_pure (P_fieldAddr0 fo30_3 rfl) rfl rfl rfl ?_
          refine VS_read (S_loadB sg3 rfl (.there (.there (.here))) rfl) rfl rfl rfl ?_
          refine VS_pure (P_move rfl) rfl rfl rfl ?_
          refine VS_pure (P_add rfl rfl (w64 (by omega) (by omega))) rfl rfl rfl ?_
          refine VS_pure (P_assign rfl) rfl rfl rfl ?_
          refine VS_nil ?_
          refine QS_block ?_
          refine QS_then ?_
          refine TS_region ?_
          refine VS_pure (P_add rfl rfl (w64 (by omega) (by omega))) rfl rfl rfl ?_
          refine VS_pure (P_move rfl) rfl rfl rfl ?_
          refine VS_nil ?_
          exact QS_round (i + 1, a + 3) ⟨rfl, rfl, rfl, rfl, rfl, rfl, trivial⟩ (Pick.cons (.there (.there (.there .here))) (Pick.nil _)) ⟨by simp only; omega, g1, fun _ => by simp only; rw [hdr]; exact g3, fun h => by simp only at h; omega⟩ (by simp only; omega)
        · by_cases j9 : 9 < j
          · have hdg : digs j = 2 := by unfold digs; rw [if_neg (by omega), if_pos (by omega)]
            rw [hdg] at g1 g3
            refine VS_pure (P_move rfl) rfl rfl rfl ?_
            refine VS_pure (P_extract rfl rfl) rfl rfl rfl ?_
            refine VS_pure (P_extract rfl rfl) rfl rfl rfl ?_
            refine VS_step (S_alloc zl25 rfl (fun b3 => ?_)) rfl
            refine VS_pure (P_assign rfl) rfl rfl rfl ?_
            refine VS_step (S_storeAgg ag25 rfl rfl rfl (.here) rfl rfl ?_) rfl
            refine VS_nil ?_
            refine QS_then ?_
            refine TS_seq ?_
            refine TS_seq ?_
            refine TS_region ?_
            refine VS_pure (P_fieldAddr0 fo25_0 rfl) rfl rfl rfl ?_
            refine VS_read (S_loadB sg23 rfl (.here) rfl) rfl rfl rfl ?_
            refine VS_pure (df (P_neq rfl rfl) (by first | assumption | omega | decide | exact fun hx => hx (by assumption))) rfl rfl rfl ?_
            refine VS_pure (P_move rfl) rfl rfl rfl ?_
            refine VS_pure (P_move rfl) rfl rfl rfl ?_
            refine VS_pure (P_len il22 rfl) rfl rfl rfl ?_
            refine VS_pure (df (P_neq rfl rfl) (by first | assumption | omega | decide | exact fun hx => hx (by assumption))) rfl rfl rfl ?_
            refine VS_pure (P_pick_f rfl rfl) rfl rfl rfl ?_
            refine VS_nil ?_
            refine QS_then ?_
            refine TS_false rfl ?_
            refine TS_skip ?_
            refine QS_then ?_
            refine TS_seq ?_
            refine TS_region ?_
            refine VS_pure (P_fieldAddr0 fo30_1 rfl) rfl rfl rfl ?_
            refine VS_read (S_loadB sg9 rfl (.there (.there (.here))) rfl) rfl rfl rfl ?_
            refine VS_pure (P_len_str rfl st9) rfl rfl rfl ?_
            refine VS_pure (P_assign rfl) rfl rfl rfl ?_
            refine VS_nil ?_
            refine QS_then ?_
            refine TS_seq ?_
            refine TS_seq ?_
            refine TS_region ?_
            refine VS_pure (P_fieldAddr0 fo30_0 rfl) rfl rfl rfl ?_
            refine VS_read (S_loadB sg28 rfl (.there (.there (.here))) rfl) rfl rfl rfl ?_
            refine VS_pure (dt (P_eql rfl rfl) (by first | assumption | rfl | omega | decide)) rfl rfl rfl ?_
            refine VS_nil ?_
            refine QS_then ?_
            refine TS_true rfl ?_
            refine TS_seq ?_
            refine TS_region ?_
            refine VS_pure (P_assign rfl) rfl rfl rfl ?_
            refine VS_nil ?_
            refine QS_then ?_
            refine TS_seq ?_
            refine TS_seq ?_
            refine TS_region ?_
            refine VS_pure (P_fieldAddr0 fo30_2 rfl) rfl rfl rfl ?_
            refine VS_read (S_loadB sg3 rfl (.there (.there (.here))) rfl) rfl rfl rfl ?_
            refine VS_pure (dt (P_gtr rfl rfl) (by first | assumption | rfl | omega | decide)) rfl rfl rfl ?_
            refine VS_nil ?_
            refine QS_then ?_
            refine TS_true rfl ?_
            refine TS_region ?_
            refine VS_pure (P_assign rfl) rfl rfl rfl ?_
            refine VS_nil ?_
            refine QS_then ?_
            refine TS_seq ?_
            refine TS_seq ?_
            refine TS_region ?_
            refine VS_pure (P_fieldAddr0 fo30_2 rfl) rfl rfl rfl ?_
            refine VS_read (S_loadB sg3 rfl (.there (.there (.here))) rfl) rfl rfl rfl ?_
            refine VS_pure (df (P_gtr rfl rfl) (by first | assumption | omega | decide | exact fun hx => hx (by assumption))) rfl rfl rfl ?_
            refine VS_nil ?_
            refine QS_then ?_
            refine TS_false rfl ?_
            refine TS_skip ?_
            refine QS_then ?_
            refine TS_seq ?_
            refine TS_region ?_
            refine VS_pure (P_fieldAddr0 fo30_2 rfl) rfl rfl rfl ?_
            refine VS_read (S_loadB sg3 rfl (.there (.there (.here))) rfl) rfl rfl rfl ?_
            refine VS_pure (df (P_lss rfl rfl) (by first | assumption | omega | decide | exact fun hx => hx (by assumption))) rfl rfl rfl ?_
            refine VS_pure (P_move rfl) rfl rfl rfl ?_
            refine VS_pure (P_fieldAddr0 fo30_2 rfl) rfl rfl rfl ?_
            refine VS_read (S_loadB sg3 rfl (.there (.there (.here))) rfl) rfl rfl rfl ?_
            refine VS_pure (df (P_gtr rfl rfl) (by first | assumption | omega | decide | exact fun hx => hx (by assumption))) rfl rfl rfl ?_
            refine VS_pure (P_pick_f rfl rfl) rfl rfl rfl ?_
            refine VS_nil ?_
            refine QS_then ?_
            refine TS_false rfl ?_
            refine TS_skip ?_
            refine QS_then ?_
            refine TS_seq ?_
            refine TS_seq ?_
            refine TS_draw (.step 0 .pure (.step 2 .pure (.step 4 .pure (.step 5 .pure (.step 1 .read (.step 3 .pure (.step 6 .pure (.step 7 .pure (.step 8 .pure (.step 9 .read (.step 10 .pure (.step 11 .pure (.step 12 .pure (.step 13 .pure (.step 15 .pure (.step 17 .pure (.step 20 .pure (.step 14 .read (.step 16 .read (.step 18 .pure (.step 19 .pure (.step 21 .read (.step 22 .pure (.step 23 .pure (.step 24 .pure (.done)))))))))))))))))))))))))) mixed (by kernel_rfl) (fun _ _ _ _ hq => hq) ?_
            refine VTS_pure rfl (P_fieldAddr0 fo30_3 rfl) rfl rfl rfl ?_
            refine VTS_pure rfl (P_move rfl) rfl rfl rfl ?_
            refine VTS_pure rfl (P_move rfl) rfl rfl rfl ?_
            refine VTS_pure rfl (P_len_str rfl st9) rfl rfl rfl ?_
            refine VTS_read rfl (S_loadB sg3 rfl (.there (.there (.here))) rfl) rfl rfl rfl ?_
            refine VTS_pure rfl (P_add rfl rfl (w64 (by omega) (by omega))) rfl rfl rfl ?_
            refine VTS_pure rfl (df (P_gtr rfl rfl) (by first | assumption | omega | decide | exact fun hx => hx (by assumption))) rfl rfl rfl ?_
            refine VTS_pure rfl (P_move rfl) rfl rfl rfl ?_
            refine VTS_pure rfl (P_fieldAddr0 fo30_0 rfl) rfl rfl rfl ?_
            refine VTS_read rfl (S_loadB sg28 rfl (.there (.there (.here))) rfl) rfl rfl rfl ?_
            refine VTS_pure rfl (df (P_neq rfl rfl) (by first | assumption | omega | decide | exact fun hx => hx (by assumption))) rfl rfl rfl ?_
            refine VTS_pure rfl (P_move rfl) rfl rfl rfl ?_
            refine VTS_skip rfl rfl rfl rfl rfl ?_
            refine VTS_skip rfl rfl rfl rfl rfl ?_
            refine VTS_skip rfl rfl rfl rfl rfl ?_
            refine VTS_skip rfl rfl rfl rfl rfl ?_
            refine VTS_skip rfl rfl rfl rfl rfl ?_
            refine VTS_skip rfl rfl rfl rfl rfl ?_
            refine VTS_skip rfl rfl rfl rfl rfl ?_
            refine VTS_skip rfl rfl rfl rfl rfl ?_
            refine VTS_skip rfl rfl rfl rfl rfl ?_
            refine VTS_skip rfl rfl rfl rfl rfl ?_
            refine VTS_skip rfl rfl rfl rfl rfl ?_
            refine VTS_pure rfl (P_pick_f rfl rfl) rfl rfl rfl ?_
            refine VTS_pure rfl (P_pick_f rfl rfl) rfl rfl rfl ?_
            refine VTS_nil ?_
            refine QS_then ?_
            refine TS_false rfl ?_
            refine TS_skip ?_
            refine QS_then ?_
            refine TS_region ?_
            refine VS_pure (P_fieldAddr0 fo30_3 rfl) rfl rfl rfl ?_
            refine VS_read (S_loadB sg3 rfl (.there (.there (.here))) rfl) rfl rfl rfl ?_
            refine VS_pure (P_move rfl) rfl rfl rfl ?_
            refine VS_pure (P_add rfl rfl (w64 (by omega) (by omega))) rfl rfl rfl ?_
            refine VS_pure (P_assign rfl) rfl rfl rfl ?_
            refine VS_nil ?_
            refine QS_block ?_
            refine QS_then ?_
            refine TS_region ?_
            refine VS_pure (P_add rfl rfl (w64 (by omega) (by omega))) rfl rfl rfl ?_
            refine VS_pure (P_move rfl) rfl rfl rfl ?_
            refine VS_nil ?_
            exact QS_round (i + 1, a + 2) ⟨rfl, rfl, rfl, rfl, rfl, rfl, trivial⟩ (Pick.cons (.there (.there (.there .here))) (Pick.nil _)) ⟨by simp only; omega, g1, fun _ => by simp only; rw [hdr]; exact g3, fun h => by simp only at h; omega⟩ (by simp only; omega)
          · have hdg : digs j = 1 := by unfold digs; rw [if_neg (by omega), if_neg (by omega)]
            rw [hdg] at g1 g3
            refine VS_pure (P_move rfl) rfl rfl rfl ?_
            refine VS_pure (P_extract rfl rfl) rfl rfl rfl ?_
            refine VS_pure (P_extract rfl rfl) rfl rfl rfl ?_
            refine VS_step (S_alloc zl25 rfl (fun b3 => ?_)) rfl
            refine VS_pure (P_assign rfl) rfl rfl rfl ?_
            refine VS_step (S_storeAgg ag25 rfl rfl rfl (.here) rfl rfl ?_) rfl
            refine VS_nil ?_
            refine QS_then ?_
            refine TS_seq ?_
            refine TS_seq ?_
            refine TS_region ?_
            refine VS_pure (P_fieldAddr0 fo25_0 rfl) rfl rfl rfl ?_
            refine VS_read (S_loadB sg23 rfl (.here) rfl) rfl rfl rfl ?_
            refine VS_pure (df (P_neq rfl rfl) (by first | assumption | omega | decide | exact fun hx => hx (by assumption))) rfl rfl rfl ?_
            refine VS_pure (P_move rfl) rfl rfl rfl ?_
            refine VS_pure (P_move rfl) rfl rfl rfl ?_
            refine VS_pure (P_len il22 rfl) rfl rfl rfl ?_
            refine VS_pure (df (P_neq rfl rfl) (by first | assumption | omega | decide | exact fun hx => hx (by assumption))) rfl rfl rfl ?_
            refine VS_pure (P_pick_f rfl rfl) rfl rfl rfl ?_
            refine VS_nil ?_
            refine QS_then ?_
            refine TS_false rfl ?_
            refine TS_skip ?_
            refine QS_then ?_
            refine TS_seq ?_
            refine TS_region ?_
            refine VS_pure (P_fieldAddr0 fo30_1 rfl) rfl rfl rfl ?_
            refine VS_read (S_loadB sg9 rfl (.there (.there (.here))) rfl) rfl rfl rfl ?_
            refine VS_pure (P_len_str rfl st9) rfl rfl rfl ?_
            refine VS_pure (P_assign rfl) rfl rfl rfl ?_
            refine VS_nil ?_
            refine QS_then ?_
            refine TS_seq ?_
            refine TS_seq ?_
            refine TS_region ?_
            refine VS_pure (P_fieldAddr0 fo30_0 rfl) rfl rfl rfl ?_
            refine VS_read (S_loadB sg28 rfl (.there (.there (.here))) rfl) rfl rfl rfl ?_
            refine VS_pure (dt (P_eql rfl rfl) (by first | assumption | rfl | omega | decide)) rfl rfl rfl ?_
            refine VS_nil ?_
            refine QS_then ?_
            refine TS_true rfl ?_
            refine TS_seq ?_
            refine TS_region ?_
            refine VS_pure (P_assign rfl) rfl rfl rfl ?_
            refine VS_nil ?_
            refine QS_then ?_
            refine TS_seq ?_
            refine TS_seq ?_
            refine TS_region ?_
            refine VS_pure (P_fieldAddr0 fo30_2 rfl) rfl rfl rfl ?_
            refine VS_read (S_loadB sg3 rfl (.there (.there (.here))) rfl) rfl rfl rfl ?_
            refine VS_pure (df (P_gtr rfl rfl) (by first | assumption | omega | decide | exact fun hx => hx (by assumption))) rfl rfl rfl ?_
            refine VS_nil ?_
            refine QS_then ?_
            refine TS_false rfl ?_
            refine TS_skip ?_
            refine QS_then ?_
            refine TS_seq ?_
            refine TS_seq ?_
            refine TS_region ?_
            refine VS_pure (P_fieldAddr0 fo30_2 rfl) rfl rfl rfl ?_
            refine VS_read (S_loadB sg3 rfl (.there (.there (.here))) rfl) rfl rfl rfl ?_
            refine VS_pure (df (P_gtr rfl rfl) (by first | assumption | omega | decide | exact fun hx => hx (by assumption))) rfl rfl rfl ?_
            refine VS_nil ?_
            refine QS_then ?_
            refine TS_false rfl ?_
            refine TS_skip ?_
            refine QS_then ?_
            refine TS_seq ?_
            refine TS_region ?_
            refine VS_pure (P_fieldAddr0 fo30_2 rfl) rfl rfl rfl ?_
            refine VS_read (S_loadB sg3 rfl (.there (.there (.here))) rfl) rfl rfl rfl ?_
            refine VS_pure (df (P_lss rfl rfl) (by first | assumption | omega | decide | exact fun hx => hx (by assumption))) rfl rfl rfl ?_
            refine VS_pure (P_move rfl) rfl rfl rfl ?_
            refine VS_pure (P_fieldAddr0 fo30_2 rfl) rfl rfl rfl ?_
            refine VS_read (S_loadB sg3 rfl (.there (.there (.here))) rfl) rfl rfl rfl ?_
            refine VS_pure (df (P_gtr rfl rfl) (by first | assumption | omega | decide | exact fun hx => hx (by assumption))) rfl rfl rfl ?_
            refine VS_pure (P_pick_f rfl rfl) rfl rfl rfl ?_
            refine VS_nil ?_
            refine QS_then ?_
            refine TS_false rfl ?_
            refine TS_skip ?_
            refine QS_then ?_
            refine TS_seq ?_
            refine TS_seq ?_
            refine TS_draw (.step 0 .pure (.step 2 .pure (.step 4 .pure (.step 5 .pure (.step 1 .read (.step 3 .pure (.step 6 .pure (.step 7 .pure (.step 8 .pure (.step 9 .read (.step 10 .pure (.step 11 .pure (.step 12 .pure (.step 13 .pure (.step 15 .pure (.step 17 .pure (.step 20 .pure (.step 14 .read (.step 16 .read (.step 18 .pure (.step 19 .pure (.step 21 .read (.step 22 .pure (.step 23 .pure (.step 24 .pure (.done)))))))))))))))))))))))))) mixed (by kernel_rfl) (fun _ _ _ _ hq => hq) ?_
            refine VTS_pure rfl (P_fieldAddr0 fo30_3 rfl) rfl rfl rfl ?_
            refine VTS_pure rfl (P_move rfl) rfl rfl rfl ?_
            refine VTS_pure rfl (P_move rfl) rfl rfl rfl ?_
            refine VTS_pure rfl (P_len_str rfl st9) rfl rfl rfl ?_
            refine VTS_read rfl (S_loadB sg3 rfl (.there (.there (.here))) rfl) rfl rfl rfl ?_
            refine VTS_pure rfl (P_add rfl rfl (w64 (by omega) (by omega))) rfl rfl rfl ?_
            refine VTS_pure rfl (df (P_gtr rfl rfl) (by first | assumption | omega | decide | exact fun hx => hx (by assumption))) rfl rfl rfl ?_
            refine VTS_pure rfl (P_move rfl) rfl rfl rfl ?_
            refine VTS_pure rfl (P_fieldAddr0 fo30_0 rfl) rfl rfl rfl ?_
            refine VTS_read rfl (S_loadB sg28 rfl (.there (.there (.here))) rfl) rfl rfl rfl ?_
            refine VTS_pure rfl (df (P_neq rfl rfl) (by first | assumption | omega | decide | exact fun hx => hx (by assumption))) rfl rfl rfl ?_
            refine VTS_pure rfl (P_move rfl) rfl rfl rfl ?_
            refine VTS_skip rfl rfl rfl rfl rfl ?_
            refine VTS_skip rfl rfl rfl rfl rfl ?_
            refine VTS_skip rfl rfl rfl rfl rfl ?_
            refine VTS_skip rfl rfl rfl rfl rfl ?_
            refine VTS_skip rfl rfl rfl rfl rfl ?_
            refine VTS_skip rfl rfl rfl rfl rfl ?_
            refine VTS_skip rfl rfl rfl rfl rfl ?_
            refine VTS_skip rfl rfl rfl rfl rfl ?_
            refine VTS_skip rfl rfl rfl rfl rfl ?_
            refine VTS_skip rfl rfl rfl rfl rfl ?_
            refine VTS_skip rfl rfl rfl rfl rfl ?_
            refine VTS_pure rfl (P_pick_f rfl rfl) rfl rfl rfl ?_
            refine VTS_pure rfl (P_pick_f rfl rfl) rfl rfl rfl ?_
            refine VTS_nil ?_
            refine QS_then ?_
            refine TS_false rfl ?_
            refine TS_skip ?_
            refine QS_then ?_
            refine TS_region ?_
            refine VS_pure (P_fieldAddr0 fo30_3 rfl) rfl rfl rfl ?_
            refine VS_read (S_loadB sg3 rfl (.there (.there (.here))) rfl) rfl rfl rfl ?_
            refine VS_pure (P_move rfl) rfl rfl rfl ?_
            refine VS_pure (P_add rfl rfl (w64 (by omega) (by omega))) rfl rfl rfl ?_
            refine VS_pure (P_assign rfl) rfl rfl rfl ?_
            refine VS_nil ?_
            refine QS_block ?_
            refine QS_then ?_
            refine TS_region ?_
            refine VS_pure (P_add rfl rfl (w64 (by omega) (by omega))) rfl rfl rfl ?_
            refine VS_pure (P_move rfl) rfl rfl rfl ?_
            refine VS_nil ?_
            exact QS_round (i + 1, a + 1) ⟨rfl, rfl, rfl, rfl, rfl, rfl, trivial⟩ (Pick.cons (.there (.there (.there .here))) (Pick.nil _)) ⟨by simp only; omega, g1, fun _ => by simp only; rw [hdr]; exact g3, fun h => by simp only at h; omega⟩ (by simp only; omega)
    · have hie : i = ws.length := by omega
      subst hie
      have hne := hend rfl
      subst hne
      refine TS_seq ?_
      refine TS_region ?_
      refine VS_pure (df (P_lss rfl rfl) (by first | assumption | omega | decide | exact fun hx => hx (by assumption))) rfl rfl rfl ?_
      refine VS_nil ?_
      refine QS_then ?_
      refine TS_seq ?_
      refine TS_false rfl ?_
      refine TS_exit ?_
      refine QS_then_exit ?_
      refine QS_round_exit ?_
      refine QS_block_here ?_
      refine QS_then ?_
      refine TS_seq ?_
      refine TS_region ?_
      refine VS_pure (P_move rfl) rfl rfl rfl ?_
      refine VS_pure (P_move rfl) rfl rfl rfl ?_
      refine VS_pure (P_len_str rfl st9) rfl rfl rfl ?_
      refine VS_pure (dt (P_eql rfl rfl) (by first | assumption | rfl | omega | decide)) rfl rfl rfl ?_
      refine VS_pure (P_move rfl) rfl rfl rfl ?_
      refine VS_step (S_callR cl8 rfl (fun m' hm he => (wakes_ok (hT.mono hm))) rfl ?_) rfl
      rintro _ rfl
      refine VS_pure (P_pick_t rfl rfl) rfl rfl rfl ?_
      refine VS_pure (P_assign rfl) rfl rfl rfl ?_
      refine VS_nil ?_
      refine QS_then ?_
      refine TS_ret ?_
      exact QS_ret [_] ⟨rfl, trivial⟩ [] (Pick.nil _) ⟨rfl, rfl⟩
end Go.Proofs.YtigfdclopkagmaaDoor
