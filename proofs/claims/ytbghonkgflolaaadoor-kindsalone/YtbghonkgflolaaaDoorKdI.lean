/- A part of the proof: contracts of functions of the program. No condition. -/
import Derived.Test.YtbghonkgflolaaaDoorKdH
namespace Go.Proofs.YtbghonkgflolaaaDoor
open Go.Eng Kd
set_option maxRecDepth 100000
set_option maxHeartbeats 32000000 in
theorem zero29 {m : Mp} {cs : List Value} {x : EffT} (hx : EffR m cs x) {a : Addr} (hat : At m a cs) : CS Tryd.prog 29 [.pointer (some a)] m [] (Gives (.bool (zeroP x))) := by
  obtain ⟨op, who, nop, nn, nwho, nA, nlen, nc, name, cop, cwho, cname, cA, cla, cca, cB, clb, ccb, A, la, ca, B, lb, cb, n, cond, thn, els, rfl, rfl, -, hn, hc, ⟨ht, ht2, -⟩, ⟨he, he2, -⟩⟩ := EffR.parts hx
  clear hx
  cases hn with
  | @mk _ _ _ nk _ _ _ _ _ hnl hnm _ _ _ =>
  cases hc with
  | @mk _ _ _ cns ck _ _ _ _ _ _ _ _ _ _ _ hla hma _ _ _ hlb hmb _ _ _ =>
  subst hnl hla hlb ht he
  have hatn := hat.sub 2 4
  have hatc := hat.sub 7 5
  dsimp only [List.drop, List.take] at hatn hatc
  show CS Tryd.prog 29 [.pointer (some a)] m [] (Gives (.bool ((countsB op || (decide (nop = 0) && decide (nn = 0) && decide (nwho = 0) && decide (nk.length = 0))) && (decide (op = 7) || decide (name = [])) && (decide (op = 8) || (decide (cop = 0) && decide (cwho = 0) && decide (cname = []) && decide (wsum cns.length ck.length thn.length els.length = 0))))))
  unfold maxLen at hnm hma hmb ht2 he2
  refine CS_of [.tmp 2] Tryd.func29 rfl rfl rfl ?_
  refine TS_seq ?_
  refine TS_region ?_
  refine VS_pure (P_assign rfl) rfl rfl rfl ?_
  refine VS_nil ?_
  refine QS_then ?_
  refine TS_seq ?_
  refine TS_cut (α := Unit) (fun _ => [(0, .pointer (some a)), (3, .bool (countsB op || (decide (nop = 0) && decide (nn = 0) && decide (nwho = 0) && decide (nk.length = 0))))]) (fun _ => []) (fun _ => True) ?_ ?_
  · refine TS_region ?_
    refine VS_pure (P_move rfl) rfl rfl rfl ?_
    refine VS_pure (P_nilCheck rfl) rfl rfl rfl ?_
    refine VS_pure (P_fieldAddr fo47_0 rfl) rfl rfl rfl ?_
    refine VS_read (S_load sg39 rfl (hat.at_ rfl)) rfl rfl rfl ?_
    refine VS_step (S_callR cl30 rfl (fun m' hm he => (counts30 op)) rfl ?_) rfl
    rintro _ rfl
    cases hcb : countsB op with
    | true =>
      refine VS_pure (P_move rfl) rfl rfl rfl ?_
      iterate 31 (refine VS_skip rfl rfl rfl ?_)
      refine VS_pure (P_pick_t rfl rfl) rfl rfl rfl ?_
      refine VS_pure (P_assign rfl) rfl rfl rfl ?_
      refine VS_nil ?_
      exact QS_round () ⟨rfl, rfl, trivial⟩ (Pick.refl _) trivial (by decide)
    | false =>
      rw [Bool.false_or]
      by_cases h1 : nop = 0
      · rw [decide_eq_true h1, Bool.true_and]
        by_cases h2 : nn = 0
        · rw [decide_eq_true h2, Bool.true_and]
          by_cases h3 : nwho = 0
          · rw [decide_eq_true h3, Bool.true_and]
            by_cases h4 : nk.length = 0
            · rw [decide_eq_true h4]
              refine VS_pure (P_move rfl) rfl rfl rfl ?_
              refine VS_pure (P_move rfl) rfl rfl rfl ?_
              refine VS_pure (P_nilCheck rfl) rfl rfl rfl ?_
              refine VS_pure (P_fieldAddr fo47_2 rfl) rfl rfl rfl ?_
              refine VS_pure (P_fieldAddr fo42_0 rfl) rfl rfl rfl ?_
              refine VS_read (S_load sg39 rfl (hatn.at_ rfl)) rfl rfl rfl ?_
              refine VS_pure (dt (P_eql rfl rfl) (by assumption)) rfl rfl rfl ?_
              refine VS_pure (P_move rfl) rfl rfl rfl ?_
              refine VS_pure (P_move rfl) rfl rfl rfl ?_
              refine VS_pure (P_nilCheck rfl) rfl rfl rfl ?_
              refine VS_pure (P_fieldAddr fo47_2 rfl) rfl rfl rfl ?_
              refine VS_pure (P_fieldAddr fo42_1 rfl) rfl rfl rfl ?_
              refine VS_read (S_load sg3 rfl (hatn.at_ rfl)) rfl rfl rfl ?_
              refine VS_pure (dt (P_eql rfl rfl) (by assumption)) rfl rfl rfl ?_
              refine VS_pure (P_pick_t rfl rfl) rfl rfl rfl ?_
              refine VS_pure (P_move rfl) rfl rfl rfl ?_
              refine VS_pure (P_move rfl) rfl rfl rfl ?_
              refine VS_pure (P_nilCheck rfl) rfl rfl rfl ?_
              refine VS_pure (P_fieldAddr fo47_2 rfl) rfl rfl rfl ?_
              refine VS_pure (P_fieldAddr fo42_2 rfl) rfl rfl rfl ?_
              refine VS_read (S_load sg39 rfl (hatn.at_ rfl)) rfl rfl rfl ?_
              refine VS_pure (dt (P_eql rfl rfl) (by assumption)) rfl rfl rfl ?_
              refine VS_pure (P_pick_t rfl rfl) rfl rfl rfl ?_
              refine VS_pure (P_move rfl) rfl rfl rfl ?_
              refine VS_pure (P_move rfl) rfl rfl rfl ?_
              refine VS_pure (P_nilCheck rfl) rfl rfl rfl ?_
              refine VS_pure (P_fieldAddr fo47_2 rfl) rfl rfl rfl ?_
              refine VS_pure (P_fieldAddr fo42_3 rfl) rfl rfl rfl ?_
              refine VS_read (S_load sg40 rfl (hatn.at_ rfl)) rfl rfl rfl ?_
              refine VS_pure (P_len il40 rfl) rfl rfl rfl ?_
              refine VS_pure (dt (P_eql rfl rfl) (by omega)) rfl rfl rfl ?_
              refine VS_pure (P_pick_t rfl rfl) rfl rfl rfl ?_
              refine VS_pure (P_pick_f rfl rfl) rfl rfl rfl ?_
              refine VS_pure (P_assign rfl) rfl rfl rfl ?_
              refine VS_nil ?_
              exact QS_round () ⟨rfl, rfl, trivial⟩ (Pick.refl _) trivial (by decide)
            · rw [decide_eq_false h4]
              refine VS_pure (P_move rfl) rfl rfl rfl ?_
              refine VS_pure (P_move rfl) rfl rfl rfl ?_
              refine VS_pure (P_nilCheck rfl) rfl rfl rfl ?_
              refine VS_pure (P_fieldAddr fo47_2 rfl) rfl rfl rfl ?_
              refine VS_pure (P_fieldAddr fo42_0 rfl) rfl rfl rfl ?_
              refine VS_read (S_load sg39 rfl (hatn.at_ rfl)) rfl rfl rfl ?_
              refine VS_pure (dt (P_eql rfl rfl) (by assumption)) rfl rfl rfl ?_
              refine VS_pure (P_move rfl) rfl rfl rfl ?_
              refine VS_pure (P_move rfl) rfl rfl rfl ?_
              refine VS_pure (P_nilCheck rfl) rfl rfl rfl ?_
              refine VS_pure (P_fieldAddr fo47_2 rfl) rfl rfl rfl ?_
              refine VS_pure (P_fieldAddr fo42_1 rfl) rfl rfl rfl ?_
              refine VS_read (S_load sg3 rfl (hatn.at_ rfl)) rfl rfl rfl ?_
              refine VS_pure (dt (P_eql rfl rfl) (by assumption)) rfl rfl rfl ?_
              refine VS_pure (P_pick_t rfl rfl) rfl rfl rfl ?_
              refine VS_pure (P_move rfl) rfl rfl rfl ?_
              refine VS_pure (P_move rfl) rfl rfl rfl ?_
              refine VS_pure (P_nilCheck rfl) rfl rfl rfl ?_
              refine VS_pure (P_fieldAddr fo47_2 rfl) rfl rfl rfl ?_
              refine VS_pure (P_fieldAddr fo42_2 rfl) rfl rfl rfl ?_
              refine VS_read (S_load sg39 rfl (hatn.at_ rfl)) rfl rfl rfl ?_
              refine VS_pure (dt (P_eql rfl rfl) (by assumption)) rfl rfl rfl ?_
              refine VS_pure (P_pick_t rfl rfl) rfl rfl rfl ?_
              refine VS_pure (P_move rfl) rfl rfl rfl ?_
              refine VS_pure (P_move rfl) rfl rfl rfl ?_
              refine VS_pure (P_nilCheck rfl) rfl rfl rfl ?_
              refine VS_pure (P_fieldAddr fo47_2 rfl) rfl rfl rfl ?_
              refine VS_pure (P_fieldAddr fo42_3 rfl) rfl rfl rfl ?_
              refine VS_read (S_load sg40 rfl (hatn.at_ rfl)) rfl rfl rfl ?_
              refine VS_pure (P_len il40 rfl) rfl rfl rfl ?_
              refine VS_pure (df (P_eql rfl rfl) (by omega)) rfl rfl rfl ?_
              refine VS_pure (P_pick_t rfl rfl) rfl rfl rfl ?_
              refine VS_pure (P_pick_f rfl rfl) rfl rfl rfl ?_
              refine VS_pure (P_assign rfl) rfl rfl rfl ?_
              refine VS_nil ?_
              exact QS_round () ⟨rfl, rfl, trivial⟩ (Pick.refl _) trivial (by decide)
          · rw [decide_eq_false h3, Bool.false_and]
            refine VS_pure (P_move rfl) rfl rfl rfl ?_
            refine VS_pure (P_move rfl) rfl rfl rfl ?_
            refine VS_pure (P_nilCheck rfl) rfl rfl rfl ?_
            refine VS_pure (P_fieldAddr fo47_2 rfl) rfl rfl rfl ?_
            refine VS_pure (P_fieldAddr fo42_0 rfl) rfl rfl rfl ?_
            refine VS_read (S_load sg39 rfl (hatn.at_ rfl)) rfl rfl rfl ?_
            refine VS_pure (dt (P_eql rfl rfl) (by assumption)) rfl rfl rfl ?_
            refine VS_pure (P_move rfl) rfl rfl rfl ?_
            refine VS_pure (P_move rfl) rfl rfl rfl ?_
            refine VS_pure (P_nilCheck rfl) rfl rfl rfl ?_
            refine VS_pure (P_fieldAddr fo47_2 rfl) rfl rfl rfl ?_
            refine VS_pure (P_fieldAddr fo42_1 rfl) rfl rfl rfl ?_
            refine VS_read (S_load sg3 rfl (hatn.at_ rfl)) rfl rfl rfl ?_
            refine VS_pure (dt (P_eql rfl rfl) (by assumption)) rfl rfl rfl ?_
            refine VS_pure (P_pick_t rfl rfl) rfl rfl rfl ?_
            refine VS_pure (P_move rfl) rfl rfl rfl ?_
            refine VS_pure (P_move rfl) rfl rfl rfl ?_
            refine VS_pure (P_nilCheck rfl) rfl rfl rfl ?_
            refine VS_pure (P_fieldAddr fo47_2 rfl) rfl rfl rfl ?_
            refine VS_pure (P_fieldAddr fo42_2 rfl) rfl rfl rfl ?_
            refine VS_read (S_load sg39 rfl (hatn.at_ rfl)) rfl rfl rfl ?_
            refine VS_pure (df (P_eql rfl rfl) (by assumption)) rfl rfl rfl ?_
            refine VS_pure (P_pick_t rfl rfl) rfl rfl rfl ?_
            refine VS_pure (P_move rfl) rfl rfl rfl ?_
            iterate 7 (refine VS_skip rfl rfl rfl ?_)
            refine VS_pure (P_pick_f rfl rfl) rfl rfl rfl ?_
            refine VS_pure (P_pick_f rfl rfl) rfl rfl rfl ?_
            refine VS_pure (P_assign rfl) rfl rfl rfl ?_
            refine VS_nil ?_
            exact QS_round () ⟨rfl, rfl, trivial⟩ (Pick.refl _) trivial (by decide)
        · rw [decide_eq_false h2, Bool.false_and]
          refine VS_pure (P_move rfl) rfl rfl rfl ?_
          refine VS_pure (P_move rfl) rfl rfl rfl ?_
          refine VS_pure (P_nilCheck rfl) rfl rfl rfl ?_
          refine VS_pure (P_fieldAddr fo47_2 rfl) rfl rfl rfl ?_
          refine VS_pure (P_fieldAddr fo42_0 rfl) rfl rfl rfl ?_
          refine VS_read (S_load sg39 rfl (hatn.at_ rfl)) rfl rfl rfl ?_
          refine VS_pure (dt (P_eql rfl rfl) (by assumption)) rfl rfl rfl ?_
          refine VS_pure (P_move rfl) rfl rfl rfl ?_
          refine VS_pure (P_move rfl) rfl rfl rfl ?_
          refine VS_pure (P_nilCheck rfl) rfl rfl rfl ?_
          refine VS_pure (P_fieldAddr fo47_2 rfl) rfl rfl rfl ?_
          refine VS_pure (P_fieldAddr fo42_1 rfl) rfl rfl rfl ?_
          refine VS_read (S_load sg3 rfl (hatn.at_ rfl)) rfl rfl rfl ?_
          refine VS_pure (df (P_eql rfl rfl) (by assumption)) rfl rfl rfl ?_
          refine VS_pure (P_pick_t rfl rfl) rfl rfl rfl ?_
          refine VS_pure (P_move rfl) rfl rfl rfl ?_
          iterate 6 (refine VS_skip rfl rfl rfl ?_)
          refine VS_pure (P_pick_f rfl rfl) rfl rfl rfl ?_
          refine VS_pure (P_move rfl) rfl rfl rfl ?_
          iterate 7 (refine VS_skip rfl rfl rfl ?_)
          refine VS_pure (P_pick_f rfl rfl) rfl rfl rfl ?_
          refine VS_pure (P_pick_f rfl rfl) rfl rfl rfl ?_
          refine VS_pure (P_assign rfl) rfl rfl rfl ?_
          refine VS_nil ?_
          exact QS_round () ⟨rfl, rfl, trivial⟩ (Pick.refl _) trivial (by decide)
      · rw [decide_eq_false h1, Bool.false_and]
        refine VS_pure (P_move rfl) rfl rfl rfl ?_
        refine VS_pure (P_move rfl) rfl rfl rfl ?_
        refine VS_pure (P_nilCheck rfl) rfl rfl rfl ?_
        refine VS_pure (P_fieldAddr fo47_2 rfl) rfl rfl rfl ?_
        refine VS_pure (P_fieldAddr fo42_0 rfl) rfl rfl rfl ?_
        refine VS_read (S_load sg39 rfl (hatn.at_ rfl)) rfl rfl rfl ?_
        refine VS_pure (df (P_eql rfl rfl) (by assumption)) rfl rfl rfl ?_
        refine VS_pure (P_move rfl) rfl rfl rfl ?_
        iterate 6 (refine VS_skip rfl rfl rfl ?_)
        refine VS_pure (P_pick_f rfl rfl) rfl rfl rfl ?_
        refine VS_pure (P_move rfl) rfl rfl rfl ?_
        iterate 6 (refine VS_skip rfl rfl rfl ?_)
        refine VS_pure (P_pick_f rfl rfl) rfl rfl rfl ?_
        refine VS_pure (P_move rfl) rfl rfl rfl ?_
        iterate 7 (refine VS_skip rfl rfl rfl ?_)
        refine VS_pure (P_pick_f rfl rfl) rfl rfl rfl ?_
        refine VS_pure (P_pick_f rfl rfl) rfl rfl rfl ?_
        refine VS_pure (P_assign rfl) rfl rfl rfl ?_
        refine VS_nil ?_
        exact QS_round () ⟨rfl, rfl, trivial⟩ (Pick.refl _) trivial (by decide)
  rintro ⟨⟩ -
  generalize (countsB op || (decide (nop = 0) && decide (nn = 0) && decide (nwho = 0) && decide (nk.length = 0))) = z1
  refine TS_seq ?_
  refine TS_cut (α := Unit) (fun _ => [(0, .pointer (some a)), (3, .bool z1), (4, .bool (decide (op = 7) || decide (name = [])))]) (fun _ => []) (fun _ => True) ?_ ?_
  · by_cases h7 : op = 7
    · rw [decide_eq_true h7, Bool.true_or]
      refine TS_region ?_
      refine VS_pure (P_move rfl) rfl rfl rfl ?_
      refine VS_pure (P_nilCheck rfl) rfl rfl rfl ?_
      refine VS_pure (P_fieldAddr fo47_0 rfl) rfl rfl rfl ?_
      refine VS_read (S_load sg39 rfl (hat.at_ rfl)) rfl rfl rfl ?_
      refine VS_pure (dt (P_eql rfl rfl) (by assumption)) rfl rfl rfl ?_
      refine VS_pure (P_move rfl) rfl rfl rfl ?_
      iterate 5 (refine VS_skip rfl rfl rfl ?_)
      refine VS_pure (P_pick_t rfl rfl) rfl rfl rfl ?_
      refine VS_pure (P_assign rfl) rfl rfl rfl ?_
      refine VS_nil ?_
      exact QS_round () ⟨rfl, rfl, rfl, trivial⟩ (Pick.refl _) trivial (by decide)
    · rw [decide_eq_false h7, Bool.false_or]
      by_cases h1 : name = []
      · rw [decide_eq_true h1]
        refine TS_region ?_
        refine VS_pure (P_move rfl) rfl rfl rfl ?_
        refine VS_pure (P_nilCheck rfl) rfl rfl rfl ?_
        refine VS_pure (P_fieldAddr fo47_0 rfl) rfl rfl rfl ?_
        refine VS_read (S_load sg39 rfl (hat.at_ rfl)) rfl rfl rfl ?_
        refine VS_pure (df (P_eql rfl rfl) (by assumption)) rfl rfl rfl ?_
        refine VS_pure (P_move rfl) rfl rfl rfl ?_
        refine VS_pure (P_move rfl) rfl rfl rfl ?_
        refine VS_pure (P_nilCheck rfl) rfl rfl rfl ?_
        refine VS_pure (P_fieldAddr fo47_3 rfl) rfl rfl rfl ?_
        refine VS_read (S_load sg9 rfl (hat.at_ rfl)) rfl rfl rfl ?_
        refine VS_pure (dt (P_seql rfl rfl) (by assumption)) rfl rfl rfl ?_
        refine VS_pure (P_pick_f rfl rfl) rfl rfl rfl ?_
        refine VS_pure (P_assign rfl) rfl rfl rfl ?_
        refine VS_nil ?_
        exact QS_round () ⟨rfl, rfl, rfl, trivial⟩ (Pick.refl _) trivial (by decide)
      · rw [decide_eq_false h1]
        refine TS_region ?_
        refine VS_pure (P_move rfl) rfl rfl rfl ?_
        refine VS_pure (P_nilCheck rfl) rfl rfl rfl ?_
        refine VS_pure (P_fieldAddr fo47_0 rfl) rfl rfl rfl ?_
        refine VS_read (S_load sg39 rfl (hat.at_ rfl)) rfl rfl rfl ?_
        refine VS_pure (df (P_eql rfl rfl) (by assumption)) rfl rfl rfl ?_
        refine VS_pure (P_move rfl) rfl rfl rfl ?_
        refine VS_pure (P_move rfl) rfl rfl rfl ?_
        refine VS_pure (P_nilCheck rfl) rfl rfl rfl ?_
        refine VS_pure (P_fieldAddr fo47_3 rfl) rfl rfl rfl ?_
        refine VS_read (S_load sg9 rfl (hat.at_ rfl)) rfl rfl rfl ?_
        refine VS_pure (df (P_seql rfl rfl) (by assumption)) rfl rfl rfl ?_
        refine VS_pure (P_pick_f rfl rfl) rfl rfl rfl ?_
        refine VS_pure (P_assign rfl) rfl rfl rfl ?_
        refine VS_nil ?_
        exact QS_round () ⟨rfl, rfl, rfl, trivial⟩ (Pick.refl _) trivial (by decide)
  rintro ⟨⟩ -
  generalize (decide (op = 7) || decide (name = [])) = z2
  refine TS_seq ?_
  refine TS_region ?_
  refine VS_pure (P_move rfl) rfl rfl rfl ?_
  refine VS_pure (P_nilCheck rfl) rfl rfl rfl ?_
  refine VS_pure (P_fieldAddr fo47_4 rfl) rfl rfl rfl ?_
  refine VS_pure (P_assign rfl) rfl rfl rfl ?_
  refine VS_nil ?_
  refine QS_then ?_
  refine TS_seq ?_
  refine TS_cut (α := Unit) (fun _ => [(0, .pointer (some a)), (3, .bool z1), (4, .bool z2), (6, .bool (decide (op = 8) || (decide (cop = 0) && decide (cwho = 0) && decide (cname = []) && decide (wsum cns.length ck.length thn.length els.length = 0))))]) (fun _ => []) (fun _ => True) ?_ ?_
  · by_cases h8 : op = 8
    · rw [decide_eq_true h8, Bool.true_or]
      refine TS_draw (.step 0 .pure (.step 1 .pure (.step 2 .pure (.step 3 .read (.step 4 .pure (.step 5 .pure (.step 6 .pure (.step 7 .pure (.step 8 .pure (.step 9 .read (.step 10 .pure (.step 11 .pure (.step 12 .pure (.step 13 .pure (.step 14 .pure (.step 15 .read (.step 16 .pure (.step 17 .pure (.step 18 .pure (.step 19 .pure (.step 20 .pure (.step 21 .pure (.step 22 .read (.step 23 .pure (.step 24 .pure (.step 25 .pure (.step 26 .pure (.step 27 .pure (.step 28 .pure (.step 31 .pure (.step 32 .pure (.step 33 .pure (.step 37 .pure (.step 38 .pure (.step 39 .pure (.step 43 .pure (.step 44 .pure (.step 45 .pure (.step 29 .read (.step 30 .pure (.step 34 .read (.step 35 .pure (.step 36 .pure (.step 40 .read (.step 41 .pure (.step 42 .pure (.step 46 .read (.step 47 .pure (.step 48 .pure (.step 49 .pure (.step 50 .pure (.step 51 .pure (.step 52 .pure (.done)))))))))))))))))))))))))))))))))))))))))))))))))))))) mixed (by kernel_rfl) (fun _ _ _ _ hq => hq) ?_
      refine VTS_pure rfl (P_move rfl) rfl rfl rfl ?_
      refine VTS_pure rfl (P_nilCheck rfl) rfl rfl rfl ?_
      refine VTS_pure rfl (P_fieldAddr fo47_0 rfl) rfl rfl rfl ?_
      refine VTS_read rfl (S_load sg39 rfl (hat.at_ rfl)) rfl rfl rfl ?_
      refine VTS_pure rfl (dt (P_eql rfl rfl) (by assumption)) rfl rfl rfl ?_
      refine VTS_pure rfl (P_move rfl) rfl rfl rfl ?_
      iterate 45 (refine VTS_skip rfl rfl rfl rfl rfl ?_)
      refine VTS_pure rfl (P_pick_t rfl rfl) rfl rfl rfl ?_
      refine VTS_pure rfl (P_assign rfl) rfl rfl rfl ?_
      refine VTS_nil ?_
      exact QS_round () ⟨rfl, rfl, rfl, rfl, trivial⟩ (Pick.refl _) trivial (by decide)
    · rw [decide_eq_false h8, Bool.false_or]
      by_cases h1 : cop = 0
      · rw [decide_eq_true h1, Bool.true_and]
        by_cases h2 : cwho = 0
        · rw [decide_eq_true h2, Bool.true_and]
          by_cases h3 : cname = []
          · rw [decide_eq_true h3, Bool.true_and]
            by_cases h4 : wsum cns.length ck.length thn.length els.length = 0
            · rw [decide_eq_true h4]
              unfold wsum at h4
              refine TS_draw (.step 0 .pure (.step 1 .pure (.step 2 .pure (.step 3 .read (.step 4 .pure (.step 5 .pure (.step 6 .pure (.step 7 .pure (.step 8 .pure (.step 9 .read (.step 10 .pure (.step 11 .pure (.step 12 .pure (.step 13 .pure (.step 14 .pure (.step 15 .read (.step 16 .pure (.step 17 .pure (.step 18 .pure (.step 19 .pure (.step 20 .pure (.step 21 .pure (.step 22 .read (.step 23 .pure (.step 24 .pure (.step 25 .pure (.step 26 .pure (.step 27 .pure (.step 28 .pure (.step 31 .pure (.step 32 .pure (.step 33 .pure (.step 37 .pure (.step 38 .pure (.step 39 .pure (.step 43 .pure (.step 44 .pure (.step 45 .pure (.step 29 .read (.step 30 .pure (.step 34 .read (.step 35 .pure (.step 36 .pure (.step 40 .read (.step 41 .pure (.step 42 .pure (.step 46 .read (.step 47 .pure (.step 48 .pure (.step 49 .pure (.step 50 .pure (.step 51 .pure (.step 52 .pure (.done)))))))))))))))))))))))))))))))))))))))))))))))))))))) mixed (by kernel_rfl) (fun _ _ _ _ hq => hq) ?_
              refine VTS_pure rfl (P_move rfl) rfl rfl rfl ?_
              refine VTS_pure rfl (P_nilCheck rfl) rfl rfl rfl ?_
              refine VTS_pure rfl (P_fieldAddr fo47_0 rfl) rfl rfl rfl ?_
              refine VTS_read rfl (S_load sg39 rfl (hat.at_ rfl)) rfl rfl rfl ?_
              refine VTS_pure rfl (df (P_eql rfl rfl) (by assumption)) rfl rfl rfl ?_
              refine VTS_pure rfl (P_move rfl) rfl rfl rfl ?_
              refine VTS_pure rfl (P_move rfl) rfl rfl rfl ?_
              refine VTS_pure rfl (P_nilCheck rfl) rfl rfl rfl ?_
              refine VTS_pure rfl (P_fieldAddr fo45_0 rfl) rfl rfl rfl ?_
              refine VTS_read rfl (S_load sg39 rfl (hatc.at_ rfl)) rfl rfl rfl ?_
              refine VTS_pure rfl (dt (P_eql rfl rfl) (by assumption)) rfl rfl rfl ?_
              refine VTS_pure rfl (P_move rfl) rfl rfl rfl ?_
              refine VTS_pure rfl (P_move rfl) rfl rfl rfl ?_
              refine VTS_pure rfl (P_nilCheck rfl) rfl rfl rfl ?_
              refine VTS_pure rfl (P_fieldAddr fo45_1 rfl) rfl rfl rfl ?_
              refine VTS_read rfl (S_load sg39 rfl (hatc.at_ rfl)) rfl rfl rfl ?_
              refine VTS_pure rfl (dt (P_eql rfl rfl) (by assumption)) rfl rfl rfl ?_
              refine VTS_pure rfl (P_pick_t rfl rfl) rfl rfl rfl ?_
              refine VTS_pure rfl (P_move rfl) rfl rfl rfl ?_
              refine VTS_pure rfl (P_move rfl) rfl rfl rfl ?_
              refine VTS_pure rfl (P_nilCheck rfl) rfl rfl rfl ?_
              refine VTS_pure rfl (P_fieldAddr fo45_2 rfl) rfl rfl rfl ?_
              refine VTS_read rfl (S_load sg9 rfl (hatc.at_ rfl)) rfl rfl rfl ?_
              refine VTS_pure rfl (dt (P_seql rfl rfl) (by assumption)) rfl rfl rfl ?_
              refine VTS_pure rfl (P_pick_t rfl rfl) rfl rfl rfl ?_
              refine VTS_pure rfl (P_move rfl) rfl rfl rfl ?_
              refine VTS_pure rfl (P_move rfl) rfl rfl rfl ?_
              refine VTS_pure rfl (P_nilCheck rfl) rfl rfl rfl ?_
              refine VTS_pure rfl (P_fieldAddr fo45_3 rfl) rfl rfl rfl ?_
              refine VTS_pure rfl (P_move rfl) rfl rfl rfl ?_
              refine VTS_pure rfl (P_nilCheck rfl) rfl rfl rfl ?_
              refine VTS_pure rfl (P_fieldAddr fo45_4 rfl) rfl rfl rfl ?_
              refine VTS_pure rfl (P_move rfl) rfl rfl rfl ?_
              refine VTS_pure rfl (P_nilCheck rfl) rfl rfl rfl ?_
              refine VTS_pure rfl (P_fieldAddr fo47_5 rfl) rfl rfl rfl ?_
              refine VTS_pure rfl (P_move rfl) rfl rfl rfl ?_
              refine VTS_pure rfl (P_nilCheck rfl) rfl rfl rfl ?_
              refine VTS_pure rfl (P_fieldAddr fo47_6 rfl) rfl rfl rfl ?_
              refine VTS_read rfl (S_load sg40 rfl (hatc.at_ rfl)) rfl rfl rfl ?_
              refine VTS_pure rfl (P_len il40 rfl) rfl rfl rfl ?_
              refine VTS_read rfl (S_load sg43 rfl (hatc.at_ rfl)) rfl rfl rfl ?_
              refine VTS_pure rfl (P_len il43 rfl) rfl rfl rfl ?_
              refine VTS_pure rfl (P_add rfl rfl rfl) rfl rfl rfl ?_
              refine VTS_read rfl (S_load sg29 rfl (hat.at_ rfl)) rfl rfl rfl ?_
              refine VTS_pure rfl (P_len il29 rfl) rfl rfl rfl ?_
              refine VTS_pure rfl (P_add rfl rfl rfl) rfl rfl rfl ?_
              refine VTS_read rfl (S_load sg29 rfl (hat.at_ rfl)) rfl rfl rfl ?_
              refine VTS_pure rfl (P_len il29 rfl) rfl rfl rfl ?_
              refine VTS_pure rfl (P_add rfl rfl rfl) rfl rfl rfl ?_
              refine VTS_pure rfl (dt (P_eql rfl rfl) (by assumption)) rfl rfl rfl ?_
              refine VTS_pure rfl (P_pick_t rfl rfl) rfl rfl rfl ?_
              refine VTS_pure rfl (P_pick_f rfl rfl) rfl rfl rfl ?_
              refine VTS_pure rfl (P_assign rfl) rfl rfl rfl ?_
              refine VTS_nil ?_
              exact QS_round () ⟨rfl, rfl, rfl, rfl, trivial⟩ (Pick.refl _) trivial (by decide)
            · rw [decide_eq_false h4]
              unfold wsum at h4
              refine TS_draw (.step 0 .pure (.step 1 .pure (.step 2 .pure (.step 3 .read (.step 4 .pure (.step 5 .pure (.step 6 .pure (.step 7 .pure (.step 8 .pure (.step 9 .read (.step 10 .pure (.step 11 .pure (.step 12 .pure (.step 13 .pure (.step 14 .pure (.step 15 .read (.step 16 .pure (.step 17 .pure (.step 18 .pure (.step 19 .pure (.step 20 .pure (.step 21 .pure (.step 22 .read (.step 23 .pure (.step 24 .pure (.step 25 .pure (.step 26 .pure (.step 27 .pure (.step 28 .pure (.step 31 .pure (.step 32 .pure (.step 33 .pure (.step 37 .pure (.step 38 .pure (.step 39 .pure (.step 43 .pure (.step 44 .pure (.step 45 .pure (.step 29 .read (.step 30 .pure (.step 34 .read (.step 35 .pure (.step 36 .pure (.step 40 .read (.step 41 .pure (.step 42 .pure (.step 46 .read (.step 47 .pure (.step 48 .pure (.step 49 .pure (.step 50 .pure (.step 51 .pure (.step 52 .pure (.done)))))))))))))))))))))))))))))))))))))))))))))))))))))) mixed (by kernel_rfl) (fun _ _ _ _ hq => hq) ?_
              refine VTS_pure rfl (P_move rfl) rfl rfl rfl ?_
              refine VTS_pure rfl (P_nilCheck rfl) rfl rfl rfl ?_
              refine VTS_pure rfl (P_fieldAddr fo47_0 rfl) rfl rfl rfl ?_
              refine VTS_read rfl (S_load sg39 rfl (hat.at_ rfl)) rfl rfl rfl ?_
              refine VTS_pure rfl (df (P_eql rfl rfl) (by assumption)) rfl rfl rfl ?_
              refine VTS_pure rfl (P_move rfl) rfl rfl rfl ?_
              refine VTS_pure rfl (P_move rfl) rfl rfl rfl ?_
              refine VTS_pure rfl (P_nilCheck rfl) rfl rfl rfl ?_
              refine VTS_pure rfl (P_fieldAddr fo45_0 rfl) rfl rfl rfl ?_
              refine VTS_read rfl (S_load sg39 rfl (hatc.at_ rfl)) rfl rfl rfl ?_
              refine VTS_pure rfl (dt (P_eql rfl rfl) (by assumption)) rfl rfl rfl ?_
              refine VTS_pure rfl (P_move rfl) rfl rfl rfl ?_
              refine VTS_pure rfl (P_move rfl) rfl rfl rfl ?_
              refine VTS_pure rfl (P_nilCheck rfl) rfl rfl rfl ?_
              refine VTS_pure rfl (P_fieldAddr fo45_1 rfl) rfl rfl rfl ?_
              refine VTS_read rfl (S_load sg39 rfl (hatc.at_ rfl)) rfl rfl rfl ?_
              refine VTS_pure rfl (dt (P_eql rfl rfl) (by assumption)) rfl rfl rfl ?_
              refine VTS_pure rfl (P_pick_t rfl rfl) rfl rfl rfl ?_
              refine VTS_pure rfl (P_move rfl) rfl rfl rfl ?_
              refine VTS_pure rfl (P_move rfl) rfl rfl rfl ?_
              refine VTS_pure rfl (P_nilCheck rfl) rfl rfl rfl ?_
              refine VTS_pure rfl (P_fieldAddr fo45_2 rfl) rfl rfl rfl ?_
              refine VTS_read rfl (S_load sg9 rfl (hatc.at_ rfl)) rfl rfl rfl ?_
              refine VTS_pure rfl (dt (P_seql rfl rfl) (by assumption)) rfl rfl rfl ?_
              refine VTS_pure rfl (P_pick_t rfl rfl) rfl rfl rfl ?_
              refine VTS_pure rfl (P_move rfl) rfl rfl rfl ?_
              refine VTS_pure rfl (P_move rfl) rfl rfl rfl ?_
              refine VTS_pure rfl (P_nilCheck rfl) rfl rfl rfl ?_
              refine VTS_pure rfl (P_fieldAddr fo45_3 rfl) rfl rfl rfl ?_
              refine VTS_pure rfl (P_move rfl) rfl rfl rfl ?_
              refine VTS_pure rfl (P_nilCheck rfl) rfl rfl rfl ?_
              refine VTS_pure rfl (P_fieldAddr fo45_4 rfl) rfl rfl rfl ?_
              refine VTS_pure rfl (P_move rfl) rfl rfl rfl ?_
              refine VTS_pure rfl (P_nilCheck rfl) rfl rfl rfl ?_
              refine VTS_pure rfl (P_fieldAddr fo47_5 rfl) rfl rfl rfl ?_
              refine VTS_pure rfl (P_move rfl) rfl rfl rfl ?_
              refine VTS_pure rfl (P_nilCheck rfl) rfl rfl rfl ?_
              refine VTS_pure rfl (P_fieldAddr fo47_6 rfl) rfl rfl rfl ?_
              refine VTS_read rfl (S_load sg40 rfl (hatc.at_ rfl)) rfl rfl rfl ?_
              refine VTS_pure rfl (P_len il40 rfl) rfl rfl rfl ?_
              refine VTS_read rfl (S_load sg43 rfl (hatc.at_ rfl)) rfl rfl rfl ?_
              refine VTS_pure rfl (P_len il43 rfl) rfl rfl rfl ?_
              refine VTS_pure rfl (P_add rfl rfl rfl) rfl rfl rfl ?_
              refine VTS_read rfl (S_load sg29 rfl (hat.at_ rfl)) rfl rfl rfl ?_
              refine VTS_pure rfl (P_len il29 rfl) rfl rfl rfl ?_
              refine VTS_pure rfl (P_add rfl rfl rfl) rfl rfl rfl ?_
              refine VTS_read rfl (S_load sg29 rfl (hat.at_ rfl)) rfl rfl rfl ?_
              refine VTS_pure rfl (P_len il29 rfl) rfl rfl rfl ?_
              refine VTS_pure rfl (P_add rfl rfl rfl) rfl rfl rfl ?_
              refine VTS_pure rfl (df (P_eql rfl rfl) (by assumption)) rfl rfl rfl ?_
              refine VTS_pure rfl (P_pick_t rfl rfl) rfl rfl rfl ?_
              refine VTS_pure rfl (P_pick_f rfl rfl) rfl rfl rfl ?_
              refine VTS_pure rfl (P_assign rfl) rfl rfl rfl ?_
              refine VTS_nil ?_
              exact QS_round () ⟨rfl, rfl, rfl, rfl, trivial⟩ (Pick.refl _) trivial (by decide)
          · rw [decide_eq_false h3, Bool.false_and]
            refine TS_draw (.step 0 .pure (.step 1 .pure (.step 2 .pure (.step 3 .read (.step 4 .pure (.step 5 .pure (.step 6 .pure (.step 7 .pure (.step 8 .pure (.step 9 .read (.step 10 .pure (.step 11 .pure (.step 12 .pure (.step 13 .pure (.step 14 .pure (.step 15 .read (.step 16 .pure (.step 17 .pure (.step 18 .pure (.step 19 .pure (.step 20 .pure (.step 21 .pure (.step 22 .read (.step 23 .pure (.step 24 .pure (.step 25 .pure (.step 26 .pure (.step 27 .pure (.step 28 .pure (.step 31 .pure (.step 32 .pure (.step 33 .pure (.step 37 .pure (.step 38 .pure (.step 39 .pure (.step 43 .pure (.step 44 .pure (.step 45 .pure (.step 29 .read (.step 30 .pure (.step 34 .read (.step 35 .pure (.step 36 .pure (.step 40 .read (.step 41 .pure (.step 42 .pure (.step 46 .read (.step 47 .pure (.step 48 .pure (.step 49 .pure (.step 50 .pure (.step 51 .pure (.step 52 .pure (.done)))))))))))))))))))))))))))))))))))))))))))))))))))))) mixed (by kernel_rfl) (fun _ _ _ _ hq => hq) ?_
            refine VTS_pure rfl (P_move rfl) rfl rfl rfl ?_
            refine VTS_pure rfl (P_nilCheck rfl) rfl rfl rfl ?_
            refine VTS_pure rfl (P_fieldAddr fo47_0 rfl) rfl rfl rfl ?_
            refine VTS_read rfl (S_load sg39 rfl (hat.at_ rfl)) rfl rfl rfl ?_
            refine VTS_pure rfl (df (P_eql rfl rfl) (by assumption)) rfl rfl rfl ?_
            refine VTS_pure rfl (P_move rfl) rfl rfl rfl ?_
            refine VTS_pure rfl (P_move rfl) rfl rfl rfl ?_
            refine VTS_pure rfl (P_nilCheck rfl) rfl rfl rfl ?_
            refine VTS_pure rfl (P_fieldAddr fo45_0 rfl) rfl rfl rfl ?_
            refine VTS_read rfl (S_load sg39 rfl (hatc.at_ rfl)) rfl rfl rfl ?_
            refine VTS_pure rfl (dt (P_eql rfl rfl) (by assumption)) rfl rfl rfl ?_
            refine VTS_pure rfl (P_move rfl) rfl rfl rfl ?_
            refine VTS_pure rfl (P_move rfl) rfl rfl rfl ?_
            refine VTS_pure rfl (P_nilCheck rfl) rfl rfl rfl ?_
            refine VTS_pure rfl (P_fieldAddr fo45_1 rfl) rfl rfl rfl ?_
            refine VTS_read rfl (S_load sg39 rfl (hatc.at_ rfl)) rfl rfl rfl ?_
            refine VTS_pure rfl (dt (P_eql rfl rfl) (by assumption)) rfl rfl rfl ?_
            refine VTS_pure rfl (P_pick_t rfl rfl) rfl rfl rfl ?_
            refine VTS_pure rfl (P_move rfl) rfl rfl rfl ?_
            refine VTS_pure rfl (P_move rfl) rfl rfl rfl ?_
            refine VTS_pure rfl (P_nilCheck rfl) rfl rfl rfl ?_
            refine VTS_pure rfl (P_fieldAddr fo45_2 rfl) rfl rfl rfl ?_
            refine VTS_read rfl (S_load sg9 rfl (hatc.at_ rfl)) rfl rfl rfl ?_
            refine VTS_pure rfl (df (P_seql rfl rfl) (by assumption)) rfl rfl rfl ?_
            refine VTS_pure rfl (P_pick_t rfl rfl) rfl rfl rfl ?_
            refine VTS_pure rfl (P_move rfl) rfl rfl rfl ?_
            iterate 24 (refine VTS_skip rfl rfl rfl rfl rfl ?_)
            refine VTS_pure rfl (P_pick_f rfl rfl) rfl rfl rfl ?_
            refine VTS_pure rfl (P_pick_f rfl rfl) rfl rfl rfl ?_
            refine VTS_pure rfl (P_assign rfl) rfl rfl rfl ?_
            refine VTS_nil ?_
            exact QS_round () ⟨rfl, rfl, rfl, rfl, trivial⟩ (Pick.refl _) trivial (by decide)
        · rw [decide_eq_false h2, Bool.false_and]
          refine TS_draw (.step 0 .pure (.step 1 .pure (.step 2 .pure (.step 3 .read (.step 4 .pure (.step 5 .pure (.step 6 .pure (.step 7 .pure (.step 8 .pure (.step 9 .read (.step 10 .pure (.step 11 .pure (.step 12 .pure (.step 13 .pure (.step 14 .pure (.step 15 .read (.step 16 .pure (.step 17 .pure (.step 18 .pure (.step 19 .pure (.step 20 .pure (.step 21 .pure (.step 22 .read (.step 23 .pure (.step 24 .pure (.step 25 .pure (.step 26 .pure (.step 27 .pure (.step 28 .pure (.step 31 .pure (.step 32 .pure (.step 33 .pure (.step 37 .pure (.step 38 .pure (.step 39 .pure (.step 43 .pure (.step 44 .pure (.step 45 .pure (.step 29 .read (.step 30 .pure (.step 34 .read (.step 35 .pure (.step 36 .pure (.step 40 .read (.step 41 .pure (.step 42 .pure (.step 46 .read (.step 47 .pure (.step 48 .pure (.step 49 .pure (.step 50 .pure (.step 51 .pure (.step 52 .pure (.done)))))))))))))))))))))))))))))))))))))))))))))))))))))) mixed (by kernel_rfl) (fun _ _ _ _ hq => hq) ?_
          refine VTS_pure rfl (P_move rfl) rfl rfl rfl ?_
          refine VTS_pure rfl (P_nilCheck rfl) rfl rfl rfl ?_
          refine VTS_pure rfl (P_fieldAddr fo47_0 rfl) rfl rfl rfl ?_
          refine VTS_read rfl (S_load sg39 rfl (hat.at_ rfl)) rfl rfl rfl ?_
          refine VTS_pure rfl (df (P_eql rfl rfl) (by assumption)) rfl rfl rfl ?_
          refine VTS_pure rfl (P_move rfl) rfl rfl rfl ?_
          refine VTS_pure rfl (P_move rfl) rfl rfl rfl ?_
          refine VTS_pure rfl (P_nilCheck rfl) rfl rfl rfl ?_
          refine VTS_pure rfl (P_fieldAddr fo45_0 rfl) rfl rfl rfl ?_
          refine VTS_read rfl (S_load sg39 rfl (hatc.at_ rfl)) rfl rfl rfl ?_
          refine VTS_pure rfl (dt (P_eql rfl rfl) (by assumption)) rfl rfl rfl ?_
          refine VTS_pure rfl (P_move rfl) rfl rfl rfl ?_
          refine VTS_pure rfl (P_move rfl) rfl rfl rfl ?_
          refine VTS_pure rfl (P_nilCheck rfl) rfl rfl rfl ?_
          refine VTS_pure rfl (P_fieldAddr fo45_1 rfl) rfl rfl rfl ?_
          refine VTS_read rfl (S_load sg39 rfl (hatc.at_ rfl)) rfl rfl rfl ?_
          refine VTS_pure rfl (df (P_eql rfl rfl) (by assumption)) rfl rfl rfl ?_
          refine VTS_pure rfl (P_pick_t rfl rfl) rfl rfl rfl ?_
          refine VTS_pure rfl (P_move rfl) rfl rfl rfl ?_
          iterate 5 (refine VTS_skip rfl rfl rfl rfl rfl ?_)
          refine VTS_pure rfl (P_pick_f rfl rfl) rfl rfl rfl ?_
          refine VTS_pure rfl (P_move rfl) rfl rfl rfl ?_
          iterate 24 (refine VTS_skip rfl rfl rfl rfl rfl ?_)
          refine VTS_pure rfl (P_pick_f rfl rfl) rfl rfl rfl ?_
          refine VTS_pure rfl (P_pick_f rfl rfl) rfl rfl rfl ?_
          refine VTS_pure rfl (P_assign rfl) rfl rfl rfl ?_
          refine VTS_nil ?_
          exact QS_round () ⟨rfl, rfl, rfl, rfl, trivial⟩ (Pick.refl _) trivial (by decide)
      · rw [decide_eq_false h1, Bool.false_and]
        refine TS_draw (.step 0 .pure (.step 1 .pure (.step 2 .pure (.step 3 .read (.step 4 .pure (.step 5 .pure (.step 6 .pure (.step 7 .pure (.step 8 .pure (.step 9 .read (.step 10 .pure (.step 11 .pure (.step 12 .pure (.step 13 .pure (.step 14 .pure (.step 15 .read (.step 16 .pure (.step 17 .pure (.step 18 .pure (.step 19 .pure (.step 20 .pure (.step 21 .pure (.step 22 .read (.step 23 .pure (.step 24 .pure (.step 25 .pure (.step 26 .pure (.step 27 .pure (.step 28 .pure (.step 31 .pure (.step 32 .pure (.step 33 .pure (.step 37 .pure (.step 38 .pure (.step 39 .pure (.step 43 .pure (.step 44 .pure (.step 45 .pure (.step 29 .read (.step 30 .pure (.step 34 .read (.step 35 .pure (.step 36 .pure (.step 40 .read (.step 41 .pure (.step 42 .pure (.step 46 .read (.step 47 .pure (.step 48 .pure (.step 49 .pure (.step 50 .pure (.step 51 .pure (.step 52 .pure (.done)))))))))))))))))))))))))))))))))))))))))))))))))))))) mixed (by kernel_rfl) (fun _ _ _ _ hq => hq) ?_
        refine VTS_pure rfl (P_move rfl) rfl rfl rfl ?_
        refine VTS_pure rfl (P_nilCheck rfl) rfl rfl rfl ?_
        refine VTS_pure rfl (P_fieldAddr fo47_0 rfl) rfl rfl rfl ?_
        refine VTS_read rfl (S_load sg39 rfl (hat.at_ rfl)) rfl rfl rfl ?_
        refine VTS_pure rfl (df (P_eql rfl rfl) (by assumption)) rfl rfl rfl ?_
        refine VTS_pure rfl (P_move rfl) rfl rfl rfl ?_
        refine VTS_pure rfl (P_move rfl) rfl rfl rfl ?_
        refine VTS_pure rfl (P_nilCheck rfl) rfl rfl rfl ?_
        refine VTS_pure rfl (P_fieldAddr fo45_0 rfl) rfl rfl rfl ?_
        refine VTS_read rfl (S_load sg39 rfl (hatc.at_ rfl)) rfl rfl rfl ?_
        refine VTS_pure rfl (df (P_eql rfl rfl) (by assumption)) rfl rfl rfl ?_
        refine VTS_pure rfl (P_move rfl) rfl rfl rfl ?_
        iterate 5 (refine VTS_skip rfl rfl rfl rfl rfl ?_)
        refine VTS_pure rfl (P_pick_f rfl rfl) rfl rfl rfl ?_
        refine VTS_pure rfl (P_move rfl) rfl rfl rfl ?_
        iterate 5 (refine VTS_skip rfl rfl rfl rfl rfl ?_)
        refine VTS_pure rfl (P_pick_f rfl rfl) rfl rfl rfl ?_
        refine VTS_pure rfl (P_move rfl) rfl rfl rfl ?_
        iterate 24 (refine VTS_skip rfl rfl rfl rfl rfl ?_)
        refine VTS_pure rfl (P_pick_f rfl rfl) rfl rfl rfl ?_
        refine VTS_pure rfl (P_pick_f rfl rfl) rfl rfl rfl ?_
        refine VTS_pure rfl (P_assign rfl) rfl rfl rfl ?_
        refine VTS_nil ?_
        exact QS_round () ⟨rfl, rfl, rfl, rfl, trivial⟩ (Pick.refl _) trivial (by decide)
  rintro ⟨⟩ -
  generalize (decide (op = 8) || (decide (cop = 0) && decide (cwho = 0) && decide (cname = []) && decide (wsum cns.length ck.length thn.length els.length = 0))) = z3
  cases z1 with
  | false =>
    refine TS_seq ?_
    refine TS_region ?_
    refine VS_pure (P_move rfl) rfl rfl rfl ?_
    refine VS_pure (P_move rfl) rfl rfl rfl ?_
    refine VS_skip rfl rfl rfl ?_
    refine VS_pure (P_pick_f rfl rfl) rfl rfl rfl ?_
    refine VS_pure (P_move rfl) rfl rfl rfl ?_
    refine VS_skip rfl rfl rfl ?_
    refine VS_pure (P_pick_f rfl rfl) rfl rfl rfl ?_
    refine VS_pure (P_assign rfl) rfl rfl rfl ?_
    refine VS_nil ?_
    refine QS_then ?_
    refine TS_ret ?_
    exact QS_ret [_] ⟨rfl, trivial⟩ [] (Pick.nil _) ⟨rfl, rfl⟩
  | true =>
    cases z2 with
    | false =>
      refine TS_seq ?_
      refine TS_region ?_
      iterate 3 (refine VS_pure (P_move rfl) rfl rfl rfl ?_)
      refine VS_pure (P_pick_t rfl rfl) rfl rfl rfl ?_
      refine VS_pure (P_move rfl) rfl rfl rfl ?_
      refine VS_skip rfl rfl rfl ?_
      refine VS_pure (P_pick_f rfl rfl) rfl rfl rfl ?_
      refine VS_pure (P_assign rfl) rfl rfl rfl ?_
      refine VS_nil ?_
      refine QS_then ?_
      refine TS_ret ?_
      exact QS_ret [_] ⟨rfl, trivial⟩ [] (Pick.nil _) ⟨rfl, rfl⟩
    | true =>
      refine TS_seq ?_
      refine TS_region ?_
      iterate 3 (refine VS_pure (P_move rfl) rfl rfl rfl ?_)
      refine VS_pure (P_pick_t rfl rfl) rfl rfl rfl ?_
      refine VS_pure (P_move rfl) rfl rfl rfl ?_
      refine VS_pure (P_move rfl) rfl rfl rfl ?_
      refine VS_pure (P_pick_t rfl rfl) rfl rfl rfl ?_
      refine VS_pure (P_assign rfl) rfl rfl rfl ?_
      refine VS_nil ?_
      refine QS_then ?_
      refine TS_ret ?_
      exact QS_ret [_] ⟨rfl, trivial⟩ [] (Pick.nil _) ⟨rfl, rfl⟩
end Go.Proofs.YtbghonkgflolaaaDoor
