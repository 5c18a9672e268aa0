/- A part of the proof: contracts of functions of the program. No condition. -/
import Derived.Test.YtbghonkgflolaaaDoorKdG
namespace Go.Proofs.YtbghonkgflolaaaDoor
open Go.Eng Kd
set_option maxRecDepth 100000
/-- the checker of a card: what is known, may a target be asked? -/
def CkR (m : Mp) (b : Nat) (l : List (List UInt8 × Bool)) (t : Bool) : Prop := ∃ bm, mc m ⟨b, 0, none⟩ = some (.map (some bm)) ∧ mc m ⟨b, 1, none⟩ = some (.bool t) ∧ MapAt m bm (esU l)
theorem CkR.mono {m m' : Mp} {b : Nat} {l : List (List UInt8 × Bool)} {t : Bool} (h : CkR m b l t) (hl : Le m m') : CkR m' b l t := let ⟨bm, h1, h2, h3⟩ := h; ⟨bm, mc_mono hl h1, mc_mono hl h2, h3.mono hl⟩
set_option maxHeartbeats 32000000 in
theorem cond33 {m0 : Mp} {cs : List Value} {x : CondT} (hx : CondR m0 cs x) : ∀ m, Le m0 m → ∀ (a : Addr) (b : Nat) (l : List (List UInt8 × Bool)) (t : Bool), At m a cs → CkR m b l t →
    CS Tryd.prog 33 [.pointer (some ⟨b, 0, none⟩), .pointer (some a)] m [] (fun v L' => L' = [] ∧ ∃ r, v = .bool r ∧ (r = true ↔ CondOk (uOf l) t x)) := by
  induction hx with
  | @mk op who name nums kids A B la ca lb cb vs us ho hw hn hla hma hra hva hka hlb hmb hrb hvb hkb ih =>
  subst hla hlb
  intro m hm a b l t hat hck
  have hck0 := hck
  obtain ⟨bm, hk0, hk1, hmap⟩ := hck
  unfold maxLen at hma hmb
  refine CS_of [.tmp 4] Tryd.func33 rfl rfl rfl ?_
  refine TS_seq ?_
  refine TS_region ?_
  refine VS_pure (P_assign rfl) rfl rfl rfl ?_
  refine VS_nil ?_
  refine QS_then ?_
  refine TS_seq ?_
  refine TS_region ?_
  refine VS_pure (P_assign rfl) rfl rfl rfl ?_
  refine VS_pure (P_assign rfl) rfl rfl rfl ?_
  refine VS_nil ?_
  refine QS_then ?_
  refine TS_seq ?_
  refine TS_cut (α := Unit) (fun _ => [(0, .pointer (some ⟨b, 0, none⟩)), (1, .pointer (some a)), (5, .int .i64 0), (6, .int .i64 0), (7, .bool (decide (who = 0) && decide (name = [])))]) (fun _ => []) (fun _ => True) ?_ ?_
  · by_cases hw0 : who = 0
    · rw [decide_eq_true hw0, Bool.true_and]
      by_cases hn0 : name = []
      · rw [decide_eq_true hn0]
        refine TS_region ?_
        refine VS_pure (P_move rfl) rfl rfl rfl ?_
        refine VS_pure (P_nilCheck rfl) rfl rfl rfl ?_
        refine VS_pure (P_fieldAddr fo45_1 rfl) rfl rfl rfl ?_
        refine VS_read (S_load sg39 rfl (hat.at_ rfl)) rfl rfl rfl ?_
        refine VS_pure (dt (P_eql rfl rfl) (by assumption)) rfl rfl rfl ?_
        refine VS_pure (P_move rfl) rfl rfl rfl ?_
        refine VS_pure (P_move rfl) rfl rfl rfl ?_
        refine VS_pure (P_nilCheck rfl) rfl rfl rfl ?_
        refine VS_pure (P_fieldAddr fo45_2 rfl) rfl rfl rfl ?_
        refine VS_read (S_load sg9 rfl (hat.at_ rfl)) rfl rfl rfl ?_
        refine VS_pure (dt (P_seql rfl rfl) (by assumption)) rfl rfl rfl ?_
        refine VS_pure (P_pick_t rfl rfl) rfl rfl rfl ?_
        refine VS_pure (P_assign rfl) rfl rfl rfl ?_
        refine VS_nil ?_
        exact QS_round () ⟨rfl, rfl, rfl, rfl, rfl, trivial⟩ (Pick.refl _) trivial (by decide)
      · rw [decide_eq_false hn0]
        refine TS_region ?_
        refine VS_pure (P_move rfl) rfl rfl rfl ?_
        refine VS_pure (P_nilCheck rfl) rfl rfl rfl ?_
        refine VS_pure (P_fieldAddr fo45_1 rfl) rfl rfl rfl ?_
        refine VS_read (S_load sg39 rfl (hat.at_ rfl)) rfl rfl rfl ?_
        refine VS_pure (dt (P_eql rfl rfl) (by assumption)) rfl rfl rfl ?_
        refine VS_pure (P_move rfl) rfl rfl rfl ?_
        refine VS_pure (P_move rfl) rfl rfl rfl ?_
        refine VS_pure (P_nilCheck rfl) rfl rfl rfl ?_
        refine VS_pure (P_fieldAddr fo45_2 rfl) rfl rfl rfl ?_
        refine VS_read (S_load sg9 rfl (hat.at_ rfl)) rfl rfl rfl ?_
        refine VS_pure (df (P_seql rfl rfl) (by assumption)) rfl rfl rfl ?_
        refine VS_pure (P_pick_t rfl rfl) rfl rfl rfl ?_
        refine VS_pure (P_assign rfl) rfl rfl rfl ?_
        refine VS_nil ?_
        exact QS_round () ⟨rfl, rfl, rfl, rfl, rfl, trivial⟩ (Pick.refl _) trivial (by decide)
    · rw [decide_eq_false hw0, Bool.false_and]
      refine TS_region ?_
      refine VS_pure (P_move rfl) rfl rfl rfl ?_
      refine VS_pure (P_nilCheck rfl) rfl rfl rfl ?_
      refine VS_pure (P_fieldAddr fo45_1 rfl) rfl rfl rfl ?_
      refine VS_read (S_load sg39 rfl (hat.at_ rfl)) rfl rfl rfl ?_
      refine VS_pure (df (P_eql rfl rfl) (by assumption)) rfl rfl rfl ?_
      refine VS_pure (P_move rfl) rfl rfl rfl ?_
      iterate 5 (refine VS_skip rfl rfl rfl ?_)
      refine VS_pure (P_pick_f rfl rfl) rfl rfl rfl ?_
      refine VS_pure (P_assign rfl) rfl rfl rfl ?_
      refine VS_nil ?_
      exact QS_round () ⟨rfl, rfl, rfl, rfl, rfl, trivial⟩ (Pick.refl _) trivial (by decide)
  rintro ⟨⟩ -
  refine TS_seq ?_
  refine TS_seq ?_
  refine TS_cut3 (α := Nat × Nat × Bool) (fun y => [(0, .pointer (some ⟨b, 0, none⟩)), (1, .pointer (some a)), (5, .int .i64 (y.1 : Nat)), (6, .int .i64 (y.2.1 : Nat)), (7, .bool y.2.2)]) (fun _ => []) (fun y => condHead (uOf l) op who name nums.length kids.length = (y.2.2 && decide (nums.length = y.1) && decide (kids.length = y.2.1))) ?_ ?_
  · generalize hz : (decide (who = 0) && decide (name = [])) = z0
    by_cases e0 : op = 0
    · refine TS_region ?_
      refine VS_pure (P_move rfl) rfl rfl rfl ?_
      refine VS_pure (P_nilCheck rfl) rfl rfl rfl ?_
      refine VS_pure (P_fieldAddr fo45_0 rfl) rfl rfl rfl ?_
      refine VS_read (S_load sg39 rfl (hat.at_ rfl)) rfl rfl rfl ?_
      refine VS_nil ?_
      refine QS_then ?_
      refine TS_block ?_
      refine TS_seq ?_
      refine TS_seq ?_
      refine TS_region ?_
      refine VS_pure (dt (P_eql rfl rfl) (by assumption)) rfl rfl rfl ?_
      refine VS_pure (P_assign rfl) rfl rfl rfl ?_
      refine VS_nil ?_
      refine QS_then ?_
      refine TS_true rfl ?_
      refine TS_skip ?_
      refine QS_then ?_
      refine TS_true rfl ?_
      refine TS_region ?_
      refine VS_pure (P_assign rfl) rfl rfl rfl ?_
      refine VS_nil ?_
      refine QS_block ?_
      exact QS_round (2, 0, z0) ⟨rfl, rfl, rfl, rfl, rfl, trivial⟩ (Pick.refl _) (by simp [condHead, *]) (by decide)
    by_cases e1 : op = 1
    · refine TS_region ?_
      refine VS_pure (P_move rfl) rfl rfl rfl ?_
      refine VS_pure (P_nilCheck rfl) rfl rfl rfl ?_
      refine VS_pure (P_fieldAddr fo45_0 rfl) rfl rfl rfl ?_
      refine VS_read (S_load sg39 rfl (hat.at_ rfl)) rfl rfl rfl ?_
      refine VS_nil ?_
      refine QS_then ?_
      refine TS_block ?_
      refine TS_seq ?_
      refine TS_seq ?_
      refine TS_region ?_
      refine VS_pure (df (P_eql rfl rfl) (by assumption)) rfl rfl rfl ?_
      refine VS_pure (P_assign rfl) rfl rfl rfl ?_
      refine VS_nil ?_
      refine QS_then ?_
      refine TS_false rfl ?_
      refine TS_seq ?_
      refine TS_region ?_
      refine VS_pure (dt (P_eql rfl rfl) (by assumption)) rfl rfl rfl ?_
      refine VS_pure (P_assign rfl) rfl rfl rfl ?_
      refine VS_nil ?_
      refine QS_then ?_
      refine TS_true rfl ?_
      refine TS_skip ?_
      refine QS_then ?_
      refine TS_true rfl ?_
      refine TS_region ?_
      refine VS_pure (P_assign rfl) rfl rfl rfl ?_
      refine VS_nil ?_
      refine QS_block ?_
      exact QS_round (2, 0, z0) ⟨rfl, rfl, rfl, rfl, rfl, trivial⟩ (Pick.refl _) (by simp [condHead, *]) (by decide)
    by_cases e2 : op = 2
    · refine TS_region ?_
      refine VS_pure (P_move rfl) rfl rfl rfl ?_
      refine VS_pure (P_nilCheck rfl) rfl rfl rfl ?_
      refine VS_pure (P_fieldAddr fo45_0 rfl) rfl rfl rfl ?_
      refine VS_read (S_load sg39 rfl (hat.at_ rfl)) rfl rfl rfl ?_
      refine VS_nil ?_
      refine QS_then ?_
      refine TS_block ?_
      refine TS_seq ?_
      refine TS_seq ?_
      refine TS_region ?_
      refine VS_pure (df (P_eql rfl rfl) (by assumption)) rfl rfl rfl ?_
      refine VS_pure (P_assign rfl) rfl rfl rfl ?_
      refine VS_nil ?_
      refine QS_then ?_
      refine TS_false rfl ?_
      refine TS_seq ?_
      refine TS_region ?_
      refine VS_pure (df (P_eql rfl rfl) (by assumption)) rfl rfl rfl ?_
      refine VS_pure (P_assign rfl) rfl rfl rfl ?_
      refine VS_nil ?_
      refine QS_then ?_
      refine TS_false rfl ?_
      refine TS_region ?_
      refine VS_pure (dt (P_eql rfl rfl) (by assumption)) rfl rfl rfl ?_
      refine VS_pure (P_assign rfl) rfl rfl rfl ?_
      refine VS_nil ?_
      refine QS_then ?_
      refine TS_true rfl ?_
      refine TS_region ?_
      refine VS_pure (P_assign rfl) rfl rfl rfl ?_
      refine VS_nil ?_
      refine QS_block ?_
      exact QS_round (2, 0, z0) ⟨rfl, rfl, rfl, rfl, rfl, trivial⟩ (Pick.refl _) (by simp [condHead, *]) (by decide)
    by_cases e3 : op = 3
    · refine TS_region ?_
      refine VS_pure (P_move rfl) rfl rfl rfl ?_
      refine VS_pure (P_nilCheck rfl) rfl rfl rfl ?_
      refine VS_pure (P_fieldAddr fo45_0 rfl) rfl rfl rfl ?_
      refine VS_read (S_load sg39 rfl (hat.at_ rfl)) rfl rfl rfl ?_
      refine VS_nil ?_
      refine QS_then ?_
      refine TS_block ?_
      refine TS_seq ?_
      refine TS_seq ?_
      refine TS_region ?_
      refine VS_pure (df (P_eql rfl rfl) (by assumption)) rfl rfl rfl ?_
      refine VS_pure (P_assign rfl) rfl rfl rfl ?_
      refine VS_nil ?_
      refine QS_then ?_
      refine TS_false rfl ?_
      refine TS_seq ?_
      refine TS_region ?_
      refine VS_pure (df (P_eql rfl rfl) (by assumption)) rfl rfl rfl ?_
      refine VS_pure (P_assign rfl) rfl rfl rfl ?_
      refine VS_nil ?_
      refine QS_then ?_
      refine TS_false rfl ?_
      refine TS_region ?_
      refine VS_pure (df (P_eql rfl rfl) (by assumption)) rfl rfl rfl ?_
      refine VS_pure (P_assign rfl) rfl rfl rfl ?_
      refine VS_nil ?_
      refine QS_then ?_
      refine TS_false rfl ?_
      refine TS_seq ?_
      refine TS_region ?_
      refine VS_pure (dt (P_eql rfl rfl) (by assumption)) rfl rfl rfl ?_
      refine VS_pure (P_assign rfl) rfl rfl rfl ?_
      refine VS_nil ?_
      refine QS_then ?_
      refine TS_true rfl ?_
      refine TS_region ?_
      refine VS_pure (P_assign rfl) rfl rfl rfl ?_
      refine VS_nil ?_
      refine QS_block ?_
      exact QS_round (0, 1, z0) ⟨rfl, rfl, rfl, rfl, rfl, trivial⟩ (Pick.refl _) (by simp [condHead, *]) (by decide)
    by_cases e4 : op = 4
    · refine TS_region ?_
      refine VS_pure (P_move rfl) rfl rfl rfl ?_
      refine VS_pure (P_nilCheck rfl) rfl rfl rfl ?_
      refine VS_pure (P_fieldAddr fo45_0 rfl) rfl rfl rfl ?_
      refine VS_read (S_load sg39 rfl (hat.at_ rfl)) rfl rfl rfl ?_
      refine VS_nil ?_
      refine QS_then ?_
      refine TS_block ?_
      refine TS_seq ?_
      refine TS_seq ?_
      refine TS_region ?_
      refine VS_pure (df (P_eql rfl rfl) (by assumption)) rfl rfl rfl ?_
      refine VS_pure (P_assign rfl) rfl rfl rfl ?_
      refine VS_nil ?_
      refine QS_then ?_
      refine TS_false rfl ?_
      refine TS_seq ?_
      refine TS_region ?_
      refine VS_pure (df (P_eql rfl rfl) (by assumption)) rfl rfl rfl ?_
      refine VS_pure (P_assign rfl) rfl rfl rfl ?_
      refine VS_nil ?_
      refine QS_then ?_
      refine TS_false rfl ?_
      refine TS_region ?_
      refine VS_pure (df (P_eql rfl rfl) (by assumption)) rfl rfl rfl ?_
      refine VS_pure (P_assign rfl) rfl rfl rfl ?_
      refine VS_nil ?_
      refine QS_then ?_
      refine TS_false rfl ?_
      refine TS_seq ?_
      refine TS_region ?_
      refine VS_pure (df (P_eql rfl rfl) (by assumption)) rfl rfl rfl ?_
      refine VS_pure (P_assign rfl) rfl rfl rfl ?_
      refine VS_nil ?_
      refine QS_then ?_
      refine TS_false rfl ?_
      refine TS_seq ?_
      refine TS_seq ?_
      refine TS_region ?_
      refine VS_pure (dt (P_eql rfl rfl) (by assumption)) rfl rfl rfl ?_
      refine VS_pure (P_assign rfl) rfl rfl rfl ?_
      refine VS_nil ?_
      refine QS_then ?_
      refine TS_true rfl ?_
      refine TS_skip ?_
      refine QS_then ?_
      refine TS_true rfl ?_
      refine TS_region ?_
      refine VS_pure (P_assign rfl) rfl rfl rfl ?_
      refine VS_nil ?_
      refine QS_block ?_
      exact QS_round (0, 2, z0) ⟨rfl, rfl, rfl, rfl, rfl, trivial⟩ (Pick.refl _) (by simp [condHead, *]) (by decide)
    by_cases e5 : op = 5
    · refine TS_region ?_
      refine VS_pure (P_move rfl) rfl rfl rfl ?_
      refine VS_pure (P_nilCheck rfl) rfl rfl rfl ?_
      refine VS_pure (P_fieldAddr fo45_0 rfl) rfl rfl rfl ?_
      refine VS_read (S_load sg39 rfl (hat.at_ rfl)) rfl rfl rfl ?_
      refine VS_nil ?_
      refine QS_then ?_
      refine TS_block ?_
      refine TS_seq ?_
      refine TS_seq ?_
      refine TS_region ?_
      refine VS_pure (df (P_eql rfl rfl) (by assumption)) rfl rfl rfl ?_
      refine VS_pure (P_assign rfl) rfl rfl rfl ?_
      refine VS_nil ?_
      refine QS_then ?_
      refine TS_false rfl ?_
      refine TS_seq ?_
      refine TS_region ?_
      refine VS_pure (df (P_eql rfl rfl) (by assumption)) rfl rfl rfl ?_
      refine VS_pure (P_assign rfl) rfl rfl rfl ?_
      refine VS_nil ?_
      refine QS_then ?_
      refine TS_false rfl ?_
      refine TS_region ?_
      refine VS_pure (df (P_eql rfl rfl) (by assumption)) rfl rfl rfl ?_
      refine VS_pure (P_assign rfl) rfl rfl rfl ?_
      refine VS_nil ?_
      refine QS_then ?_
      refine TS_false rfl ?_
      refine TS_seq ?_
      refine TS_region ?_
      refine VS_pure (df (P_eql rfl rfl) (by assumption)) rfl rfl rfl ?_
      refine VS_pure (P_assign rfl) rfl rfl rfl ?_
      refine VS_nil ?_
      refine QS_then ?_
      refine TS_false rfl ?_
      refine TS_seq ?_
      refine TS_seq ?_
      refine TS_region ?_
      refine VS_pure (df (P_eql rfl rfl) (by assumption)) rfl rfl rfl ?_
      refine VS_pure (P_assign rfl) rfl rfl rfl ?_
      refine VS_nil ?_
      refine QS_then ?_
      refine TS_false rfl ?_
      refine TS_region ?_
      refine VS_pure (dt (P_eql rfl rfl) (by assumption)) rfl rfl rfl ?_
      refine VS_pure (P_assign rfl) rfl rfl rfl ?_
      refine VS_nil ?_
      refine QS_then ?_
      refine TS_true rfl ?_
      refine TS_region ?_
      refine VS_pure (P_assign rfl) rfl rfl rfl ?_
      refine VS_nil ?_
      refine QS_block ?_
      exact QS_round (0, 2, z0) ⟨rfl, rfl, rfl, rfl, rfl, trivial⟩ (Pick.refl _) (by simp [condHead, *]) (by decide)
    by_cases e6 : op = 6
    · have hgu := getM_esU (s := name) (l := l)
      cases hu : uOf l name with
      | none =>
        rw [hu] at hgu
        refine TS_region ?_
        refine VS_pure (P_move rfl) rfl rfl rfl ?_
        refine VS_pure (P_nilCheck rfl) rfl rfl rfl ?_
        refine VS_pure (P_fieldAddr fo45_0 rfl) rfl rfl rfl ?_
        refine VS_read (S_load sg39 rfl (hat.at_ rfl)) rfl rfl rfl ?_
        refine VS_nil ?_
        refine QS_then ?_
        refine TS_block ?_
        refine TS_seq ?_
        refine TS_seq ?_
        refine TS_region ?_
        refine VS_pure (df (P_eql rfl rfl) (by assumption)) rfl rfl rfl ?_
        refine VS_pure (P_assign rfl) rfl rfl rfl ?_
        refine VS_nil ?_
        refine QS_then ?_
        refine TS_false rfl ?_
        refine TS_seq ?_
        refine TS_region ?_
        refine VS_pure (df (P_eql rfl rfl) (by assumption)) rfl rfl rfl ?_
        refine VS_pure (P_assign rfl) rfl rfl rfl ?_
        refine VS_nil ?_
        refine QS_then ?_
        refine TS_false rfl ?_
        refine TS_region ?_
        refine VS_pure (df (P_eql rfl rfl) (by assumption)) rfl rfl rfl ?_
        refine VS_pure (P_assign rfl) rfl rfl rfl ?_
        refine VS_nil ?_
        refine QS_then ?_
        refine TS_false rfl ?_
        refine TS_seq ?_
        refine TS_region ?_
        refine VS_pure (df (P_eql rfl rfl) (by assumption)) rfl rfl rfl ?_
        refine VS_pure (P_assign rfl) rfl rfl rfl ?_
        refine VS_nil ?_
        refine QS_then ?_
        refine TS_false rfl ?_
        refine TS_seq ?_
        refine TS_seq ?_
        refine TS_region ?_
        refine VS_pure (df (P_eql rfl rfl) (by assumption)) rfl rfl rfl ?_
        refine VS_pure (P_assign rfl) rfl rfl rfl ?_
        refine VS_nil ?_
        refine QS_then ?_
        refine TS_false rfl ?_
        refine TS_region ?_
        refine VS_pure (df (P_eql rfl rfl) (by assumption)) rfl rfl rfl ?_
        refine VS_pure (P_assign rfl) rfl rfl rfl ?_
        refine VS_nil ?_
        refine QS_then ?_
        refine TS_false rfl ?_
        refine TS_seq ?_
        refine TS_region ?_
        refine VS_pure (dt (P_eql rfl rfl) (by assumption)) rfl rfl rfl ?_
        refine VS_pure (P_assign rfl) rfl rfl rfl ?_
        refine VS_nil ?_
        refine QS_then ?_
        refine TS_true rfl ?_
        refine TS_seq ?_
        refine TS_draw (.step 0 .pure (.step 1 .pure (.step 2 .pure (.step 4 .pure (.step 5 .pure (.step 6 .pure (.step 3 .read (.step 7 .read (.step 8 .read (.step 9 .pure (.step 10 .pure (.step 11 .pure (.step 12 .pure (.done)))))))))))))) mixed (by kernel_rfl) (fun _ _ _ _ hq => hq) ?_
        refine VTS_pure rfl (P_move rfl) rfl rfl rfl ?_
        refine VTS_pure rfl (P_nilCheck rfl) rfl rfl rfl ?_
        refine VTS_pure rfl (P_fieldAddr0 fo55_0 rfl) rfl rfl rfl ?_
        refine VTS_pure rfl (P_move rfl) rfl rfl rfl ?_
        refine VTS_pure rfl (P_nilCheck rfl) rfl rfl rfl ?_
        refine VTS_pure rfl (P_fieldAddr fo45_2 rfl) rfl rfl rfl ?_
        refine VTS_read rfl (S_load sg35 rfl hk0) rfl rfl rfl ?_
        refine VTS_read rfl (S_load sg9 rfl (hat.at_ rfl)) rfl rfl rfl ?_
        refine VTS_read rfl (S_lookupM2 hmap ms35 rfl rfl mz35) rfl rfl rfl ?_
        refine VTS_pure rfl (P_move rfl) rfl rfl rfl ?_
        refine VTS_pure rfl (P_extract rfl rfl) rfl rfl rfl ?_
        refine VTS_pure rfl (P_extract rfl rfl) rfl rfl rfl ?_
        refine VTS_pure rfl (P_assign rfl) rfl rfl rfl ?_
        refine VTS_nil ?_
        refine QS_then ?_
        refine TS_region ?_
        refine VS_pure (P_move rfl) rfl rfl rfl ?_
        refine VS_pure (P_move rfl) rfl rfl rfl ?_
        rw [hgu]
        iterate 5 (refine VS_skip rfl rfl rfl ?_)
        refine VS_pure (P_pick_f rfl rfl) rfl rfl rfl ?_
        refine VS_pure (P_assign rfl) rfl rfl rfl ?_
        refine VS_nil ?_
        refine QS_block ?_
        exact QS_round (0, 0, false) ⟨rfl, rfl, rfl, rfl, rfl, trivial⟩ (Pick.refl _) (by simp [condHead, *]) (by decide)
      | some u =>
        rw [hu] at hgu
        refine TS_region ?_
        refine VS_pure (P_move rfl) rfl rfl rfl ?_
        refine VS_pure (P_nilCheck rfl) rfl rfl rfl ?_
        refine VS_pure (P_fieldAddr fo45_0 rfl) rfl rfl rfl ?_
        refine VS_read (S_load sg39 rfl (hat.at_ rfl)) rfl rfl rfl ?_
        refine VS_nil ?_
        refine QS_then ?_
        refine TS_block ?_
        refine TS_seq ?_
        refine TS_seq ?_
        refine TS_region ?_
        refine VS_pure (df (P_eql rfl rfl) (by assumption)) rfl rfl rfl ?_
        refine VS_pure (P_assign rfl) rfl rfl rfl ?_
        refine VS_nil ?_
        refine QS_then ?_
        refine TS_false rfl ?_
        refine TS_seq ?_
        refine TS_region ?_
        refine VS_pure (df (P_eql rfl rfl) (by assumption)) rfl rfl rfl ?_
        refine VS_pure (P_assign rfl) rfl rfl rfl ?_
        refine VS_nil ?_
        refine QS_then ?_
        refine TS_false rfl ?_
        refine TS_region ?_
        refine VS_pure (df (P_eql rfl rfl) (by assumption)) rfl rfl rfl ?_
        refine VS_pure (P_assign rfl) rfl rfl rfl ?_
        refine VS_nil ?_
        refine QS_then ?_
        refine TS_false rfl ?_
        refine TS_seq ?_
        refine TS_region ?_
        refine VS_pure (df (P_eql rfl rfl) (by assumption)) rfl rfl rfl ?_
        refine VS_pure (P_assign rfl) rfl rfl rfl ?_
        refine VS_nil ?_
        refine QS_then ?_
        refine TS_false rfl ?_
        refine TS_seq ?_
        refine TS_seq ?_
        refine TS_region ?_
        refine VS_pure (df (P_eql rfl rfl) (by assumption)) rfl rfl rfl ?_
        refine VS_pure (P_assign rfl) rfl rfl rfl ?_
        refine VS_nil ?_
        refine QS_then ?_
        refine TS_false rfl ?_
        refine TS_region ?_
        refine VS_pure (df (P_eql rfl rfl) (by assumption)) rfl rfl rfl ?_
        refine VS_pure (P_assign rfl) rfl rfl rfl ?_
        refine VS_nil ?_
        refine QS_then ?_
        refine TS_false rfl ?_
        refine TS_seq ?_
        refine TS_region ?_
        refine VS_pure (dt (P_eql rfl rfl) (by assumption)) rfl rfl rfl ?_
        refine VS_pure (P_assign rfl) rfl rfl rfl ?_
        refine VS_nil ?_
        refine QS_then ?_
        refine TS_true rfl ?_
        refine TS_seq ?_
        refine TS_draw (.step 0 .pure (.step 1 .pure (.step 2 .pure (.step 4 .pure (.step 5 .pure (.step 6 .pure (.step 3 .read (.step 7 .read (.step 8 .read (.step 9 .pure (.step 10 .pure (.step 11 .pure (.step 12 .pure (.done)))))))))))))) mixed (by kernel_rfl) (fun _ _ _ _ hq => hq) ?_
        refine VTS_pure rfl (P_move rfl) rfl rfl rfl ?_
        refine VTS_pure rfl (P_nilCheck rfl) rfl rfl rfl ?_
        refine VTS_pure rfl (P_fieldAddr0 fo55_0 rfl) rfl rfl rfl ?_
        refine VTS_pure rfl (P_move rfl) rfl rfl rfl ?_
        refine VTS_pure rfl (P_nilCheck rfl) rfl rfl rfl ?_
        refine VTS_pure rfl (P_fieldAddr fo45_2 rfl) rfl rfl rfl ?_
        refine VTS_read rfl (S_load sg35 rfl hk0) rfl rfl rfl ?_
        refine VTS_read rfl (S_load sg9 rfl (hat.at_ rfl)) rfl rfl rfl ?_
        refine VTS_read rfl (S_lookupM2 hmap ms35 rfl rfl mz35) rfl rfl rfl ?_
        refine VTS_pure rfl (P_move rfl) rfl rfl rfl ?_
        refine VTS_pure rfl (P_extract rfl rfl) rfl rfl rfl ?_
        refine VTS_pure rfl (P_extract rfl rfl) rfl rfl rfl ?_
        refine VTS_pure rfl (P_assign rfl) rfl rfl rfl ?_
        refine VTS_nil ?_
        refine QS_then ?_
        refine TS_region ?_
        refine VS_pure (P_move rfl) rfl rfl rfl ?_
        refine VS_pure (P_move rfl) rfl rfl rfl ?_
        rw [hgu]
        refine VS_pure (P_move rfl) rfl rfl rfl ?_
        refine VS_pure (P_nilCheck rfl) rfl rfl rfl ?_
        refine VS_pure (P_fieldAddr fo45_1 rfl) rfl rfl rfl ?_
        refine VS_read (S_load sg39 rfl (hat.at_ rfl)) rfl rfl rfl ?_
        refine VS_step (S_callR cl32 rfl (fun m' hm he => (side32 who)) rfl ?_) rfl
        rintro _ rfl
        refine VS_pure (P_pick_t rfl rfl) rfl rfl rfl ?_
        refine VS_pure (P_assign rfl) rfl rfl rfl ?_
        refine VS_nil ?_
        refine QS_block ?_
        exact QS_round (0, 0, sideB who) ⟨rfl, rfl, rfl, rfl, rfl, trivial⟩ (Pick.refl _) (by simp [condHead, *]) (by decide)
    refine TS_region ?_
    refine VS_pure (P_move rfl) rfl rfl rfl ?_
    refine VS_pure (P_nilCheck rfl) rfl rfl rfl ?_
    refine VS_pure (P_fieldAddr fo45_0 rfl) rfl rfl rfl ?_
    refine VS_read (S_load sg39 rfl (hat.at_ rfl)) rfl rfl rfl ?_
    refine VS_nil ?_
    refine QS_then ?_
    refine TS_block ?_
    refine TS_seq ?_
    refine TS_seq ?_
    refine TS_region ?_
    refine VS_pure (df (P_eql rfl rfl) (by assumption)) rfl rfl rfl ?_
    refine VS_pure (P_assign rfl) rfl rfl rfl ?_
    refine VS_nil ?_
    refine QS_then ?_
    refine TS_false rfl ?_
    refine TS_seq ?_
    refine TS_region ?_
    refine VS_pure (df (P_eql rfl rfl) (by assumption)) rfl rfl rfl ?_
    refine VS_pure (P_assign rfl) rfl rfl rfl ?_
    refine VS_nil ?_
    refine QS_then ?_
    refine TS_false rfl ?_
    refine TS_region ?_
    refine VS_pure (df (P_eql rfl rfl) (by assumption)) rfl rfl rfl ?_
    refine VS_pure (P_assign rfl) rfl rfl rfl ?_
    refine VS_nil ?_
    refine QS_then ?_
    refine TS_false rfl ?_
    refine TS_seq ?_
    refine TS_region ?_
    refine VS_pure (df (P_eql rfl rfl) (by assumption)) rfl rfl rfl ?_
    refine VS_pure (P_assign rfl) rfl rfl rfl ?_
    refine VS_nil ?_
    refine QS_then ?_
    refine TS_false rfl ?_
    refine TS_seq ?_
    refine TS_seq ?_
    refine TS_region ?_
    refine VS_pure (df (P_eql rfl rfl) (by assumption)) rfl rfl rfl ?_
    refine VS_pure (P_assign rfl) rfl rfl rfl ?_
    refine VS_nil ?_
    refine QS_then ?_
    refine TS_false rfl ?_
    refine TS_region ?_
    refine VS_pure (df (P_eql rfl rfl) (by assumption)) rfl rfl rfl ?_
    refine VS_pure (P_assign rfl) rfl rfl rfl ?_
    refine VS_nil ?_
    refine QS_then ?_
    refine TS_false rfl ?_
    refine TS_seq ?_
    refine TS_region ?_
    refine VS_pure (df (P_eql rfl rfl) (by assumption)) rfl rfl rfl ?_
    refine VS_pure (P_assign rfl) rfl rfl rfl ?_
    refine VS_nil ?_
    refine QS_then ?_
    refine TS_false rfl ?_
    refine TS_seq ?_
    refine TS_region ?_
    refine VS_pure (P_assign rfl) rfl rfl rfl ?_
    refine VS_nil ?_
    refine QS_then ?_
    refine TS_ret ?_
    refine QS_block_ret ?_
    refine QS_round_ret ?_
    exact QS_ret [_] ⟨rfl, trivial⟩ [] (Pick.nil _) ⟨rfl, false, rfl, fun h => (by cases h), fun h => by cases h with | mk hh _ _ => simp [condHead, *] at hh⟩
  rintro ⟨k1, k2, o⟩ hh
  try dsimp only at hh
  try dsimp only
  by_cases hg : condHead (uOf l) op who name nums.length kids.length = true
  · rw [hg] at hh
    have hh2 := hh.symm
    simp only [Bool.and_eq_true, decide_eq_true_eq] at hh2
    obtain ⟨⟨rfl, e1⟩, e2⟩ := hh2
    have e1' : ((nums.length : Nat) : Int) = (k1 : Nat) := by omega
    have e2' : ((kids.length : Nat) : Int) = (k2 : Nat) := by omega
    refine TS_seq ?_
    refine TS_seq ?_
    refine TS_region ?_
    refine VS_pure (P_move rfl) rfl rfl rfl ?_
    refine VS_pure (P_not rfl) rfl rfl rfl ?_
    refine VS_pure (P_move rfl) rfl rfl rfl ?_
    refine VS_pure (P_move rfl) rfl rfl rfl ?_
    refine VS_pure (P_nilCheck rfl) rfl rfl rfl ?_
    refine VS_pure (P_fieldAddr fo45_3 rfl) rfl rfl rfl ?_
    refine VS_read (S_load sg40 rfl (hat.at_ rfl)) rfl rfl rfl ?_
    refine VS_pure (P_len il40 rfl) rfl rfl rfl ?_
    refine VS_pure (P_move rfl) rfl rfl rfl ?_
    refine VS_pure (df (P_neq rfl rfl) (by omega)) rfl rfl rfl ?_
    refine VS_pure (P_pick_f rfl rfl) rfl rfl rfl ?_
    refine VS_pure (P_move rfl) rfl rfl rfl ?_
    refine VS_pure (P_move rfl) rfl rfl rfl ?_
    refine VS_pure (P_nilCheck rfl) rfl rfl rfl ?_
    refine VS_pure (P_fieldAddr fo45_4 rfl) rfl rfl rfl ?_
    refine VS_read (S_load sg43 rfl (hat.at_ rfl)) rfl rfl rfl ?_
    refine VS_pure (P_len il43 rfl) rfl rfl rfl ?_
    refine VS_pure (P_move rfl) rfl rfl rfl ?_
    refine VS_pure (df (P_neq rfl rfl) (by omega)) rfl rfl rfl ?_
    refine VS_pure (P_pick_f rfl rfl) rfl rfl rfl ?_
    refine VS_nil ?_
    refine QS_then ?_
    refine TS_false rfl ?_
    refine TS_skip ?_
    refine QS_then ?_
    refine TS_seq ?_
    refine TS_seq ?_
    refine TS_region ?_
    refine VS_pure (P_move rfl) rfl rfl rfl ?_
    refine VS_pure (P_nilCheck rfl) rfl rfl rfl ?_
    refine VS_pure (P_fieldAddr fo45_3 rfl) rfl rfl rfl ?_
    refine VS_read (S_load sg40 rfl (hat.at_ rfl)) rfl rfl rfl ?_
    refine VS_pure (P_len il40 rfl) rfl rfl rfl ?_
    refine VS_pure (P_move rfl) rfl rfl rfl ?_
    refine VS_nil ?_
    refine QS_then ?_
    refine TS_block ?_
    refine TS_loop (α := Nat) (fun i => [(0, .pointer (some ⟨b, 0, none⟩)), (1, .pointer (some a)), (81, .int .i64 (nums.length : Nat)), (82, .int .i64 (i : Nat))]) (fun _ => []) (fun i => i ≤ nums.length ∧ ∀ (j : Nat) (h : j < nums.length), j < i → NumOk t nums[j]) (fun i => nums.length - i) 0 ⟨rfl, rfl, rfl, rfl, trivial⟩ (Pick.refl _) ⟨Nat.zero_le _, fun _ _ h => by cases h⟩ ?_
    rintro i ⟨hi, hdone⟩
    try dsimp only at hi hdone
    try dsimp only
    by_cases hlt : i < nums.length
    · have hA : A.isSome = true := hra.isSome (by omega)
      have hc := fun m1 (hm1 : Le m m1) => num31 (hka i hlt) m1 (hm.trans hm1) ((sa A).add (i * 4)) b t (((hra.elem (i * 4) 4).mono hm).mono hm1) (mc_mono hm1 hk1)
      refine TS_seq ?_
      refine TS_region ?_
      refine VS_pure (dt (P_lss rfl rfl) (by omega)) rfl rfl rfl ?_
      refine VS_nil ?_
      refine QS_then ?_
      refine TS_seq ?_
      refine TS_true rfl ?_
      refine TS_skip ?_
      refine QS_then ?_
      refine TS_seq ?_
      refine TS_block ?_
      refine TS_seq ?_
      refine TS_region ?_
      refine VS_pure (P_move rfl) rfl rfl rfl ?_
      refine VS_pure (P_assign rfl) rfl rfl rfl ?_
      refine VS_nil ?_
      refine QS_then ?_
      refine TS_seq ?_
      refine TS_region ?_
      refine VS_pure (P_move rfl) rfl rfl rfl ?_
      refine VS_pure (P_move rfl) rfl rfl rfl ?_
      refine VS_pure (P_nilCheck rfl) rfl rfl rfl ?_
      refine VS_pure (P_fieldAddr fo45_3 rfl) rfl rfl rfl ?_
      refine VS_read (S_load sg40 rfl (hat.at_ rfl)) rfl rfl rfl ?_
      refine VS_pure (P_move rfl) rfl rfl rfl ?_
      refine VS_pure (P_indexAddrN ez40 rfl rfl hA (by omega)) rfl rfl rfl ?_
      refine VS_step ((S_call cl31 rfl (fun m1 hm1 he => hc m1 hm1) rfl ?_)) rfl
      rintro _ _ ⟨rfl, r, rfl, hrr⟩
      cases r with
      | true =>
        refine VS_pure (P_not rfl) rfl rfl rfl ?_
        refine VS_nil ?_
        refine QS_then ?_
        refine TS_false rfl ?_
        refine TS_skip ?_
        refine QS_block ?_
        refine QS_then ?_
        refine TS_region ?_
        refine VS_pure (P_add rfl rfl (w64 (by omega) (by omega))) rfl rfl rfl ?_
        refine VS_pure (P_move rfl) rfl rfl rfl ?_
        refine VS_nil ?_
        exact QS_round (i + 1) ⟨rfl, rfl, rfl, rfl, trivial⟩ (Pick.refl _) ⟨hlt, fun j h h2 => by
          by_cases hji : j < i
          · exact hdone j h hji
          · obtain rfl : j = i := by omega
            exact hrr.1 rfl⟩ (by omega)
      | false =>
        refine VS_pure (P_not rfl) rfl rfl rfl ?_
        refine VS_nil ?_
        refine QS_then ?_
        refine TS_true rfl ?_
        refine TS_seq ?_
        refine TS_region ?_
        refine VS_pure (P_assign rfl) rfl rfl rfl ?_
        refine VS_nil ?_
        refine QS_then ?_
        refine TS_ret ?_
        refine QS_block_ret ?_
        refine QS_then_ret ?_
        refine QS_round_ret ?_
        refine QS_block_ret ?_
        refine QS_then_ret ?_
        exact QS_ret [_] ⟨rfl, trivial⟩ [] (Pick.nil _) ⟨rfl, false, rfl, fun h => (by cases h), fun h => by cases h with | mk _ hk _ => exact absurd (hrr.2 (hk i hlt)) (by decide)⟩
    have hdn : ∀ (j : Nat) (h : j < nums.length), NumOk t nums[j] := fun j h => hdone j h (by omega)
    clear hdone
    refine TS_seq ?_
    refine TS_region ?_
    refine VS_pure (df (P_lss rfl rfl) (by omega)) rfl rfl rfl ?_
    refine VS_nil ?_
    refine QS_then ?_
    refine TS_seq ?_
    refine TS_false rfl ?_
    refine TS_exit ?_
    refine QS_then_exit ?_
    refine QS_round_exit ?_
    refine QS_block_here ?_
    refine QS_then ?_
    refine TS_seq ?_
    refine TS_seq ?_
    refine TS_region ?_
    refine VS_pure (P_move rfl) rfl rfl rfl ?_
    refine VS_pure (P_nilCheck rfl) rfl rfl rfl ?_
    refine VS_pure (P_fieldAddr fo45_4 rfl) rfl rfl rfl ?_
    refine VS_read (S_load sg43 rfl (hat.at_ rfl)) rfl rfl rfl ?_
    refine VS_pure (P_len il43 rfl) rfl rfl rfl ?_
    refine VS_pure (P_move rfl) rfl rfl rfl ?_
    refine VS_nil ?_
    refine QS_then ?_
    refine TS_block ?_
    refine TS_loop (α := Nat) (fun i => [(0, .pointer (some ⟨b, 0, none⟩)), (1, .pointer (some a)), (99, .int .i64 (kids.length : Nat)), (100, .int .i64 (i : Nat))]) (fun _ => []) (fun i => i ≤ kids.length ∧ ∀ (j : Nat) (h : j < kids.length), j < i → CondOk (uOf l) t kids[j]) (fun i => kids.length - i) 0 ⟨rfl, rfl, rfl, rfl, trivial⟩ (Pick.refl _) ⟨Nat.zero_le _, fun _ _ h => by cases h⟩ ?_
    clear hlt hi i
    rintro i ⟨hi, hdone⟩
    try dsimp only at hi hdone
    try dsimp only
    by_cases hlt : i < kids.length
    · have hA : B.isSome = true := hrb.isSome (by omega)
      have hc := fun m1 (hm1 : Le m m1) => ih i hlt m1 (hm.trans hm1) ((sa B).add (i * 5)) b l t (((hrb.elem (i * 5) 5).mono hm).mono hm1) (hck0.mono hm1)
      refine TS_seq ?_
      refine TS_region ?_
      refine VS_pure (dt (P_lss rfl rfl) (by omega)) rfl rfl rfl ?_
      refine VS_nil ?_
      refine QS_then ?_
      refine TS_seq ?_
      refine TS_true rfl ?_
      refine TS_skip ?_
      refine QS_then ?_
      refine TS_seq ?_
      refine TS_block ?_
      refine TS_seq ?_
      refine TS_region ?_
      refine VS_pure (P_move rfl) rfl rfl rfl ?_
      refine VS_pure (P_assign rfl) rfl rfl rfl ?_
      refine VS_nil ?_
      refine QS_then ?_
      refine TS_seq ?_
      refine TS_region ?_
      refine VS_pure (P_move rfl) rfl rfl rfl ?_
      refine VS_pure (P_move rfl) rfl rfl rfl ?_
      refine VS_pure (P_nilCheck rfl) rfl rfl rfl ?_
      refine VS_pure (P_fieldAddr fo45_4 rfl) rfl rfl rfl ?_
      refine VS_read (S_load sg43 rfl (hat.at_ rfl)) rfl rfl rfl ?_
      refine VS_pure (P_move rfl) rfl rfl rfl ?_
      refine VS_pure (P_indexAddrN ez43 rfl rfl hA (by omega)) rfl rfl rfl ?_
      refine VS_step ((S_call cl33 rfl (fun m1 hm1 he => hc m1 hm1) rfl ?_)) rfl
      rintro _ _ ⟨rfl, r, rfl, hrr⟩
      cases r with
      | true =>
        refine VS_pure (P_not rfl) rfl rfl rfl ?_
        refine VS_nil ?_
        refine QS_then ?_
        refine TS_false rfl ?_
        refine TS_skip ?_
        refine QS_block ?_
        refine QS_then ?_
        refine TS_region ?_
        refine VS_pure (P_add rfl rfl (w64 (by omega) (by omega))) rfl rfl rfl ?_
        refine VS_pure (P_move rfl) rfl rfl rfl ?_
        refine VS_nil ?_
        exact QS_round (i + 1) ⟨rfl, rfl, rfl, rfl, trivial⟩ (Pick.refl _) ⟨hlt, fun j h h2 => by
          by_cases hji : j < i
          · exact hdone j h hji
          · obtain rfl : j = i := by omega
            exact hrr.1 rfl⟩ (by omega)
      | false =>
        refine VS_pure (P_not rfl) rfl rfl rfl ?_
        refine VS_nil ?_
        refine QS_then ?_
        refine TS_true rfl ?_
        refine TS_seq ?_
        refine TS_region ?_
        refine VS_pure (P_assign rfl) rfl rfl rfl ?_
        refine VS_nil ?_
        refine QS_then ?_
        refine TS_ret ?_
        refine QS_block_ret ?_
        refine QS_then_ret ?_
        refine QS_round_ret ?_
        refine QS_block_ret ?_
        refine QS_then_ret ?_
        exact QS_ret [_] ⟨rfl, trivial⟩ [] (Pick.nil _) ⟨rfl, false, rfl, fun h => (by cases h), fun h => by cases h with | mk _ _ hk => exact absurd (hrr.2 (hk i hlt)) (by decide)⟩
    · refine TS_seq ?_
      refine TS_region ?_
      refine VS_pure (df (P_lss rfl rfl) (by omega)) rfl rfl rfl ?_
      refine VS_nil ?_
      refine QS_then ?_
      refine TS_seq ?_
      refine TS_false rfl ?_
      refine TS_exit ?_
      refine QS_then_exit ?_
      refine QS_round_exit ?_
      refine QS_block_here ?_
      refine QS_then ?_
      refine TS_seq ?_
      refine TS_region ?_
      refine VS_pure (P_assign rfl) rfl rfl rfl ?_
      refine VS_nil ?_
      refine QS_then ?_
      refine TS_ret ?_
      exact QS_ret [_] ⟨rfl, trivial⟩ [] (Pick.nil _) ⟨rfl, true, rfl, fun _ => .mk hg hdn fun j h => hdone j h (by omega), fun _ => rfl⟩
  · have hg' := Bool.eq_false_iff.2 hg
    rw [hg'] at hh
    cases o with
    | false =>
      refine TS_seq ?_
      refine TS_seq ?_
      refine TS_region ?_
      refine VS_pure (P_move rfl) rfl rfl rfl ?_
      refine VS_pure (P_not rfl) rfl rfl rfl ?_
      refine VS_pure (P_move rfl) rfl rfl rfl ?_
      iterate 7 (refine VS_skip rfl rfl rfl ?_)
      refine VS_pure (P_pick_t rfl rfl) rfl rfl rfl ?_
      refine VS_pure (P_move rfl) rfl rfl rfl ?_
      iterate 7 (refine VS_skip rfl rfl rfl ?_)
      refine VS_pure (P_pick_t rfl rfl) rfl rfl rfl ?_
      refine VS_nil ?_
      refine QS_then ?_
      refine TS_true rfl ?_
      refine TS_seq ?_
      refine TS_region ?_
      refine VS_pure (P_assign rfl) rfl rfl rfl ?_
      refine VS_nil ?_
      refine QS_then ?_
      refine TS_ret ?_
      refine QS_then_ret ?_
      exact QS_ret [_] ⟨rfl, trivial⟩ [] (Pick.nil _) ⟨rfl, false, rfl, fun h => (by cases h), fun h => by cases h with | mk hh _ _ => exact absurd hh hg⟩
    | true =>
      by_cases hk1' : ((nums.length : Nat) : Int) = (k1 : Nat)
      · have h1 : nums.length = k1 := by omega
        have h2 : ¬ ((kids.length : Nat) : Int) = (k2 : Nat) := fun e => by
          have e' : kids.length = k2 := by omega
          rw [e', h1] at hh
          simp at hh
        refine TS_seq ?_
        refine TS_seq ?_
        refine TS_region ?_
        refine VS_pure (P_move rfl) rfl rfl rfl ?_
        refine VS_pure (P_not rfl) rfl rfl rfl ?_
        refine VS_pure (P_move rfl) rfl rfl rfl ?_
        refine VS_pure (P_move rfl) rfl rfl rfl ?_
        refine VS_pure (P_nilCheck rfl) rfl rfl rfl ?_
        refine VS_pure (P_fieldAddr fo45_3 rfl) rfl rfl rfl ?_
        refine VS_read (S_load sg40 rfl (hat.at_ rfl)) rfl rfl rfl ?_
        refine VS_pure (P_len il40 rfl) rfl rfl rfl ?_
        refine VS_pure (P_move rfl) rfl rfl rfl ?_
        refine VS_pure (df (P_neq rfl rfl) (by omega)) rfl rfl rfl ?_
        refine VS_pure (P_pick_f rfl rfl) rfl rfl rfl ?_
        refine VS_pure (P_move rfl) rfl rfl rfl ?_
        refine VS_pure (P_move rfl) rfl rfl rfl ?_
        refine VS_pure (P_nilCheck rfl) rfl rfl rfl ?_
        refine VS_pure (P_fieldAddr fo45_4 rfl) rfl rfl rfl ?_
        refine VS_read (S_load sg43 rfl (hat.at_ rfl)) rfl rfl rfl ?_
        refine VS_pure (P_len il43 rfl) rfl rfl rfl ?_
        refine VS_pure (P_move rfl) rfl rfl rfl ?_
        refine VS_pure (dt (P_neq rfl rfl) (by assumption)) rfl rfl rfl ?_
        refine VS_pure (P_pick_f rfl rfl) rfl rfl rfl ?_
        refine VS_nil ?_
        refine QS_then ?_
        refine TS_true rfl ?_
        refine TS_seq ?_
        refine TS_region ?_
        refine VS_pure (P_assign rfl) rfl rfl rfl ?_
        refine VS_nil ?_
        refine QS_then ?_
        refine TS_ret ?_
        refine QS_then_ret ?_
        exact QS_ret [_] ⟨rfl, trivial⟩ [] (Pick.nil _) ⟨rfl, false, rfl, fun h => (by cases h), fun h => by cases h with | mk hh _ _ => exact absurd hh hg⟩
      · refine TS_seq ?_
        refine TS_seq ?_
        refine TS_region ?_
        refine VS_pure (P_move rfl) rfl rfl rfl ?_
        refine VS_pure (P_not rfl) rfl rfl rfl ?_
        refine VS_pure (P_move rfl) rfl rfl rfl ?_
        refine VS_pure (P_move rfl) rfl rfl rfl ?_
        refine VS_pure (P_nilCheck rfl) rfl rfl rfl ?_
        refine VS_pure (P_fieldAddr fo45_3 rfl) rfl rfl rfl ?_
        refine VS_read (S_load sg40 rfl (hat.at_ rfl)) rfl rfl rfl ?_
        refine VS_pure (P_len il40 rfl) rfl rfl rfl ?_
        refine VS_pure (P_move rfl) rfl rfl rfl ?_
        refine VS_pure (dt (P_neq rfl rfl) (by assumption)) rfl rfl rfl ?_
        refine VS_pure (P_pick_f rfl rfl) rfl rfl rfl ?_
        refine VS_pure (P_move rfl) rfl rfl rfl ?_
        iterate 7 (refine VS_skip rfl rfl rfl ?_)
        refine VS_pure (P_pick_t rfl rfl) rfl rfl rfl ?_
        refine VS_nil ?_
        refine QS_then ?_
        refine TS_true rfl ?_
        refine TS_seq ?_
        refine TS_region ?_
        refine VS_pure (P_assign rfl) rfl rfl rfl ?_
        refine VS_nil ?_
        refine QS_then ?_
        refine TS_ret ?_
        refine QS_then_ret ?_
        exact QS_ret [_] ⟨rfl, trivial⟩ [] (Pick.nil _) ⟨rfl, false, rfl, fun h => (by cases h), fun h => by cases h with | mk hh _ _ => exact absurd hh hg⟩
end Go.Proofs.YtbghonkgflolaaaDoor
