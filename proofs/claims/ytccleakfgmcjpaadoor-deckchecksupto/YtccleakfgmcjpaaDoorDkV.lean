/- A part of the proof: contracts of functions of the program. No condition. -/
import Derived.Test.YtccleakfgmcjpaaDoorDkU
namespace Go.Proofs.YtccleakfgmcjpaaDoor
open Go.Eng Dk
set_option maxRecDepth 100000
def dtR (r : Rea) : List Dt := [.i .i8 r.why, .s r.name, .i .i64 r.n]
theorem dtR_inj {x y : Rea} : dtR x = dtR y ↔ x = y := by
  constructor
  · intro h
    obtain ⟨a, b, c⟩ := x
    obtain ⟨d, e, f⟩ := y
    simp [dtR] at h
    obtain ⟨rfl, rfl, rfl⟩ := h
    rfl
  · rintro rfl; rfl
set_option maxHeartbeats 8000000 in
theorem same11 {m : Mp} {A B : Option Addr} {c c2 : Nat} {xs ys : List Rea} (hx : Rd m A (xs.flatMap reaC)) (hy : Rd m B (ys.flatMap reaC)) (hxl : xs.length ≤ 4000) (hyl : ys.length ≤ 9223372036854775807) : CS Tryd.prog 11 [.slice A xs.length c, .slice B ys.length c2] m [] (Gives (.bool (decide (xs = ys)))) := by
  refine CS_of [.tmp 4] Tryd.func11 rfl rfl rfl ?_
  by_cases hl : xs.length = ys.length
  · refine TS_seq ?_
    refine TS_region ?_
    refine VS_pure (P_assign rfl) rfl rfl rfl ?_
    refine VS_nil ?_
    refine QS_then ?_
    refine TS_seq ?_
    refine TS_seq ?_
    refine TS_region ?_
    refine VS_pure (P_move rfl) rfl rfl rfl ?_
    refine VS_pure (P_len il27 rfl) rfl rfl rfl ?_
    refine VS_pure (P_move rfl) rfl rfl rfl ?_
    refine VS_pure (P_len il27 rfl) rfl rfl rfl ?_
    refine VS_pure (df (P_neq rfl rfl) (by omega)) rfl rfl rfl ?_
    refine VS_nil ?_
    refine QS_then ?_
    refine TS_false rfl ?_
    refine TS_skip ?_
    refine QS_then ?_
    refine TS_seq ?_
    refine TS_seq ?_
    refine TS_region ?_
    refine VS_pure (P_assign rfl) rfl rfl rfl ?_
    refine VS_nil ?_
    refine QS_then ?_
    refine TS_block ?_
    refine TS_loop (α := Nat) (fun i => [(0, .slice A xs.length c), (1, .slice B ys.length c2), (5, .int .i64 (i : Nat))]) (fun _ => []) (fun i => i ≤ xs.length ∧ xs.take i = ys.take i) (fun i => xs.length - i) 0 ⟨rfl, rfl, rfl, trivial⟩ (Pick.refl _) ⟨Nat.zero_le _, rfl⟩ ?_
    rintro i ⟨hi, ht⟩
    by_cases hlt : i < xs.length
    · have hA : A.isSome = true := hx.isSome (by rw [flatMap_len]; omega)
      have hB : B.isSome = true := hy.isSome (by rw [flatMap_len]; omega)
      have ha := hx.elem (i * 3) 3
      have hb := hy.elem (i * 3) 3
      rw [rea_row xs i hlt] at ha
      rw [rea_row ys i (by omega)] at hb
      have hst := take_step ht hlt (by omega)
      have hne := fun (e : ¬ xs[i] = ys[i]'(by omega)) => (fun e2 => e (by subst e2; rfl) : ¬ xs = ys)
      generalize xs[i] = x at ha hst hne
      generalize ys[i]'(by omega) = y at hb hst hne
      unfold reaC at ha hb
      by_cases he : x = y
      · have hd : decide (¬ dtR x = dtR y) = false := decide_eq_false (fun h => h (dtR_inj.2 he))
        refine TS_seq ?_
        refine TS_seq ?_
        refine TS_region ?_
        refine VS_pure (P_move rfl) rfl rfl rfl ?_
        refine VS_pure (P_move rfl) rfl rfl rfl ?_
        refine VS_pure (P_len il27 rfl) rfl rfl rfl ?_
        refine VS_pure (dt (P_lss rfl rfl) (by omega)) rfl rfl rfl ?_
        refine VS_nil ?_
        refine QS_then ?_
        refine TS_true rfl ?_
        refine TS_skip ?_
        refine QS_then ?_
        refine TS_seq ?_
        refine TS_block ?_
        refine TS_seq ?_
        refine TS_draw (.step 0 .pure (.step 1 .pure (.step 2 .pure (.step 4 .pure (.step 5 .pure (.step 6 .pure (.step 3 .read (.step 7 .read (.step 8 .pure (.done)))))))))) mixed (by kernel_rfl) (fun _ _ _ _ hq => hq) ?_
        refine VTS_pure rfl (P_move rfl) rfl rfl rfl ?_
        refine VTS_pure rfl (P_move rfl) rfl rfl rfl ?_
        refine VTS_pure rfl (P_indexAddrN ez27 rfl rfl hA (by omega)) rfl rfl rfl ?_
        refine VTS_pure rfl (P_move rfl) rfl rfl rfl ?_
        refine VTS_pure rfl (P_move rfl) rfl rfl rfl ?_
        refine VTS_pure rfl (P_indexAddrN ez27 rfl rfl hB (by omega)) rfl rfl rfl ?_
        refine VTS_read rfl (S_loadAt ag38 rfl rfl ha) rfl rfl rfl ?_
        refine VTS_read rfl (S_loadAt ag38 rfl rfl hb) rfl rfl rfl ?_
        refine VTS_pure rfl ((P_structNeq (dtR x) (dtR y) fg38 rfl rfl rfl rfl)) rfl rfl rfl ?_
        rw [hd]
        refine VTS_nil ?_
        refine QS_then ?_
        refine TS_false rfl ?_
        refine TS_skip ?_
        refine QS_block ?_
        refine QS_then ?_
        refine TS_region ?_
        refine VS_pure (P_move rfl) rfl rfl rfl ?_
        refine VS_pure (P_add rfl rfl (w64 (by omega) (by omega))) rfl rfl rfl ?_
        refine VS_pure (P_assign rfl) rfl rfl rfl ?_
        refine VS_nil ?_
        exact QS_round (i + 1) ⟨rfl, rfl, rfl, trivial⟩ (Pick.refl _) ⟨hlt, hst he⟩ (by omega)
      · have hd : decide (¬ dtR x = dtR y) = true := decide_eq_true (fun h => he (dtR_inj.1 h))
        rw [decide_eq_false (hne he)]
        refine TS_seq ?_
        refine TS_seq ?_
        refine TS_region ?_
        refine VS_pure (P_move rfl) rfl rfl rfl ?_
        refine VS_pure (P_move rfl) rfl rfl rfl ?_
        refine VS_pure (P_len il27 rfl) rfl rfl rfl ?_
        refine VS_pure (dt (P_lss rfl rfl) (by omega)) rfl rfl rfl ?_
        refine VS_nil ?_
        refine QS_then ?_
        refine TS_true rfl ?_
        refine TS_skip ?_
        refine QS_then ?_
        refine TS_seq ?_
        refine TS_block ?_
        refine TS_seq ?_
        refine TS_draw (.step 0 .pure (.step 1 .pure (.step 2 .pure (.step 4 .pure (.step 5 .pure (.step 6 .pure (.step 3 .read (.step 7 .read (.step 8 .pure (.done)))))))))) mixed (by kernel_rfl) (fun _ _ _ _ hq => hq) ?_
        refine VTS_pure rfl (P_move rfl) rfl rfl rfl ?_
        refine VTS_pure rfl (P_move rfl) rfl rfl rfl ?_
        refine VTS_pure rfl (P_indexAddrN ez27 rfl rfl hA (by omega)) rfl rfl rfl ?_
        refine VTS_pure rfl (P_move rfl) rfl rfl rfl ?_
        refine VTS_pure rfl (P_move rfl) rfl rfl rfl ?_
        refine VTS_pure rfl (P_indexAddrN ez27 rfl rfl hB (by omega)) rfl rfl rfl ?_
        refine VTS_read rfl (S_loadAt ag38 rfl rfl ha) rfl rfl rfl ?_
        refine VTS_read rfl (S_loadAt ag38 rfl rfl hb) rfl rfl rfl ?_
        refine VTS_pure rfl ((P_structNeq (dtR x) (dtR y) fg38 rfl rfl rfl rfl)) rfl rfl rfl ?_
        rw [hd]
        refine VTS_nil ?_
        refine QS_then ?_
        refine TS_true rfl ?_
        refine TS_seq ?_
        refine TS_region ?_
        refine VS_pure (P_assign rfl) rfl rfl rfl ?_
        refine VS_nil ?_
        refine QS_then ?_
        refine TS_ret ?_
        refine QS_block_ret ?_
        refine QS_then_ret ?_
        refine QS_round_ret ?_
        refine QS_block_ret ?_
        refine QS_then_ret ?_
        exact QS_ret [_] ⟨rfl, trivial⟩ [] (Pick.nil _) ⟨rfl, rfl⟩
    · have he : xs = ys := take_all ht (by omega) hl
      rw [decide_eq_true he]
      refine TS_seq ?_
      refine TS_seq ?_
      refine TS_region ?_
      refine VS_pure (P_move rfl) rfl rfl rfl ?_
      refine VS_pure (P_move rfl) rfl rfl rfl ?_
      refine VS_pure (P_len il27 rfl) rfl rfl rfl ?_
      refine VS_pure (df (P_lss rfl rfl) (by omega)) rfl rfl rfl ?_
      refine VS_nil ?_
      refine QS_then ?_
      refine TS_false rfl ?_
      refine TS_exit ?_
      refine QS_then_exit ?_
      refine QS_round_exit ?_
      refine QS_block_here ?_
      refine QS_then ?_
      refine TS_seq ?_
      refine TS_region ?_
      refine VS_pure (P_assign rfl) rfl rfl rfl ?_
      refine VS_nil ?_
      refine QS_then ?_
      refine TS_ret ?_
      exact QS_ret [_] ⟨rfl, trivial⟩ [] (Pick.nil _) ⟨rfl, rfl⟩
  · have hne : ¬ xs = ys := fun e => hl (by rw [e])
    rw [decide_eq_false hne]
    refine TS_seq ?_
    refine TS_region ?_
    refine VS_pure (P_assign rfl) rfl rfl rfl ?_
    refine VS_nil ?_
    refine QS_then ?_
    refine TS_seq ?_
    refine TS_seq ?_
    refine TS_region ?_
    refine VS_pure (P_move rfl) rfl rfl rfl ?_
    refine VS_pure (P_len il27 rfl) rfl rfl rfl ?_
    refine VS_pure (P_move rfl) rfl rfl rfl ?_
    refine VS_pure (P_len il27 rfl) rfl rfl rfl ?_
    refine VS_pure (dt (P_neq rfl rfl) (by omega)) rfl rfl rfl ?_
    refine VS_nil ?_
    refine QS_then ?_
    refine TS_true rfl ?_
    refine TS_seq ?_
    refine TS_region ?_
    refine VS_pure (P_assign rfl) rfl rfl rfl ?_
    refine VS_nil ?_
    refine QS_then ?_
    refine TS_ret ?_
    refine QS_then_ret ?_
    exact QS_ret [_] ⟨rfl, trivial⟩ [] (Pick.nil _) ⟨rfl, rfl⟩
end Go.Proofs.YtccleakfgmcjpaaDoor
