/- A part of the proof: contracts of functions of the program. No condition. -/
import Derived.Test.YtbghonkgflolaaaDoorKdK
namespace Go.Proofs.YtbghonkgflolaaaDoor
open Go.Eng Wd Kd
set_option maxRecDepth 100000

theorem runeR_some {s : List UInt8} {p x k : Nat} (h : rn s p = some (x, k)) : runeR s p = (x, k) := by simp [runeR, h]
theorem runeR_none {s : List UInt8} {p : Nat} (h : rn s p = none) : runeR s p = (0, 0) := by simp [runeR, h]
theorem nameGo_end {s : List UInt8} {p n : Nat} (hp : ¬ p < s.length) : nameGo s p n = (p, n) := by rw [nameGo, if_neg hp]
set_option maxHeartbeats 4000000 in
theorem name_ok {m : Mp} {s : List UInt8} {p : Nat} (hp : p ≤ s.length) (hs : s.length ≤ 140737488355328) : CS Tryd.prog 12 [.string (bs s), .int .i64 p] m [] (Gives (pairV (nameGo s p 0))) := by
  refine CS_of [.tmp 4, .tmp 5] Tryd.func12 rfl rfl rfl ?_
  refine TS_seq ?_
  refine TS_region ?_
  refine VS_pure (P_assign rfl) rfl rfl rfl ?_
  refine VS_pure (P_assign rfl) rfl rfl rfl ?_
  refine VS_nil ?_
  refine QS_then ?_
  refine TS_seq ?_
  refine TS_region ?_
  refine VS_pure (P_assign rfl) rfl rfl rfl ?_
  refine VS_nil ?_
  refine QS_then ?_
  refine TS_seq ?_
  refine TS_block ?_
  refine TS_loop (fun y : Nat × Nat => [(0, .string (bs s)), (1, .int .i64 (y.1 : Nat)), (6, .int .i64 (y.2 : Nat))]) (fun _ => []) (fun y => y.1 ≤ s.length ∧ y.2 ≤ y.1 ∧ nameGo s y.1 y.2 = nameGo s p 0) (fun y => s.length - y.1) (p, 0)
    ⟨rfl, rfl, rfl, trivial⟩ (Pick.refl _) ⟨hp, Nat.zero_le _, rfl⟩ ?_
  rintro ⟨q, n⟩ ⟨hq, hnq, he⟩
  simp only at hq hnq he ⊢
  by_cases hlt : q < s.length
  · refine TS_seq ?_
    refine TS_seq ?_
    refine TS_region ?_
    refine VS_pure (P_move rfl) rfl rfl rfl ?_
    refine VS_pure (P_move rfl) rfl rfl rfl ?_
    refine VS_pure (P_len_str rfl st9) rfl rfl rfl ?_
    refine VS_pure (dt (P_lss rfl rfl) (by omega)) rfl rfl rfl ?_
    refine VS_nil ?_
    refine QS_then ?_
    refine TS_true rfl ?_
    refine TS_skip ?_
    refine QS_then ?_
    refine TS_block ?_
    refine TS_seq ?_
    refine TS_region ?_
    refine VS_pure (P_move rfl) rfl rfl rfl ?_
    refine VS_pure (P_move rfl) rfl rfl rfl ?_
    refine VS_step (S_callR cl20 rfl (fun m' hm he => (runeAt_ok hlt hs)) rfl ?_) rfl
    rintro _ rfl
    cases hr : rn s q with
    | none =>
      rw [nameGo_none hlt hr] at he
      rw [runeR_none hr]
      refine VS_pure (P_move rfl) rfl rfl rfl ?_
      refine VS_pure (P_extract rfl rfl) rfl rfl rfl ?_
      refine VS_pure (P_extract rfl rfl) rfl rfl rfl ?_
      refine VS_pure (P_assign rfl) rfl rfl rfl ?_
      refine VS_pure (P_assign rfl) rfl rfl rfl ?_
      refine VS_nil ?_
      refine QS_then ?_
      refine TS_seq ?_
      refine TS_seq ?_
      refine TS_region ?_
      refine VS_pure (P_move rfl) rfl rfl rfl ?_
      refine VS_pure (dt (P_eql rfl rfl) rfl) rfl rfl rfl ?_
      refine VS_pure (P_move rfl) rfl rfl rfl ?_
      iterate 16 (refine VS_skip rfl rfl rfl ?_)
      refine VS_pure (P_pick_t rfl rfl) rfl rfl rfl ?_
      refine VS_nil ?_
      refine QS_then ?_
      refine TS_true rfl ?_
      refine TS_exit ?_
      refine QS_then_exit ?_
      refine QS_block_out rfl ?_
      refine QS_round_exit ?_
      refine QS_block_here ?_
      refine QS_then ?_
      refine TS_seq ?_
      refine TS_region ?_
      refine VS_pure (P_move rfl) rfl rfl rfl ?_
      refine VS_pure (P_move rfl) rfl rfl rfl ?_
      refine VS_pure (P_assign rfl) rfl rfl rfl ?_
      refine VS_pure (P_assign rfl) rfl rfl rfl ?_
      refine VS_nil ?_
      refine QS_then ?_
      refine TS_ret ?_
      exact QS_ret [_, _] ⟨rfl, rfl, trivial⟩ [] (Pick.nil _) ⟨by rw [← he]; rfl, rfl⟩
    | some r =>
      obtain ⟨x, k⟩ := r
      rw [nameGo_some hlt hr] at he
      rw [runeR_some hr]
      have hk := rn_pos hr
      refine VS_pure (P_move rfl) rfl rfl rfl ?_
      refine VS_pure (P_extract rfl rfl) rfl rfl rfl ?_
      refine VS_pure (P_extract rfl rfl) rfl rfl rfl ?_
      refine VS_pure (P_assign rfl) rfl rfl rfl ?_
      refine VS_pure (P_assign rfl) rfl rfl rfl ?_
      refine VS_nil ?_
      refine QS_then ?_
      refine TS_seq ?_
      refine TS_seq ?_
      refine TS_region ?_
      refine VS_pure (P_move rfl) rfl rfl rfl ?_
      refine VS_pure (df (P_eql rfl rfl) (by omega)) rfl rfl rfl ?_
      refine VS_pure (P_move rfl) rfl rfl rfl ?_
      refine VS_pure (P_move rfl) rfl rfl rfl ?_
      refine VS_step (S_callR cl21 rfl (fun m' hm he => (letterR_ok x)) rfl ?_) rfl
      rintro _ rfl
      have go : nameGo s (q + k) (n + 1) = nameGo s p 0 → _ := fun h => h
      cases hl : letterP x with
      | true =>
        rw [if_neg (by simp [stopP, hl])] at he
        refine VS_pure (P_not rfl) rfl rfl rfl ?_
        refine VS_pure (P_move rfl) rfl rfl rfl ?_
        iterate 11 (refine VS_skip rfl rfl rfl ?_)
        refine VS_pure (P_pick_f rfl rfl) rfl rfl rfl ?_
        refine VS_pure (P_pick_f rfl rfl) rfl rfl rfl ?_
        refine VS_nil ?_
        refine QS_then ?_
        refine TS_false rfl ?_
        refine TS_skip ?_
        refine QS_then ?_
        refine TS_seq ?_
        refine TS_region ?_
        refine VS_pure (P_move rfl) rfl rfl rfl ?_
        refine VS_pure (P_move rfl) rfl rfl rfl ?_
        refine VS_pure (P_addN rfl rfl (by omega)) rfl rfl rfl ?_
        refine VS_pure (P_assign rfl) rfl rfl rfl ?_
        refine VS_nil ?_
        refine QS_then ?_
        refine TS_region ?_
        refine VS_pure (P_move rfl) rfl rfl rfl ?_
        refine VS_pure (P_add rfl rfl (w64 (by omega) (by omega))) rfl rfl rfl ?_
        refine VS_pure (P_assign rfl) rfl rfl rfl ?_
        refine VS_nil ?_
        refine QS_block ?_
        exact QS_round (q + k, n + 1) ⟨rfl, rfl, rfl, trivial⟩ (Pick.refl _) ⟨by simp only; omega, by simp only; omega, he⟩ (by simp only; omega)
      | false =>
        by_cases hn0 : n = 0
        · rw [if_pos (by simp [stopP, hl, hn0])] at he
          refine VS_pure (P_not rfl) rfl rfl rfl ?_
          refine VS_pure (P_move rfl) rfl rfl rfl ?_
          refine VS_pure (P_move rfl) rfl rfl rfl ?_
          refine VS_pure (dt (P_eql rfl rfl) (by omega)) rfl rfl rfl ?_
          refine VS_pure (P_move rfl) rfl rfl rfl ?_
          iterate 7 (refine VS_skip rfl rfl rfl ?_)
          refine VS_pure (P_pick_t rfl rfl) rfl rfl rfl ?_
          refine VS_pure (P_pick_t rfl rfl) rfl rfl rfl ?_
          refine VS_pure (P_pick_f rfl rfl) rfl rfl rfl ?_
          refine VS_nil ?_
          refine QS_then ?_
          refine TS_true rfl ?_
          refine TS_exit ?_
          refine QS_then_exit ?_
          refine QS_block_out rfl ?_
          refine QS_round_exit ?_
          refine QS_block_here ?_
          refine QS_then ?_
          refine TS_seq ?_
          refine TS_region ?_
          refine VS_pure (P_move rfl) rfl rfl rfl ?_
          refine VS_pure (P_move rfl) rfl rfl rfl ?_
          refine VS_pure (P_assign rfl) rfl rfl rfl ?_
          refine VS_pure (P_assign rfl) rfl rfl rfl ?_
          refine VS_nil ?_
          refine QS_then ?_
          refine TS_ret ?_
          exact QS_ret [_, _] ⟨rfl, rfl, trivial⟩ [] (Pick.nil _) ⟨by rw [← he]; rfl, rfl⟩
        · refine VS_pure (P_not rfl) rfl rfl rfl ?_
          refine VS_pure (P_move rfl) rfl rfl rfl ?_
          refine VS_pure (P_move rfl) rfl rfl rfl ?_
          refine VS_pure (df (P_eql rfl rfl) (by omega)) rfl rfl rfl ?_
          refine VS_pure (P_move rfl) rfl rfl rfl ?_
          refine VS_pure (P_move rfl) rfl rfl rfl ?_
          refine VS_step (S_callR cl22 rfl (fun m' hm he => (digitR_ok x)) rfl ?_) rfl
          rintro _ rfl
          cases hd : digitP x with
          | true =>
            rw [if_neg (by simp [stopP, hl, hd, hn0])] at he
            refine VS_pure (P_not rfl) rfl rfl rfl ?_
            refine VS_pure (P_move rfl) rfl rfl rfl ?_
            refine VS_skip rfl rfl rfl ?_
            refine VS_skip rfl rfl rfl ?_
            refine VS_pure (P_pick_f rfl rfl) rfl rfl rfl ?_
            refine VS_pure (P_pick_f rfl rfl) rfl rfl rfl ?_
            refine VS_pure (P_pick_t rfl rfl) rfl rfl rfl ?_
            refine VS_pure (P_pick_f rfl rfl) rfl rfl rfl ?_
            refine VS_nil ?_
            refine QS_then ?_
            refine TS_false rfl ?_
            refine TS_skip ?_
            refine QS_then ?_
            refine TS_seq ?_
            refine TS_region ?_
            refine VS_pure (P_move rfl) rfl rfl rfl ?_
            refine VS_pure (P_move rfl) rfl rfl rfl ?_
            refine VS_pure (P_addN rfl rfl (by omega)) rfl rfl rfl ?_
            refine VS_pure (P_assign rfl) rfl rfl rfl ?_
            refine VS_nil ?_
            refine QS_then ?_
            refine TS_region ?_
            refine VS_pure (P_move rfl) rfl rfl rfl ?_
            refine VS_pure (P_add rfl rfl (w64 (by omega) (by omega))) rfl rfl rfl ?_
            refine VS_pure (P_assign rfl) rfl rfl rfl ?_
            refine VS_nil ?_
            refine QS_block ?_
            exact QS_round (q + k, n + 1) ⟨rfl, rfl, rfl, trivial⟩ (Pick.refl _) ⟨by simp only; omega, by simp only; omega, he⟩ (by simp only; omega)
          | false =>
            by_cases h39 : x = 39
            · rw [if_neg (by simp [stopP, hl, hd, hn0, h39])] at he
              refine VS_pure (P_not rfl) rfl rfl rfl ?_
              refine VS_pure (P_move rfl) rfl rfl rfl ?_
              refine VS_pure (P_move rfl) rfl rfl rfl ?_
              refine VS_pure (df (P_neq rfl rfl) (by omega)) rfl rfl rfl ?_
              refine VS_pure (P_pick_t rfl rfl) rfl rfl rfl ?_
              refine VS_pure (P_pick_f rfl rfl) rfl rfl rfl ?_
              refine VS_pure (P_pick_t rfl rfl) rfl rfl rfl ?_
              refine VS_pure (P_pick_f rfl rfl) rfl rfl rfl ?_
              refine VS_nil ?_
              refine QS_then ?_
              refine TS_false rfl ?_
              refine TS_skip ?_
              refine QS_then ?_
              refine TS_seq ?_
              refine TS_region ?_
              refine VS_pure (P_move rfl) rfl rfl rfl ?_
              refine VS_pure (P_move rfl) rfl rfl rfl ?_
              refine VS_pure (P_addN rfl rfl (by omega)) rfl rfl rfl ?_
              refine VS_pure (P_assign rfl) rfl rfl rfl ?_
              refine VS_nil ?_
              refine QS_then ?_
              refine TS_region ?_
              refine VS_pure (P_move rfl) rfl rfl rfl ?_
              refine VS_pure (P_add rfl rfl (w64 (by omega) (by omega))) rfl rfl rfl ?_
              refine VS_pure (P_assign rfl) rfl rfl rfl ?_
              refine VS_nil ?_
              refine QS_block ?_
              exact QS_round (q + k, n + 1) ⟨rfl, rfl, rfl, trivial⟩ (Pick.refl _) ⟨by simp only; omega, by simp only; omega, he⟩ (by simp only; omega)
            · rw [if_pos (by simp [stopP, hl, hd, hn0, h39])] at he
              refine VS_pure (P_not rfl) rfl rfl rfl ?_
              refine VS_pure (P_move rfl) rfl rfl rfl ?_
              refine VS_pure (P_move rfl) rfl rfl rfl ?_
              refine VS_pure (dt (P_neq rfl rfl) (by omega)) rfl rfl rfl ?_
              refine VS_pure (P_pick_t rfl rfl) rfl rfl rfl ?_
              refine VS_pure (P_pick_f rfl rfl) rfl rfl rfl ?_
              refine VS_pure (P_pick_t rfl rfl) rfl rfl rfl ?_
              refine VS_pure (P_pick_f rfl rfl) rfl rfl rfl ?_
              refine VS_nil ?_
              refine QS_then ?_
              refine TS_true rfl ?_
              refine TS_exit ?_
              refine QS_then_exit ?_
              refine QS_block_out rfl ?_
              refine QS_round_exit ?_
              refine QS_block_here ?_
              refine QS_then ?_
              refine TS_seq ?_
              refine TS_region ?_
              refine VS_pure (P_move rfl) rfl rfl rfl ?_
              refine VS_pure (P_move rfl) rfl rfl rfl ?_
              refine VS_pure (P_assign rfl) rfl rfl rfl ?_
              refine VS_pure (P_assign rfl) rfl rfl rfl ?_
              refine VS_nil ?_
              refine QS_then ?_
              refine TS_ret ?_
              exact QS_ret [_, _] ⟨rfl, rfl, trivial⟩ [] (Pick.nil _) ⟨by rw [← he]; rfl, rfl⟩
  · rw [nameGo_end hlt] at he
    refine TS_seq ?_
    refine TS_seq ?_
    refine TS_region ?_
    refine VS_pure (P_move rfl) rfl rfl rfl ?_
    refine VS_pure (P_move rfl) rfl rfl rfl ?_
    refine VS_pure (P_len_str rfl st9) rfl rfl rfl ?_
    refine VS_pure (df (P_lss rfl rfl) (by omega)) rfl rfl rfl ?_
    refine VS_nil ?_
    refine QS_then ?_
    refine TS_false rfl ?_
    refine TS_exit ?_
    refine QS_then_exit ?_
    refine QS_round_exit ?_
    refine QS_block_here ?_
    refine QS_then ?_
    refine TS_seq ?_
    refine TS_region ?_
    refine VS_pure (P_move rfl) rfl rfl rfl ?_
    refine VS_pure (P_move rfl) rfl rfl rfl ?_
    refine VS_pure (P_assign rfl) rfl rfl rfl ?_
    refine VS_pure (P_assign rfl) rfl rfl rfl ?_
    refine VS_nil ?_
    refine QS_then ?_
    refine TS_ret ?_
    exact QS_ret [_, _] ⟨rfl, rfl, trivial⟩ [] (Pick.nil _) ⟨by rw [← he]; rfl, rfl⟩

theorem lengthGo_end {t : List UInt8} {i n : Nat} (h : ¬ i < t.length) : lengthGo t i n = (t.length, n) := by rw [lengthGo, if_neg h]
theorem lengthGo_go {t : List UInt8} {i n : Nat} (h : i < t.length) : lengthGo t i n = if stopP (dec t i).1 (i == 0) then (i, n) else lengthGo t (i + (dec t i).2) (n + 1) := by rw [lengthGo, if_pos h]
theorem dec_le {t : List UInt8} {i : Nat} (h : i < t.length) : i + (dec t i).2 ≤ t.length := by
  unfold dec
  cases hr : rn t i with
  | none => simp; omega
  | some r => obtain ⟨x, k⟩ := r; have := rn_pos hr; simp; omega
set_option maxHeartbeats 4000000 in
theorem length_ok {m : Mp} {t : List UInt8} (hs : t.length ≤ 140737488355328) : CS Tryd.prog 27 [.string (bs t)] m [] (Gives (pairV (lengthGo t 0 0))) := by
  refine CS_of [.tmp 2, .tmp 3] Tryd.func27 rfl rfl rfl ?_
  refine TS_seq ?_
  refine TS_region ?_
  refine VS_pure (P_assign rfl) rfl rfl rfl ?_
  refine VS_pure (P_assign rfl) rfl rfl rfl ?_
  refine VS_nil ?_
  refine QS_then ?_
  refine TS_seq ?_
  refine TS_seq ?_
  refine TS_region ?_
  refine VS_pure (P_move rfl) rfl rfl rfl ?_
  refine VS_step (S_range st9 rfl rfl (fun b1 => ?_)) rfl
  refine VS_nil ?_
  refine QS_then ?_
  refine TS_block ?_
  refine TS_loop (fun y : Nat × Nat => [(0, .string (bs t)), (7, .pointer (some ⟨b1, 0, none⟩)), (3, .int .i64 (y.2 : Nat))]) (fun y => [iter b1 t y.1]) (fun y => y.1 ≤ t.length ∧ y.2 ≤ y.1 ∧ lengthGo t y.1 y.2 = lengthGo t 0 0) (fun y => t.length - y.1) (0, 0)
    ⟨rfl, rfl, rfl, trivial⟩ (Pick.refl _) ⟨Nat.zero_le _, Nat.zero_le _, rfl⟩ ?_
  rintro ⟨i, n⟩ ⟨hq, hnq, he⟩
  simp only at hq hnq he ⊢
  by_cases hlt : i < t.length
  · rw [lengthGo_go hlt] at he
    have hp := dec_pos t i
    have hl2 := dec_le hlt
    have hdq := decode_eq t i
    refine TS_seq ?_
    refine TS_region ?_
    refine VS_step (S_nextD rfl (by first | assumption | omega) (by assumption) (.here) rfl ?_) rfl
    refine VS_pure (P_extract rfl rfl) rfl rfl rfl ?_
    refine VS_nil ?_
    refine QS_then ?_
    refine TS_seq ?_
    refine TS_true rfl ?_
    refine TS_skip ?_
    refine QS_then ?_
    refine TS_block ?_
    refine TS_seq ?_
    refine TS_region ?_
    refine VS_pure (P_extract rfl rfl) rfl rfl rfl ?_
    refine VS_pure (P_extract rfl rfl) rfl rfl rfl ?_
    refine VS_pure (P_assign rfl) rfl rfl rfl ?_
    refine VS_pure (P_assign rfl) rfl rfl rfl ?_
    refine VS_nil ?_
    refine QS_then ?_
    refine TS_seq ?_
    refine TS_seq ?_
    refine TS_region ?_
    refine VS_pure (P_move rfl) rfl rfl rfl ?_
    generalize dec t i = r at *
    obtain ⟨x, k⟩ := r
    simp only at hp hl2 he ⊢
    refine VS_step (S_callR cl35 rfl (fun m' hm he => (letter_ok x)) rfl ?_) rfl
    rintro _ rfl
    cases hl : letterP x with
    | true =>
      rw [if_neg (by simp [stopP, hl])] at he
      refine VS_pure (P_not rfl) rfl rfl rfl ?_
      refine VS_pure (P_move rfl) rfl rfl rfl ?_
      iterate 11 (refine VS_skip rfl rfl rfl ?_)
      refine VS_pure (P_pick_f rfl rfl) rfl rfl rfl ?_
      refine VS_nil ?_
      refine QS_then ?_
      refine TS_false rfl ?_
      refine TS_skip ?_
      refine QS_then ?_
      refine TS_region ?_
      refine VS_pure (P_move rfl) rfl rfl rfl ?_
      refine VS_pure (P_add rfl rfl (w64 (by omega) (by omega))) rfl rfl rfl ?_
      refine VS_pure (P_assign rfl) rfl rfl rfl ?_
      refine VS_nil ?_
      refine QS_block ?_
      exact QS_round (i + k, n + 1) ⟨rfl, rfl, rfl, trivial⟩ (Pick.refl _) ⟨by simp only; omega, by simp only; omega, he⟩ (by simp only; omega)
    | false =>
      by_cases hn0 : i = 0
      · rw [if_pos (by simp [stopP, hl, hn0])] at he
        refine VS_pure (P_not rfl) rfl rfl rfl ?_
        refine VS_pure (P_move rfl) rfl rfl rfl ?_
        refine VS_pure (P_move rfl) rfl rfl rfl ?_
        refine VS_pure (dt (P_eql rfl rfl) (by omega)) rfl rfl rfl ?_
        refine VS_pure (P_move rfl) rfl rfl rfl ?_
        iterate 7 (refine VS_skip rfl rfl rfl ?_)
        refine VS_pure (P_pick_t rfl rfl) rfl rfl rfl ?_
        refine VS_pure (P_pick_t rfl rfl) rfl rfl rfl ?_
        refine VS_nil ?_
        refine QS_then ?_
        refine TS_true rfl ?_
        refine TS_seq ?_
        refine TS_region ?_
        refine VS_pure (P_move rfl) rfl rfl rfl ?_
        refine VS_pure (P_move rfl) rfl rfl rfl ?_
        refine VS_pure (P_assign rfl) rfl rfl rfl ?_
        refine VS_pure (P_assign rfl) rfl rfl rfl ?_
        refine VS_nil ?_
        refine QS_then ?_
        refine TS_ret ?_
        refine QS_then_ret ?_
        refine QS_block_ret ?_
        refine QS_round_ret ?_
        refine QS_block_ret ?_
        refine QS_then_ret ?_
        exact QS_ret [_, _] ⟨rfl, rfl, trivial⟩ [] (Pick.nil _) ⟨by rw [← he]; rfl, rfl⟩
      · refine VS_pure (P_not rfl) rfl rfl rfl ?_
        refine VS_pure (P_move rfl) rfl rfl rfl ?_
        refine VS_pure (P_move rfl) rfl rfl rfl ?_
        refine VS_pure (df (P_eql rfl rfl) (by omega)) rfl rfl rfl ?_
        refine VS_pure (P_move rfl) rfl rfl rfl ?_
        refine VS_pure (P_move rfl) rfl rfl rfl ?_
        refine VS_step (S_callR cl36 rfl (fun m' hm he => (digit_ok x)) rfl ?_) rfl
        rintro _ rfl
        cases hd : digitP x with
        | true =>
          rw [if_neg (by simp [stopP, hl, hd, hn0])] at he
          refine VS_pure (P_not rfl) rfl rfl rfl ?_
          refine VS_pure (P_move rfl) rfl rfl rfl ?_
          refine VS_skip rfl rfl rfl ?_
          refine VS_skip rfl rfl rfl ?_
          refine VS_pure (P_pick_f rfl rfl) rfl rfl rfl ?_
          refine VS_pure (P_pick_f rfl rfl) rfl rfl rfl ?_
          refine VS_pure (P_pick_t rfl rfl) rfl rfl rfl ?_
          refine VS_nil ?_
          refine QS_then ?_
          refine TS_false rfl ?_
          refine TS_skip ?_
          refine QS_then ?_
          refine TS_region ?_
          refine VS_pure (P_move rfl) rfl rfl rfl ?_
          refine VS_pure (P_add rfl rfl (w64 (by omega) (by omega))) rfl rfl rfl ?_
          refine VS_pure (P_assign rfl) rfl rfl rfl ?_
          refine VS_nil ?_
          refine QS_block ?_
          exact QS_round (i + k, n + 1) ⟨rfl, rfl, rfl, trivial⟩ (Pick.refl _) ⟨by simp only; omega, by simp only; omega, he⟩ (by simp only; omega)
        | false =>
          by_cases h39 : x = 39
          · rw [if_neg (by simp [stopP, hl, hd, hn0, h39])] at he
            refine VS_pure (P_not rfl) rfl rfl rfl ?_
            refine VS_pure (P_move rfl) rfl rfl rfl ?_
            refine VS_pure (P_move rfl) rfl rfl rfl ?_
            refine VS_pure (df (P_neq rfl rfl) (by omega)) rfl rfl rfl ?_
            refine VS_pure (P_pick_t rfl rfl) rfl rfl rfl ?_
            refine VS_pure (P_pick_f rfl rfl) rfl rfl rfl ?_
            refine VS_pure (P_pick_t rfl rfl) rfl rfl rfl ?_
            refine VS_nil ?_
            refine QS_then ?_
            refine TS_false rfl ?_
            refine TS_skip ?_
            refine QS_then ?_
            refine TS_region ?_
            refine VS_pure (P_move rfl) rfl rfl rfl ?_
            refine VS_pure (P_add rfl rfl (w64 (by omega) (by omega))) rfl rfl rfl ?_
            refine VS_pure (P_assign rfl) rfl rfl rfl ?_
            refine VS_nil ?_
            refine QS_block ?_
            exact QS_round (i + k, n + 1) ⟨rfl, rfl, rfl, trivial⟩ (Pick.refl _) ⟨by simp only; omega, by simp only; omega, he⟩ (by simp only; omega)
          · rw [if_pos (by simp [stopP, hl, hd, hn0, h39])] at he
            refine VS_pure (P_not rfl) rfl rfl rfl ?_
            refine VS_pure (P_move rfl) rfl rfl rfl ?_
            refine VS_pure (P_move rfl) rfl rfl rfl ?_
            refine VS_pure (dt (P_neq rfl rfl) (by omega)) rfl rfl rfl ?_
            refine VS_pure (P_pick_t rfl rfl) rfl rfl rfl ?_
            refine VS_pure (P_pick_f rfl rfl) rfl rfl rfl ?_
            refine VS_pure (P_pick_t rfl rfl) rfl rfl rfl ?_
            refine VS_nil ?_
            refine QS_then ?_
            refine TS_true rfl ?_
            refine TS_seq ?_
            refine TS_region ?_
            refine VS_pure (P_move rfl) rfl rfl rfl ?_
            refine VS_pure (P_move rfl) rfl rfl rfl ?_
            refine VS_pure (P_assign rfl) rfl rfl rfl ?_
            refine VS_pure (P_assign rfl) rfl rfl rfl ?_
            refine VS_nil ?_
            refine QS_then ?_
            refine TS_ret ?_
            refine QS_then_ret ?_
            refine QS_block_ret ?_
            refine QS_round_ret ?_
            refine QS_block_ret ?_
            refine QS_then_ret ?_
            exact QS_ret [_, _] ⟨rfl, rfl, trivial⟩ [] (Pick.nil _) ⟨by rw [← he]; rfl, rfl⟩
  · rw [lengthGo_end hlt] at he
    refine TS_seq ?_
    refine TS_region ?_
    refine VS_step (S_nextEnd rfl (by first | assumption | omega) (.here) rfl ?_) rfl
    refine VS_pure (P_extract rfl rfl) rfl rfl rfl ?_
    refine VS_nil ?_
    refine QS_then ?_
    refine TS_seq ?_
    refine TS_false rfl ?_
    refine TS_exit ?_
    refine QS_then_exit ?_
    refine QS_round_exit ?_
    refine QS_block_here ?_
    refine QS_then ?_
    refine TS_seq ?_
    refine TS_region ?_
    refine VS_pure (P_move rfl) rfl rfl rfl ?_
    refine VS_pure (P_len_str rfl st9) rfl rfl rfl ?_
    refine VS_pure (P_move rfl) rfl rfl rfl ?_
    refine VS_pure (P_assign rfl) rfl rfl rfl ?_
    refine VS_pure (P_assign rfl) rfl rfl rfl ?_
    refine VS_nil ?_
    refine QS_then ?_
    refine TS_ret ?_
    exact QS_ret [_, _] ⟨rfl, rfl, trivial⟩ [] (Pick.nil _) ⟨by rw [← he]; rfl, rfl⟩
def strV (s : List UInt8) : Value := .string (bs s)
end Go.Proofs.YtbghonkgflolaaaDoor
