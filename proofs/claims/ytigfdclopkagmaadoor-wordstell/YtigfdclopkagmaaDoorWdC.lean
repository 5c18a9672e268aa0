/- A part of the proof: contracts of functions of the program. No condition. -/
import Derived.Test.YtigfdclopkagmaaDoorWdB
namespace Go.Proofs.YtigfdclopkagmaaDoor
open Go.Eng Wd

theorem runeR_some {s : List UInt8} {p x k : Nat} (h : rn s p = some (x, k)) : runeR s p = (x, k) := by simp [runeR, h]
theorem runeR_none {s : List UInt8} {p : Nat} (h : rn s p = none) : runeR s p = (0, 0) := by simp [runeR, h]
theorem nameGo_end {s : List UInt8} {p n : Nat} (hp : ¬ p < s.length) : nameGo s p n = (p, n) := by rw [nameGo, if_neg hp]
set_option maxHeartbeats 4000000 in
theorem name_ok {m : Mp} {s : List UInt8} {p : Nat} (hp : p ≤ s.length) (hs : s.length ≤ 140737488355328) : CS Tryd.prog 21 [.string (bs s), .int .i64 p] m [] (Gives (pairV (nameGo s p 0))) := by
  refine CS_of [.tmp 4, .tmp 5] Tryd.func21 rfl rfl rfl ?_
  refine TS_seq ?_
  refine TS_region ?_
  refine VS_pure (P_assign rfl) rfl rfl rfl ?_
  refine VS_pure (P_assign rfl) rfl rfl rfl ?_
  refine VS_nil ?_
  refine QS_then ?_
  refine TS_seq ?_
  refine TS_region ?_
  refine VS_pure (P_assign rfl) rfl rfl rfl ?_
  refine VS_nil ?_
  refine QS_then ?_
  refine TS_seq ?_
  refine TS_block ?_
  refine TS_loop (fun y : Nat × Nat => [(0, .string (bs s)), (1, .int .i64 (y.1 : Nat)), (6, .int .i64 (y.2 : Nat))]) (fun _ => []) (fun y => y.1 ≤ s.length ∧ y.2 ≤ y.1 ∧ nameGo s y.1 y.2 = nameGo s p 0) (fun y => s.length - y.1) (p, 0)
    ⟨rfl, rfl, rfl, trivial⟩ (Pick.refl _) ⟨hp, Nat.zero_le _, rfl⟩ ?_
  rintro ⟨q, n⟩ ⟨hq, hnq, he⟩
  simp only at hq hnq he ⊢
  by_cases hlt : q < s.length
  · refine TS_seq ?_
    refine TS_seq ?_
    refine TS_region ?_
    refine VS_pure (P_move rfl) rfl rfl rfl ?_
    refine VS_pure (P_move rfl) rfl rfl rfl ?_
    refine VS_pure (P_len_str rfl st9) rfl rfl rfl ?_
    refine VS_pure (dt (P_lss rfl rfl) (by first | assumption | rfl | omega | decide)) rfl rfl rfl ?_
    refine VS_nil ?_
    refine QS_then ?_
    refine TS_true rfl ?_
    refine TS_skip ?_
    refine QS_then ?_
    refine TS_block ?_
    refine TS_seq ?_
    refine TS_region ?_
    refine VS_pure (P_move rfl) rfl rfl rfl ?_
    refine VS_pure (P_move rfl) rfl rfl rfl ?_
    refine VS_step (S_callR cl19 rfl (fun m' hm he => (runeAt_ok hlt hs)) rfl ?_) rfl
    rintro _ rfl
    cases hr : rn s q with
    | none =>
      rw [nameGo_none hlt hr] at he
      rw [runeR_none hr]
      refine VS_pure (P_move rfl) rfl rfl rfl ?_
      refine VS_pure (P_extract rfl rfl) rfl rfl rfl ?_
      refine VS_pure (P_extract rfl rfl) rfl rfl rfl ?_
      refine VS_pure (P_assign rfl) rfl rfl rfl ?_
      refine VS_pure (P_assign rfl) rfl rfl rfl ?_
      refine VS_nil ?_
      refine QS_then ?_
      refine TS_seq ?_
      refine TS_seq ?_
      refine TS_region ?_
      refine VS_pure (P_move rfl) rfl rfl rfl ?_
      refine VS_pure (dt (P_eql rfl rfl) (by first | assumption | rfl | omega | decide)) rfl rfl rfl ?_
      refine VS_pure (P_move rfl) rfl rfl rfl ?_
      refine VS_skip rfl rfl rfl ?_
      refine VS_skip rfl rfl rfl ?_
      refine VS_skip rfl rfl rfl ?_
      refine VS_skip rfl rfl rfl ?_
      refine VS_skip rfl rfl rfl ?_
      refine VS_skip rfl rfl rfl ?_
      refine VS_skip rfl rfl rfl ?_
      refine VS_skip rfl rfl rfl ?_
      refine VS_skip rfl rfl rfl ?_
      refine VS_skip rfl rfl rfl ?_
      refine VS_skip rfl rfl rfl ?_
      refine VS_skip rfl rfl rfl ?_
      refine VS_skip rfl rfl rfl ?_
      refine VS_skip rfl rfl rfl ?_
      refine VS_skip rfl rfl rfl ?_
      refine VS_skip rfl rfl rfl ?_
      refine VS_pure (P_pick_t rfl rfl) rfl rfl rfl ?_
      refine VS_nil ?_
      refine QS_then ?_
      refine TS_true rfl ?_
      refine TS_exit ?_
      refine QS_then_exit ?_
      refine QS_block_out rfl ?_
      refine QS_round_exit ?_
      refine QS_block_here ?_
      refine QS_then ?_
      refine TS_seq ?_
      refine TS_region ?_
      refine VS_pure (P_move rfl) rfl rfl rfl ?_
      refine VS_pure (P_move rfl) rfl rfl rfl ?_
      refine VS_pure (P_assign rfl) rfl rfl rfl ?_
      refine VS_pure (P_assign rfl) rfl rfl rfl ?_
      refine VS_nil ?_
      refine QS_then ?_
      refine TS_ret ?_
      exact QS_ret [_, _] ⟨rfl, rfl, trivial⟩ [] (Pick.nil _) ⟨by rw [← he]; rfl, rfl⟩
    | some r =>
      obtain ⟨x, k⟩ := r
      rw [nameGo_some hlt hr] at he
      rw [runeR_some hr]
      have hk := rn_pos hr
      refine VS_pure (P_move rfl) rfl rfl rfl ?_
      refine VS_pure (P_extract rfl rfl) rfl rfl rfl ?_
      refine VS_pure (P_extract rfl rfl) rfl rfl rfl ?_
      refine VS_pure (P_assign rfl) rfl rfl rfl ?_
      refine VS_pure (P_assign rfl) rfl rfl rfl ?_
      refine VS_nil ?_
      refine QS_then ?_
      refine TS_seq ?_
      refine TS_seq ?_
      refine TS_region ?_
      refine VS_pure (P_move rfl) rfl rfl rfl ?_
      refine VS_pure (df (P_eql rfl rfl) (by first | assumption | omega | decide | exact fun hx => hx (by assumption))) rfl rfl rfl ?_
      refine VS_pure (P_move rfl) rfl rfl rfl ?_
      refine VS_pure (P_move rfl) rfl rfl rfl ?_
      refine VS_step (S_callR cl20 rfl (fun m' hm he => (letterR_ok x)) rfl ?_) rfl
      rintro _ rfl
      have go : nameGo s (q + k) (n + 1) = nameGo s p 0 → _ := fun h => h
      cases hl : letterP x with
      | true =>
        rw [if_neg (by simp [stopP, hl])] at he
        refine VS_pure (P_not rfl) rfl rfl rfl ?_
        refine VS_pure (P_move rfl) rfl rfl rfl ?_
        refine VS_skip rfl rfl rfl ?_
        refine VS_skip rfl rfl rfl ?_
        refine VS_skip rfl rfl rfl ?_
        refine VS_skip rfl rfl rfl ?_
        refine VS_skip rfl rfl rfl ?_
        refine VS_skip rfl rfl rfl ?_
        refine VS_skip rfl rfl rfl ?_
        refine VS_skip rfl rfl rfl ?_
        refine VS_skip rfl rfl rfl ?_
        refine VS_skip rfl rfl rfl ?_
        refine VS_skip rfl rfl rfl ?_
        refine VS_pure (P_pick_f rfl rfl) rfl rfl rfl ?_
        refine VS_pure (P_pick_f rfl rfl) rfl rfl rfl ?_
        refine VS_nil ?_
        refine QS_then ?_
        refine TS_false rfl ?_
        refine TS_skip ?_
        refine QS_then ?_
        refine TS_seq ?_
        refine TS_region ?_
        refine VS_pure (P_move rfl) rfl rfl rfl ?_
        refine VS_pure (P_move rfl) rfl rfl rfl ?_
        refine VS_pure (P_addN rfl rfl (by omega)) rfl rfl rfl ?_
        refine VS_pure (P_assign rfl) rfl rfl rfl ?_
        refine VS_nil ?_
        refine QS_then ?_
        refine TS_region ?_
        refine VS_pure (P_move rfl) rfl rfl rfl ?_
        refine VS_pure (P_add rfl rfl (w64 (by omega) (by omega))) rfl rfl rfl ?_
        refine VS_pure (P_assign rfl) rfl rfl rfl ?_
        refine VS_nil ?_
        refine QS_block ?_
        exact QS_round (q + k, n + 1) ⟨rfl, rfl, rfl, trivial⟩ (Pick.refl _) ⟨by simp only; omega, by simp only; omega, he⟩ (by simp only; omega)
      | false =>
        by_cases hn0 : n = 0
        · rw [if_pos (by simp [stopP, hl, hn0])] at he
          refine VS_pure (P_not rfl) rfl rfl rfl ?_
          refine VS_pure (P_move rfl) rfl rfl rfl ?_
          refine VS_pure (P_move rfl) rfl rfl rfl ?_
          refine VS_pure (dt (P_eql rfl rfl) (by first | assumption | rfl | omega | decide)) rfl rfl rfl ?_
          refine VS_pure (P_move rfl) rfl rfl rfl ?_
          refine VS_skip rfl rfl rfl ?_
          refine VS_skip rfl rfl rfl ?_
          refine VS_skip rfl rfl rfl ?_
          refine VS_skip rfl rfl rfl ?_
          refine VS_skip rfl rfl rfl ?_
          refine VS_skip rfl rfl rfl ?_
          refine VS_skip rfl rfl rfl ?_
          refine VS_pure (P_pick_t rfl rfl) rfl rfl rfl ?_
          refine VS_pure (P_pick_t rfl rfl) rfl rfl rfl ?_
          refine VS_pure (P_pick_f rfl rfl) rfl rfl rfl ?_
          refine VS_nil ?_
          refine QS_then ?_
          refine TS_true rfl ?_
          refine TS_exit ?_
          refine QS_then_exit ?_
          refine QS_block_out rfl ?_
          refine QS_round_exit ?_
          refine QS_block_here ?_
          refine QS_then ?_
          refine TS_seq ?_
          refine TS_region ?_
          refine VS_pure (P_move rfl) rfl rfl rfl ?_
          refine VS_pure (P_move rfl) rfl rfl rfl ?_
          refine VS_pure (P_assign rfl) rfl rfl rfl ?_
          refine VS_pure (P_assign rfl) rfl rfl rfl ?_
          refine VS_nil ?_
          refine QS_then ?_
          refine TS_ret ?_
          exact QS_ret [_, _] ⟨rfl, rfl, trivial⟩ [] (Pick.nil _) ⟨by rw [← he]; rfl, rfl⟩
        · refine VS_pure (P_not rfl) rfl rfl rfl ?_
          refine VS_pure (P_move rfl) rfl rfl rfl ?_
          refine VS_pure (P_move rfl) rfl rfl rfl ?_
          refine VS_pure (df (P_eql rfl rfl) (by first | assumption | omega | decide | exact fun hx => hx (by assumption))) rfl rfl rfl ?_
          refine VS_pure (P_move rfl) rfl rfl rfl ?_
          refine VS_pure (P_move rfl) rfl rfl rfl ?_
          refine VS_step (S_callR cl22 rfl (fun m' hm he => (digitR_ok x)) rfl ?_) rfl
          rintro _ rfl
          cases hd : digitP x with
          | true =>
            rw [if_neg (by simp [stopP, hl, hd, hn0])] at he
            refine VS_pure (P_not rfl) rfl rfl rfl ?_
            refine VS_pure (P_move rfl) rfl rfl rfl ?_
            refine VS_skip rfl rfl rfl ?_
            refine VS_skip rfl rfl rfl ?_
            refine VS_pure (P_pick_f rfl rfl) rfl rfl rfl ?_
            refine VS_pure (P_pick_f rfl rfl) rfl rfl rfl ?_
            refine VS_pure (P_pick_t rfl rfl) rfl rfl rfl ?_
            refine VS_pure (P_pick_f rfl rfl) rfl rfl rfl ?_
            refine VS_nil ?_
            refine QS_then ?_
            refine TS_false rfl ?_
            refine TS_skip ?_
            refine QS_then ?_
            refine TS_seq ?_
            refine TS_region ?_
            refine VS_pure (P_move rfl) rfl rfl rfl ?_
            refine VS_pure (P_move rfl) rfl rfl rfl ?_
            refine VS_pure (P_addN rfl rfl (by omega)) rfl rfl rfl ?_
            refine VS_pure (P_assign rfl) rfl rfl rfl ?_
            refine VS_nil ?_
            refine QS_then ?_
            refine TS_region ?_
            refine VS_pure (P_move rfl) rfl rfl rfl ?_
            refine VS_pure (P_add rfl rfl (w64 (by omega) (by omega))) rfl rfl rfl ?_
            refine VS_pure (P_assign rfl) rfl rfl rfl ?_
            refine VS_nil ?_
            refine QS_block ?_
            exact QS_round (q + k, n + 1) ⟨rfl, rfl, rfl, trivial⟩ (Pick.refl _) ⟨by simp only; omega, by simp only; omega, he⟩ (by simp only; omega)
          | false =>
            by_cases h39 : x = 39
            · rw [if_neg (by simp [stopP, hl, hd, hn0, h39])] at he
              refine VS_pure (P_not rfl) rfl rfl rfl ?_
              refine VS_pure (P_move rfl) rfl rfl rfl ?_
              refine VS_pure (P_move rfl) rfl rfl rfl ?_
              refine VS_pure (df (P_neq rfl rfl) (by first | assumption | omega | decide | exact fun hx => hx (by assumption))) rfl rfl rfl ?_
              refine VS_pure (P_pick_t rfl rfl) rfl rfl rfl ?_
              refine VS_pure (P_pick_f rfl rfl) rfl rfl rfl ?_
              refine VS_pure (P_pick_t rfl rfl) rfl rfl rfl ?_
              refine VS_pure (P_pick_f rfl rfl) rfl rfl rfl ?_
              refine VS_nil ?_
              refine QS_then ?_
              refine TS_false rfl ?_
              refine TS_skip ?_
              refine QS_then ?_
              refine TS_seq ?_
              refine TS_region ?_
              refine VS_pure (P_move rfl) rfl rfl rfl ?_
              refine VS_pure (P_move rfl) rfl rfl rfl ?_
              refine VS_pure (P_addN rfl rfl (by omega)) rfl rfl rfl ?_
              refine VS_pure (P_assign rfl) rfl rfl rfl ?_
              refine VS_nil ?_
              refine QS_then ?_
              refine TS_region ?_
              refine VS_pure (P_move rfl) rfl rfl rfl ?_
              refine VS_pure (P_add rfl rfl (w64 (by omega) (by omega))) rfl rfl rfl ?_
              refine VS_pure (P_assign rfl) rfl rfl rfl ?_
              refine VS_nil ?_
              refine QS_block ?_
              exact QS_round (q + k, n + 1) ⟨rfl, rfl, rfl, trivial⟩ (Pick.refl _) ⟨by simp only; omega, by simp only; omega, he⟩ (by simp only; omega)
            · rw [if_pos (by simp [stopP, hl, hd, hn0, h39])] at he
              refine VS_pure (P_not rfl) rfl rfl rfl ?_
              refine VS_pure (P_move rfl) rfl rfl rfl ?_
              refine VS_pure (P_move rfl) rfl rfl rfl ?_
              refine VS_pure (dt (P_neq rfl rfl) (by first | assumption | rfl | omega | decide)) rfl rfl rfl ?_
              refine VS_pure (P_pick_t rfl rfl) rfl rfl rfl ?_
              refine VS_pure (P_pick_f rfl rfl) rfl rfl rfl ?_
              refine VS_pure (P_pick_t rfl rfl) rfl rfl rfl ?_
              refine VS_pure (P_pick_f rfl rfl) rfl rfl rfl ?_
              refine VS_nil ?_
              refine QS_then ?_
              refine TS_true rfl ?_
              refine TS_exit ?_
              refine QS_then_exit ?_
              refine QS_block_out rfl ?_
              refine QS_round_exit ?_
              refine QS_block_here ?_
              refine QS_then ?_
              refine TS_seq ?_
              refine TS_region ?_
              refine VS_pure (P_move rfl) rfl rfl rfl ?_
              refine VS_pure (P_move rfl) rfl rfl rfl ?_
              refine VS_pure (P_assign rfl) rfl rfl rfl ?_
              refine VS_pure (P_assign rfl) rfl rfl rfl ?_
              refine VS_nil ?_
              refine QS_then ?_
              refine TS_ret ?_
              exact QS_ret [_, _] ⟨rfl, rfl, trivial⟩ [] (Pick.nil _) ⟨by rw [← he]; rfl, rfl⟩
  · rw [nameGo_end hlt] at he
    refine TS_seq ?_
    refine TS_seq ?_
    refine TS_region ?_
    refine VS_pure (P_move rfl) rfl rfl rfl ?_
    refine VS_pure (P_move rfl) rfl rfl rfl ?_
    refine VS_pure (P_len_str rfl st9) rfl rfl rfl ?_
    refine VS_pure (df (P_lss rfl rfl) (by first | assumption | omega | decide | exact fun hx => hx (by assumption))) rfl rfl rfl ?_
    refine VS_nil ?_
    refine QS_then ?_
    refine TS_false rfl ?_
    refine TS_exit ?_
    refine QS_then_exit ?_
    refine QS_round_exit ?_
    refine QS_block_here ?_
    refine QS_then ?_
    refine TS_seq ?_
    refine TS_region ?_
    refine VS_pure (P_move rfl) rfl rfl rfl ?_
    refine VS_pure (P_move rfl) rfl rfl rfl ?_
    refine VS_pure (P_assign rfl) rfl rfl rfl ?_
    refine VS_pure (P_assign rfl) rfl rfl rfl ?_
    refine VS_nil ?_
    refine QS_then ?_
    refine TS_ret ?_
    exact QS_ret [_, _] ⟨rfl, rfl, trivial⟩ [] (Pick.nil _) ⟨by rw [← he]; rfl, rfl⟩

theorem lengthGo_end {t : List UInt8} {i n : Nat} (h : ¬ i < t.length) : lengthGo t i n = (t.length, n) := by rw [lengthGo, if_neg h]
theorem lengthGo_go {t : List UInt8} {i n : Nat} (h : i < t.length) : lengthGo t i n = if stopP (dec t i).1 (i == 0) then (i, n) else lengthGo t (i + (dec t i).2) (n + 1) := by rw [lengthGo, if_pos h]
theorem dec_le {t : List UInt8} {i : Nat} (h : i < t.length) : i + (dec t i).2 ≤ t.length := by
  unfold dec
  cases hr : rn t i with
  | none => simp; omega
  | some r => obtain ⟨x, k⟩ := r; have := rn_pos hr; simp; omega
set_option maxHeartbeats 4000000 in
theorem length_ok {m : Mp} {t : List UInt8} (hs : t.length ≤ 140737488355328) : CS Tryd.prog 16 [.string (bs t)] m [] (Gives (pairV (lengthGo t 0 0))) := by
  refine CS_of [.tmp 2, .tmp 3] Tryd.func16 rfl rfl rfl ?_
  refine TS_seq ?_
  refine TS_region ?_
  refine VS_pure (P_assign rfl) rfl rfl rfl ?_
  refine VS_pure (P_assign rfl) rfl rfl rfl ?_
  refine VS_nil ?_
  refine QS_then ?_
  refine TS_seq ?_
  refine TS_seq ?_
  refine TS_region ?_
  refine VS_pure (P_move rfl) rfl rfl rfl ?_
  refine VS_step (S_range st9 rfl rfl (fun b1 => ?_)) rfl
  refine VS_nil ?_
  refine QS_then ?_
  refine TS_block ?_
  refine TS_loop (fun y : Nat × Nat => [(0, .string (bs t)), (7, .pointer (some ⟨b1, 0, none⟩)), (3, .int .i64 (y.2 : Nat))]) (fun y => [iter b1 t y.1]) (fun y => y.1 ≤ t.length ∧ y.2 ≤ y.1 ∧ lengthGo t y.1 y.2 = lengthGo t 0 0) (fun y => t.length - y.1) (0, 0)
    ⟨rfl, rfl, rfl, trivial⟩ (Pick.refl _) ⟨Nat.zero_le _, Nat.zero_le _, rfl⟩ ?_
  rintro ⟨i, n⟩ ⟨hq, hnq, he⟩
  simp only at hq hnq he ⊢
  by_cases hlt : i < t.length
  · rw [lengthGo_go hlt] at he
    have hp := dec_pos t i
    have hl2 := dec_le hlt
    have hdq := decode_eq t i
    refine TS_seq ?_
    refine TS_region ?_
    refine VS_step (S_nextD rfl (by first | assumption | omega) (by assumption) (.here) rfl ?_) rfl
    refine VS_pure (P_extract rfl rfl) rfl rfl rfl ?_
    refine VS_nil ?_
    refine QS_then ?_
    refine TS_seq ?_
    refine TS_true rfl ?_
    refine TS_skip ?_
    refine QS_then ?_
    refine TS_block ?_
    refine TS_seq ?_
    refine TS_region ?_
    refine VS_pure (P_extract rfl rfl) rfl rfl rfl ?_
    refine VS_pure (P_extract rfl rfl) rfl rfl rfl ?_
    refine VS_pure (P_assign rfl) rfl rfl rfl ?_
    refine VS_pure (P_assign rfl) rfl rfl rfl ?_
    refine VS_nil ?_
    refine QS_then ?_
    refine TS_seq ?_
    refine TS_seq ?_
    refine TS_region ?_
    refine VS_pure (P_move rfl) rfl rfl rfl ?_
    generalize dec t i = r at *
    obtain ⟨x, k⟩ := r
    simp only at hp hl2 he ⊢
    refine VS_step (S_callR cl15 rfl (fun m' hm he => (letter_ok x)) rfl ?_) rfl
    rintro _ rfl
    cases hl : letterP x with
    | true =>
      rw [if_neg (by simp [stopP, hl])] at he
      refine VS_pure (P_not rfl) rfl rfl rfl ?_
      refine VS_pure (P_move rfl) rfl rfl rfl ?_
      refine VS_skip rfl rfl rfl ?_
      refine VS_skip rfl rfl rfl ?_
      refine VS_skip rfl rfl rfl ?_
      refine VS_skip rfl rfl rfl ?_
      refine VS_skip rfl rfl rfl ?_
      refine VS_skip rfl rfl rfl ?_
      refine VS_skip rfl rfl rfl ?_
      refine VS_skip rfl rfl rfl ?_
      refine VS_skip rfl rfl rfl ?_
      refine VS_skip rfl rfl rfl ?_
      refine VS_skip rfl rfl rfl ?_
      refine VS_pure (P_pick_f rfl rfl) rfl rfl rfl ?_
      refine VS_nil ?_
      refine QS_then ?_
      refine TS_false rfl ?_
      refine TS_skip ?_
      refine QS_then ?_
      refine TS_region ?_
      refine VS_pure (P_move rfl) rfl rfl rfl ?_
      refine VS_pure (P_add rfl rfl (w64 (by omega) (by omega))) rfl rfl rfl ?_
      refine VS_pure (P_assign rfl) rfl rfl rfl ?_
      refine VS_nil ?_
      refine QS_block ?_
      exact QS_round (i + k, n + 1) ⟨rfl, rfl, rfl, trivial⟩ (Pick.refl _) ⟨by simp only; omega, by simp only; omega, he⟩ (by simp only; omega)
    | false =>
      by_cases hn0 : i = 0
      · rw [if_pos (by simp [stopP, hl, hn0])] at he
        refine VS_pure (P_not rfl) rfl rfl rfl ?_
        refine VS_pure (P_move rfl) rfl rfl rfl ?_
        refine VS_pure (P_move rfl) rfl rfl rfl ?_
        refine VS_pure (dt (P_eql rfl rfl) (by first | assumption | rfl | omega | decide)) rfl rfl rfl ?_
        refine VS_pure (P_move rfl) rfl rfl rfl ?_
        refine VS_skip rfl rfl rfl ?_
        refine VS_skip rfl rfl rfl ?_
        refine VS_skip rfl rfl rfl ?_
        refine VS_skip rfl rfl rfl ?_
        refine VS_skip rfl rfl rfl ?_
        refine VS_skip rfl rfl rfl ?_
        refine VS_skip rfl rfl rfl ?_
        refine VS_pure (P_pick_t rfl rfl) rfl rfl rfl ?_
        refine VS_pure (P_pick_t rfl rfl) rfl rfl rfl ?_
        refine VS_nil ?_
        refine QS_then ?_
        refine TS_true rfl ?_
        refine TS_seq ?_
        refine TS_region ?_
        refine VS_pure (P_move rfl) rfl rfl rfl ?_
        refine VS_pure (P_move rfl) rfl rfl rfl ?_
        refine VS_pure (P_assign rfl) rfl rfl rfl ?_
        refine VS_pure (P_assign rfl) rfl rfl rfl ?_
        refine VS_nil ?_
        refine QS_then ?_
        refine TS_ret ?_
        refine QS_then_ret ?_
        refine QS_block_ret ?_
        refine QS_round_ret ?_
        refine QS_block_ret ?_
        refine QS_then_ret ?_
        exact QS_ret [_, _] ⟨rfl, rfl, trivial⟩ [] (Pick.nil _) ⟨by rw [← he]; rfl, rfl⟩
      · refine VS_pure (P_not rfl) rfl rfl rfl ?_
        refine VS_pure (P_move rfl) rfl rfl rfl ?_
        refine VS_pure (P_move rfl) rfl rfl rfl ?_
        refine VS_pure (df (P_eql rfl rfl) (by first | assumption | omega | decide | exact fun hx => hx (by assumption))) rfl rfl rfl ?_
        refine VS_pure (P_move rfl) rfl rfl rfl ?_
        refine VS_pure (P_move rfl) rfl rfl rfl ?_
        refine VS_step (S_callR cl17 rfl (fun m' hm he => (digit_ok x)) rfl ?_) rfl
        rintro _ rfl
        cases hd : digitP x with
        | true =>
          rw [if_neg (by simp [stopP, hl, hd, hn0])] at he
          refine VS_pure (P_not rfl) rfl rfl rfl ?_
          refine VS_pure (P_move rfl) rfl rfl rfl ?_
          refine VS_skip rfl rfl rfl ?_
          refine VS_skip rfl rfl rfl ?_
          refine VS_pure (P_pick_f rfl rfl) rfl rfl rfl ?_
          refine VS_pure (P_pick_f rfl rfl) rfl rfl rfl ?_
          refine VS_pure (P_pick_t rfl rfl) rfl rfl rfl ?_
          refine VS_nil ?_
          refine QS_then ?_
          refine TS_false rfl ?_
          refine TS_skip ?_
          refine QS_then ?_
          refine TS_region ?_
          refine VS_pure (P_move rfl) rfl rfl rfl ?_
          refine VS_pure (P_add rfl rfl (w64 (by omega) (by omega))) rfl rfl rfl ?_
          refine VS_pure (P_assign rfl) rfl rfl rfl ?_
          refine VS_nil ?_
          refine QS_block ?_
          exact QS_round (i + k, n + 1) ⟨rfl, rfl, rfl, trivial⟩ (Pick.refl _) ⟨by simp only; omega, by simp only; omega, he⟩ (by simp only; omega)
        | false =>
          by_cases h39 : x = 39
          · rw [if_neg (by simp [stopP, hl, hd, hn0, h39])] at he
            refine VS_pure (P_not rfl) rfl rfl rfl ?_
            refine VS_pure (P_move rfl) rfl rfl rfl ?_
            refine VS_pure (P_move rfl) rfl rfl rfl ?_
            refine VS_pure (df (P_neq rfl rfl) (by first | assumption | omega | decide | exact fun hx => hx (by assumption))) rfl rfl rfl ?_
            refine VS_pure (P_pick_t rfl rfl) rfl rfl rfl ?_
            refine VS_pure (P_pick_f rfl rfl) rfl rfl rfl ?_
            refine VS_pure (P_pick_t rfl rfl) rfl rfl rfl ?_
            refine VS_nil ?_
            refine QS_then ?_
            refine TS_false rfl ?_
            refine TS_skip ?_
            refine QS_then ?_
            refine TS_region ?_
            refine VS_pure (P_move rfl) rfl rfl rfl ?_
            refine VS_pure (P_add rfl rfl (w64 (by omega) (by omega))) rfl rfl rfl ?_
            refine VS_pure (P_assign rfl) rfl rfl rfl ?_
            refine VS_nil ?_
            refine QS_block ?_
            exact QS_round (i + k, n + 1) ⟨rfl, rfl, rfl, trivial⟩ (Pick.refl _) ⟨by simp only; omega, by simp only; omega, he⟩ (by simp only; omega)
          · rw [if_pos (by simp [stopP, hl, hd, hn0, h39])] at he
            refine VS_pure (P_not rfl) rfl rfl rfl ?_
            refine VS_pure (P_move rfl) rfl rfl rfl ?_
            refine VS_pure (P_move rfl) rfl rfl rfl ?_
            refine VS_pure (dt (P_neq rfl rfl) (by first | assumption | rfl | omega | decide)) rfl rfl rfl ?_
            refine VS_pure (P_pick_t rfl rfl) rfl rfl rfl ?_
            refine VS_pure (P_pick_f rfl rfl) rfl rfl rfl ?_
            refine VS_pure (P_pick_t rfl rfl) rfl rfl rfl ?_
            refine VS_nil ?_
            refine QS_then ?_
            refine TS_true rfl ?_
            refine TS_seq ?_
            refine TS_region ?_
            refine VS_pure (P_move rfl) rfl rfl rfl ?_
            refine VS_pure (P_move rfl) rfl rfl rfl ?_
            refine VS_pure (P_assign rfl) rfl rfl rfl ?_
            refine VS_pure (P_assign rfl) rfl rfl rfl ?_
            refine VS_nil ?_
            refine QS_then ?_
            refine TS_ret ?_
            refine QS_then_ret ?_
            refine QS_block_ret ?_
            refine QS_round_ret ?_
            refine QS_block_ret ?_
            refine QS_then_ret ?_
            exact QS_ret [_, _] ⟨rfl, rfl, trivial⟩ [] (Pick.nil _) ⟨by rw [← he]; rfl, rfl⟩
  · rw [lengthGo_end hlt] at he
    refine TS_seq ?_
    refine TS_region ?_
    refine VS_step (S_nextEnd rfl (by first | assumption | omega) (.here) rfl ?_) rfl
    refine VS_pure (P_extract rfl rfl) rfl rfl rfl ?_
    refine VS_nil ?_
    refine QS_then ?_
    refine TS_seq ?_
    refine TS_false rfl ?_
    refine TS_exit ?_
    refine QS_then_exit ?_
    refine QS_round_exit ?_
    refine QS_block_here ?_
    refine QS_then ?_
    refine TS_seq ?_
    refine TS_region ?_
    refine VS_pure (P_move rfl) rfl rfl rfl ?_
    refine VS_pure (P_len_str rfl st9) rfl rfl rfl ?_
    refine VS_pure (P_move rfl) rfl rfl rfl ?_
    refine VS_pure (P_assign rfl) rfl rfl rfl ?_
    refine VS_pure (P_assign rfl) rfl rfl rfl ?_
    refine VS_nil ?_
    refine QS_then ?_
    refine TS_ret ?_
    exact QS_ret [_, _] ⟨rfl, rfl, trivial⟩ [] (Pick.nil _) ⟨by rw [← he]; rfl, rfl⟩

theorem isPrefix_eq {s t : List UInt8} (h : t.length ≤ s.length) : decide (s.take t.length = t) = t.isPrefixOf s := by
  rw [Bool.eq_iff_iff, decide_eq_true_eq, List.isPrefixOf_iff_prefix, List.prefix_iff_eq_take]
  exact ⟨fun h => h.symm, fun h => h.symm⟩
theorem notPrefix {s t : List UInt8} (h : ¬ t.length ≤ s.length) : t.isPrefixOf s = false := by
  cases hp : t.isPrefixOf s with
  | false => rfl
  | true => exact absurd (List.IsPrefix.length_le (List.isPrefixOf_iff_prefix.1 hp)) h
set_option maxHeartbeats 4000000 in
theorem hasPrefixI_ok {m : Mp} {s t : List UInt8} : CS Tryd.prog 30 [.string (bs s), .string (bs t)] m [] (Gives (.bool (t.isPrefixOf s))) := by
  refine CS_of [.tmp 4] Tryd.func30 rfl rfl rfl ?_
  by_cases h : t.length ≤ s.length
  · rw [← isPrefix_eq h]
    refine TS_seq ?_
    refine TS_region ?_
    refine VS_pure (P_assign rfl) rfl rfl rfl ?_
    refine VS_nil ?_
    refine QS_then ?_
    refine TS_seq ?_
    refine TS_region ?_
    refine VS_pure (P_move rfl) rfl rfl rfl ?_
    refine VS_pure (P_len_str rfl st9) rfl rfl rfl ?_
    refine VS_pure (P_move rfl) rfl rfl rfl ?_
    refine VS_pure (P_len_str rfl st9) rfl rfl rfl ?_
    refine VS_pure (dt (P_geq rfl rfl) (by first | assumption | rfl | omega | decide)) rfl rfl rfl ?_
    refine VS_pure (P_move rfl) rfl rfl rfl ?_
    refine VS_pure (P_move rfl) rfl rfl rfl ?_
    refine VS_pure (P_move rfl) rfl rfl rfl ?_
    refine VS_pure (P_len_str rfl st9) rfl rfl rfl ?_
    refine VS_pure (P_sslice_h _ st9 rfl rfl rfl (by omega)) rfl rfl rfl ?_
    refine VS_pure (P_move rfl) rfl rfl rfl ?_
    refine VS_pure ((P_seql rfl rfl)) rfl rfl rfl ?_
    refine VS_pure (P_pick_t rfl rfl) rfl rfl rfl ?_
    refine VS_pure (P_assign rfl) rfl rfl rfl ?_
    refine VS_nil ?_
    refine QS_then ?_
    refine TS_ret ?_
    exact QS_ret [_] ⟨rfl, trivial⟩ [] (Pick.nil _) ⟨rfl, rfl⟩
  · rw [notPrefix h]
    refine TS_seq ?_
    refine TS_region ?_
    refine VS_pure (P_assign rfl) rfl rfl rfl ?_
    refine VS_nil ?_
    refine QS_then ?_
    refine TS_seq ?_
    refine TS_region ?_
    refine VS_pure (P_move rfl) rfl rfl rfl ?_
    refine VS_pure (P_len_str rfl st9) rfl rfl rfl ?_
    refine VS_pure (P_move rfl) rfl rfl rfl ?_
    refine VS_pure (P_len_str rfl st9) rfl rfl rfl ?_
    refine VS_pure (df (P_geq rfl rfl) (by first | assumption | omega | decide | exact fun hx => hx (by assumption))) rfl rfl rfl ?_
    refine VS_pure (P_move rfl) rfl rfl rfl ?_
    refine VS_skip rfl rfl rfl ?_
    refine VS_skip rfl rfl rfl ?_
    refine VS_skip rfl rfl rfl ?_
    refine VS_skip rfl rfl rfl ?_
    refine VS_skip rfl rfl rfl ?_
    refine VS_skip rfl rfl rfl ?_
    refine VS_pure (P_pick_f rfl rfl) rfl rfl rfl ?_
    refine VS_pure (P_assign rfl) rfl rfl rfl ?_
    refine VS_nil ?_
    refine QS_then ?_
    refine TS_ret ?_
    exact QS_ret [_] ⟨rfl, trivial⟩ [] (Pick.nil _) ⟨rfl, rfl⟩
theorem hasPrefix_ok {m : Mp} {s t : List UInt8} : CS Tryd.prog 28 [.string (bs s), .string (bs t)] m [] (Gives (.bool (t.isPrefixOf s))) := by
  refine CS_of [.tmp 4] Tryd.func28 rfl rfl rfl ?_
  refine TS_seq ?_
  refine TS_region ?_
  refine VS_pure (P_assign rfl) rfl rfl rfl ?_
  refine VS_nil ?_
  refine QS_then ?_
  refine TS_seq ?_
  refine TS_region ?_
  refine VS_pure (P_move rfl) rfl rfl rfl ?_
  refine VS_pure (P_move rfl) rfl rfl rfl ?_
  refine VS_step (S_callR cl30 rfl (fun m' hm he => hasPrefixI_ok) rfl ?_) rfl
  rintro _ rfl
  refine VS_pure (P_assign rfl) rfl rfl rfl ?_
  refine VS_nil ?_
  refine QS_then ?_
  refine TS_ret ?_
  exact QS_ret [_] ⟨rfl, trivial⟩ [] (Pick.nil _) ⟨rfl, rfl⟩
def strV (s : List UInt8) : Value := .string (bs s)
theorem marks_step {t : List UInt8} {i : Nat} (h : i < marks.length) : (marks.drop i).find? (·.isPrefixOf t) = if marks[i].isPrefixOf t then some marks[i] else (marks.drop (i + 1)).find? (·.isPrefixOf t) := by
  rw [List.drop_eq_getElem_cons h, List.find?_cons]
  split <;> simp [*]
theorem mark_at {i : Nat} (h : i < marks.length) : vnth (marks.map strV) (((i : Nat) : Int).toNat * 1) = some (strV marks[i]) := by
  rw [← vnth_eq]
  simp [h]
theorem mark_ok {m : Mp} {t : List UInt8} : CS Tryd.prog 18 [.string (bs t)] m [] (Gives (strV ((markP t).getD []))) := by
  refine CS_of [.tmp 2] Tryd.func18 rfl rfl rfl ?_
  refine TS_seq ?_
  refine TS_region ?_
  refine VS_pure (P_assign rfl) rfl rfl rfl ?_
  refine VS_nil ?_
  refine QS_then ?_
  refine TS_seq ?_
  refine TS_seq ?_
  refine TS_region ?_
  refine VS_pure (P_buildArr ar50 zl50 rfl rfl) rfl rfl rfl ?_
  refine VS_pure (P_move rfl) rfl rfl rfl ?_
  refine VS_nil ?_
  refine QS_then ?_
  refine TS_block ?_
  refine TS_loop (fun i : Nat => [(0, .string (bs t)), (5, .agg (marks.map strV).toArray), (6, .int .i64 (i : Nat))]) (fun _ => []) (fun i => i ≤ 13 ∧ markP t = (marks.drop i).find? (·.isPrefixOf t)) (fun i => 13 - i) 0
    ⟨rfl, rfl, rfl, trivial⟩ (Pick.refl _) ⟨Nat.zero_le _, rfl⟩ ?_
  rintro i ⟨hi, he⟩
  by_cases hlt : i < 13
  · have hl : i < marks.length := hlt
    have hm := mark_at hl
    rw [marks_step hl] at he
    refine TS_seq ?_
    refine TS_region ?_
    refine VS_pure (dt (P_lss rfl rfl) (by first | assumption | rfl | omega | decide)) rfl rfl rfl ?_
    refine VS_nil ?_
    refine QS_then ?_
    refine TS_seq ?_
    refine TS_true rfl ?_
    refine TS_skip ?_
    refine QS_then ?_
    refine TS_seq ?_
    refine TS_block ?_
    refine TS_seq ?_
    refine TS_region ?_
    refine VS_pure ((P_index1 ar50 ars50 rfl rfl (by omega) (by omega) hm)) rfl rfl rfl ?_
    refine VS_pure (P_assign rfl) rfl rfl rfl ?_
    refine VS_nil ?_
    refine QS_then ?_
    refine TS_seq ?_
    refine TS_region ?_
    refine VS_pure (P_move rfl) rfl rfl rfl ?_
    refine VS_pure (P_move rfl) rfl rfl rfl ?_
    refine VS_step (S_callR cl28 rfl (fun m' hm he => hasPrefix_ok) rfl ?_) rfl
    rintro _ rfl
    cases hp : (marks[i]'hl).isPrefixOf t with
    | true =>
      rw [hp, if_pos rfl] at he
      refine VS_nil ?_
      refine QS_then ?_
      refine TS_true rfl ?_
      refine TS_seq ?_
      refine TS_region ?_
      refine VS_pure (P_move rfl) rfl rfl rfl ?_
      refine VS_pure (P_assign rfl) rfl rfl rfl ?_
      refine VS_nil ?_
      refine QS_then ?_
      refine TS_ret ?_
      refine QS_block_ret ?_
      refine QS_then_ret ?_
      refine QS_round_ret ?_
      refine QS_block_ret ?_
      refine QS_then_ret ?_
      exact QS_ret [_] ⟨rfl, trivial⟩ [] (Pick.nil _) ⟨by rw [he]; rfl, rfl⟩
    | false =>
      rw [hp, if_neg (by simp)] at he
      refine VS_nil ?_
      refine QS_then ?_
      refine TS_false rfl ?_
      refine TS_skip ?_
      refine QS_block ?_
      refine QS_then ?_
      refine TS_region ?_
      refine VS_pure (P_add rfl rfl (w64 (by omega) (by omega))) rfl rfl rfl ?_
      refine VS_pure (P_move rfl) rfl rfl rfl ?_
      refine VS_nil ?_
      exact QS_round (i + 1) ⟨rfl, rfl, rfl, trivial⟩ (Pick.refl _) ⟨by omega, he⟩ (by omega)
  · have : i = 13 := by omega
    subst this
    refine TS_seq ?_
    refine TS_region ?_
    refine VS_pure (df (P_lss rfl rfl) (by first | assumption | omega | decide | exact fun hx => hx (by assumption))) rfl rfl rfl ?_
    refine VS_nil ?_
    refine QS_then ?_
    refine TS_seq ?_
    refine TS_false rfl ?_
    refine TS_exit ?_
    refine QS_then_exit ?_
    refine QS_round_exit ?_
    refine QS_block_here ?_
    refine QS_then ?_
    refine TS_seq ?_
    refine TS_region ?_
    refine VS_pure (P_assign rfl) rfl rfl rfl ?_
    refine VS_nil ?_
    refine QS_then ?_
    refine TS_ret ?_
    exact QS_ret [_] ⟨rfl, trivial⟩ [] (Pick.nil _) ⟨by rw [he]; rfl, rfl⟩
end Go.Proofs.YtigfdclopkagmaaDoor
