/- A part of the proof: contracts of functions of the program. No condition. -/
import Derived.Test.YtigfdclopkagmaaDoorWdF
namespace Go.Proofs.YtigfdclopkagmaaDoor
open Go.Eng Wd Go.RowKit

theorem remGo_some {s : List UInt8} {p x k : Nat} (hp : p < s.length) (h10 : by_ s p ≠ 10) (h : rn s p = some (x, k)) : remGo s p = remGo s (p + k) := by
  rw [remGo, if_pos ⟨hp, h10⟩]
  split
  · rename_i hn; rw [hn] at h; cases h
  · rename_i x' k' hr'
    rw [h] at hr'; injection hr' with e; injection e with e1 e2; subst e2; rfl
theorem remGo_none {s : List UInt8} {p : Nat} (hp : p < s.length) (h10 : by_ s p ≠ 10) (h : rn s p = none) : remGo s p = .inl p := by
  rw [remGo, if_pos ⟨hp, h10⟩]
  split
  · rfl
  · rename_i hr'; rw [h] at hr'; cases hr'
theorem remGo_end {s : List UInt8} {p : Nat} (h : ¬ (p < s.length ∧ by_ s p ≠ 10)) : remGo s p = .inr p := by rw [remGo, if_neg h]
theorem Marks_ok {m : Mp} : CS Tryd.prog 23 [] m [] fun v L' => ∃ b, v = .slice (some ⟨b, 0, none⟩) 13 13 ∧ L' = [cel b (marks.map strV) 9] := by
  refine CS_of [.tmp 0] Tryd.func23 rfl rfl rfl ?_
  refine TS_seq ?_
  refine TS_region ?_
  refine VS_pure (P_assign rfl) rfl rfl rfl ?_
  refine VS_nil ?_
  refine QS_then ?_
  refine TS_seq ?_
  refine TS_region ?_
  refine VS_step (S_buildSlice sl45 rfl rfl rfl rfl (fun b1 => ?_)) rfl
  refine VS_pure (P_assign rfl) rfl rfl rfl ?_
  refine VS_nil ?_
  refine QS_then ?_
  refine TS_ret ?_
  exact QS_ret [_] ⟨rfl, trivial⟩ _ (Pick.refl _) ⟨b1, rfl, rfl⟩
theorem mark_get {i : Nat} (h : i < marks.length) : (marks.map strV)[i]? = some (strV marks[i]) := by simp [h]
theorem goR_next {s : List UInt8} {p q : Nat} {ws acc : List Wrd} {F : Res} (hp : p < s.length) (h : stepR s p = .next q ws) (he : goR s p acc = F) : goR s q (acc ++ ws) = F ∧ p < q ∧ q ≤ s.length := by
  rw [goR_step hp h] at he
  obtain ⟨h1, h2⟩ := stepR_next hp h
  exact ⟨he, h1, h2.len (Nat.le_of_lt hp)⟩
set_option maxHeartbeats 8000000 in
theorem CutR_ok {m : Mp} {s : List UInt8} (hs : s.length ≤ 9223372036854775807) : CS Tryd.prog 7 [.string (bs s)] m [] (CutPost (cutP s)) := by
  refine CS_of [.tmp 2, .cell 3 25] Tryd.func7 rfl rfl rfl ?_
  by_cases hlong : 65536 < s.length
  · have e : cutP s = .error (3, 0) := by rw [cutP, if_pos hlong]
    rw [e]
    refine TS_seq ?_
    refine TS_region ?_
    refine VS_pure (P_assign rfl) rfl rfl rfl ?_
    refine VS_step (S_alloc zl25 rfl (fun b1 => ?_)) rfl
    refine VS_nil ?_
    refine QS_then ?_
    refine TS_seq ?_
    refine TS_seq ?_
    refine TS_region ?_
    refine VS_pure (P_move rfl) rfl rfl rfl ?_
    refine VS_pure (P_len_str rfl st9) rfl rfl rfl ?_
    refine VS_pure (dt (P_gtr rfl rfl) (by first | assumption | rfl | omega | decide)) rfl rfl rfl ?_
    refine VS_nil ?_
    refine QS_then ?_
    refine TS_true rfl ?_
    refine TS_seq ?_
    refine TS_region ?_
    refine VS_pure (P_build zl25 pl25 rfl rfl) rfl rfl rfl ?_
    refine VS_pure (P_assign rfl) rfl rfl rfl ?_
    refine VS_step (S_storeAgg ag25 rfl rfl rfl (.here) rfl rfl ?_) rfl
    refine VS_nil ?_
    refine QS_then ?_
    refine TS_ret ?_
    refine QS_then_ret ?_
    exact QS_ret [.slice none 0 0, faultV 3 0] ⟨rfl, ⟨b1, _, _, _, rfl, .here, .inr ⟨ag25, rfl⟩⟩, trivial⟩ [] (Pick.nil _) ⟨rfl, rfl⟩
  · have e : cutP s = goR s 0 [] := by rw [cutP, if_neg hlong]
    rw [e]
    refine TS_seq ?_
    refine TS_region ?_
    refine VS_pure (P_assign rfl) rfl rfl rfl ?_
    refine VS_step (S_alloc zl25 rfl (fun b1 => ?_)) rfl
    refine VS_nil ?_
    refine QS_then ?_
    refine TS_seq ?_
    refine TS_seq ?_
    refine TS_region ?_
    refine VS_pure (P_move rfl) rfl rfl rfl ?_
    refine VS_pure (P_len_str rfl st9) rfl rfl rfl ?_
    refine VS_pure (df (P_gtr rfl rfl) (by first | assumption | omega | decide | exact fun hx => hx (by assumption))) rfl rfl rfl ?_
    refine VS_nil ?_
    refine QS_then ?_
    refine TS_false rfl ?_
    refine TS_skip ?_
    refine QS_then ?_
    refine TS_seq ?_
    refine TS_region ?_
    refine VS_pure (P_assign rfl) rfl rfl rfl ?_
    refine VS_nil ?_
    refine QS_then ?_
    refine TS_seq ?_
    refine TS_region ?_
    refine VS_pure (P_assign rfl) rfl rfl rfl ?_
    refine VS_nil ?_
    refine QS_then ?_
    refine TS_seq ?_
    refine TS_block ?_
    refine TS_nilOwn 30 4 ?_
    refine TS_loop (fun y : Nat × List Wrd × Option Addr × Nat => [(0, .string (bs s)), (3, .pointer (some ⟨b1, 0, none⟩)), (4, .slice y.2.2.1 y.2.1.length y.2.2.2), (5, .int .i64 (y.1 : Nat))])
      (fun y => [own 30 4 y.2.2.1 y.2.1.length y.2.2.2 (wsV y.2.1), cel b1 [.int .i64 0, .int .i64 0] 25])
      (fun y => y.1 ≤ s.length ∧ y.2.1.length ≤ y.1 ∧ goR s y.1 y.2.1 = goR s 0 []) (fun y => s.length - y.1) (0, [], none, 0)
      ⟨rfl, rfl, rfl, rfl, trivial⟩ (Pick.refl _) ⟨Nat.zero_le _, Nat.zero_le _, rfl⟩ ?_
    rintro ⟨p, acc, A, c⟩ ⟨hp, hacc, he⟩
    simp only at hp hacc he ⊢
    generalize goR s 0 [] = FIN at *
    by_cases hlt : p < s.length
    · refine TS_seq ?_
      refine TS_seq ?_
      refine TS_region ?_
      refine VS_pure (P_move rfl) rfl rfl rfl ?_
      refine VS_pure (P_move rfl) rfl rfl rfl ?_
      refine VS_pure (P_len_str rfl st9) rfl rfl rfl ?_
      refine VS_pure (dt (P_lss rfl rfl) (by first | assumption | rfl | omega | decide)) rfl rfl rfl ?_
      refine VS_nil ?_
      refine QS_then ?_
      refine TS_true rfl ?_
      refine TS_skip ?_
      refine QS_then ?_
      refine TS_block ?_
      refine TS_seq ?_
      refine TS_region ?_
      refine VS_pure (P_move rfl) rfl rfl rfl ?_
      refine VS_pure (P_move rfl) rfl rfl rfl ?_
      refine VS_step (S_callR cl19 rfl (fun m' hm he => (runeAt_ok hlt (by omega))) rfl ?_) rfl
      rintro _ rfl
      cases hr : rn s p with
      | none =>
        have hst : stepR s p = .err 110 p := by unfold stepR; rw [hr]
        rw [goR_err hlt hst] at he
        subst he
        rw [runeR_none hr]
        refine VS_pure (P_move rfl) rfl rfl rfl ?_
        refine VS_pure (P_extract rfl rfl) rfl rfl rfl ?_
        refine VS_pure (P_extract rfl rfl) rfl rfl rfl ?_
        refine VS_pure (P_assign rfl) rfl rfl rfl ?_
        refine VS_pure (P_assign rfl) rfl rfl rfl ?_
        refine VS_nil ?_
        refine QS_then ?_
        refine TS_seq ?_
        refine TS_seq ?_
        refine TS_region ?_
        refine VS_pure (P_move rfl) rfl rfl rfl ?_
        refine VS_pure (dt (P_eql rfl rfl) (by first | assumption | rfl | omega | decide)) rfl rfl rfl ?_
        refine VS_nil ?_
        refine QS_then ?_
        refine TS_true rfl ?_
        refine TS_seq ?_
        refine TS_region ?_
        refine VS_pure (P_move rfl) rfl rfl rfl ?_
        refine VS_pure (P_build zl25 pl25 rfl rfl) rfl rfl rfl ?_
        refine VS_pure (P_assign rfl) rfl rfl rfl ?_
        refine VS_step (S_storeAgg ag25 rfl rfl rfl (.there (.here)) rfl rfl ?_) rfl
        refine VS_nil ?_
        refine QS_then ?_
        refine TS_ret ?_
        refine QS_then_ret ?_
        refine QS_block_ret ?_
        refine QS_round_ret ?_
        refine QS_block_ret ?_
        refine QS_then_ret ?_
        exact QS_ret [.slice none 0 0, faultV 110 p] ⟨rfl, ⟨b1, _, _, _, rfl, .there .here, .inr ⟨ag25, rfl⟩⟩, trivial⟩ [] (Pick.nil _) ⟨rfl, rfl⟩
      | some r =>
        obtain ⟨x, k⟩ := r
        have hpos := rn_pos hr
        rw [runeR_some hr]
        have hstep : stepR s p = if isSp x then .next (p + 1) [] else if x = 35 then (match remGo s p with | .inl a => .err 110 a | .inr q => .next q []) else if letterP x then stepN s p (nameGo s p 0) else if digitP x then stepD s p (digGo s p 0) else stepM s p := by
          unfold stepR; rw [hr]; rfl
        by_cases hsp : isSp x = true
        · rw [if_pos hsp] at hstep
          obtain ⟨he, _, _⟩ := goR_next hlt hstep he
          rw [List.append_nil] at he
          have hx4 : x = 32 ∨ x = 10 ∨ x = 13 ∨ x = 9 := of_decide_eq_true hsp
          refine VS_pure (P_move rfl) rfl rfl rfl ?_
          refine VS_pure (P_extract rfl rfl) rfl rfl rfl ?_
          refine VS_pure (P_extract rfl rfl) rfl rfl rfl ?_
          refine VS_pure (P_assign rfl) rfl rfl rfl ?_
          refine VS_pure (P_assign rfl) rfl rfl rfl ?_
          refine VS_nil ?_
          refine QS_then ?_
          refine TS_seq ?_
          refine TS_seq ?_
          refine TS_region ?_
          refine VS_pure (P_move rfl) rfl rfl rfl ?_
          refine VS_pure (df (P_eql rfl rfl) (by first | assumption | omega | decide | exact fun hx => hx (by assumption))) rfl rfl rfl ?_
          refine VS_nil ?_
          refine QS_then ?_
          refine TS_false rfl ?_
          refine TS_skip ?_
          refine QS_then ?_
          refine TS_seq ?_
          refine TS_seq ?_
          refine TS_region ?_
          refine VS_pure (P_move rfl) rfl rfl rfl ?_
          refine VS_if (P_eql rfl rfl) rfl rfl rfl (fun hc1 => ?_) (fun hc1 => ?_)
          refine VS_pure (P_move rfl) rfl rfl rfl ?_
          refine VS_skip rfl rfl rfl ?_
          refine VS_skip rfl rfl rfl ?_
          refine VS_pure (P_pick_t rfl rfl) rfl rfl rfl ?_
          refine VS_pure (P_move rfl) rfl rfl rfl ?_
          refine VS_skip rfl rfl rfl ?_
          refine VS_skip rfl rfl rfl ?_
          refine VS_pure (P_pick_t rfl rfl) rfl rfl rfl ?_
          refine VS_pure (P_move rfl) rfl rfl rfl ?_
          refine VS_skip rfl rfl rfl ?_
          refine VS_skip rfl rfl rfl ?_
          refine VS_pure (P_pick_t rfl rfl) rfl rfl rfl ?_
          refine VS_nil ?_
          refine QS_then ?_
          refine TS_true rfl ?_
          refine TS_seq ?_
          refine TS_region ?_
          refine VS_pure (P_move rfl) rfl rfl rfl ?_
          refine VS_pure (P_add rfl rfl (w64 (by omega) (by omega))) rfl rfl rfl ?_
          refine VS_pure (P_assign rfl) rfl rfl rfl ?_
          refine VS_nil ?_
          refine QS_then ?_
          refine TS_exit ?_
          refine QS_then_exit ?_
          refine QS_block_here ?_
          (exact QS_round (p + 1, acc, A, c) ⟨rfl, rfl, rfl, rfl, trivial⟩ (Pick.refl _) ⟨by simp only; omega, by simp only; omega, he⟩ (by simp only; omega))
          refine VS_pure (P_move rfl) rfl rfl rfl ?_
          refine VS_pure (P_move rfl) rfl rfl rfl ?_
          refine VS_if (P_eql rfl rfl) rfl rfl rfl (fun hc2 => ?_) (fun hc2 => ?_)
          refine VS_pure (P_pick_f rfl rfl) rfl rfl rfl ?_
          refine VS_pure (P_move rfl) rfl rfl rfl ?_
          refine VS_skip rfl rfl rfl ?_
          refine VS_skip rfl rfl rfl ?_
          refine VS_pure (P_pick_t rfl rfl) rfl rfl rfl ?_
          refine VS_pure (P_move rfl) rfl rfl rfl ?_
          refine VS_skip rfl rfl rfl ?_
          refine VS_skip rfl rfl rfl ?_
          refine VS_pure (P_pick_t rfl rfl) rfl rfl rfl ?_
          refine VS_nil ?_
          refine QS_then ?_
          refine TS_true rfl ?_
          refine TS_seq ?_
          refine TS_region ?_
          refine VS_pure (P_move rfl) rfl rfl rfl ?_
          refine VS_pure (P_add rfl rfl (w64 (by omega) (by omega))) rfl rfl rfl ?_
          refine VS_pure (P_assign rfl) rfl rfl rfl ?_
          refine VS_nil ?_
          refine QS_then ?_
          refine TS_exit ?_
          refine QS_then_exit ?_
          refine QS_block_here ?_
          (exact QS_round (p + 1, acc, A, c) ⟨rfl, rfl, rfl, rfl, trivial⟩ (Pick.refl _) ⟨by simp only; omega, by simp only; omega, he⟩ (by simp only; omega))
          refine VS_pure (P_pick_f rfl rfl) rfl rfl rfl ?_
          refine VS_pure (P_move rfl) rfl rfl rfl ?_
          refine VS_pure (P_move rfl) rfl rfl rfl ?_
          refine VS_if (P_eql rfl rfl) rfl rfl rfl (fun hc3 => ?_) (fun hc3 => ?_)
          refine VS_pure (P_pick_f rfl rfl) rfl rfl rfl ?_
          refine VS_pure (P_move rfl) rfl rfl rfl ?_
          refine VS_skip rfl rfl rfl ?_
          refine VS_skip rfl rfl rfl ?_
          refine VS_pure (P_pick_t rfl rfl) rfl rfl rfl ?_
          refine VS_nil ?_
          refine QS_then ?_
          refine TS_true rfl ?_
          refine TS_seq ?_
          refine TS_region ?_
          refine VS_pure (P_move rfl) rfl rfl rfl ?_
          refine VS_pure (P_add rfl rfl (w64 (by omega) (by omega))) rfl rfl rfl ?_
          refine VS_pure (P_assign rfl) rfl rfl rfl ?_
          refine VS_nil ?_
          refine QS_then ?_
          refine TS_exit ?_
          refine QS_then_exit ?_
          refine QS_block_here ?_
          (exact QS_round (p + 1, acc, A, c) ⟨rfl, rfl, rfl, rfl, trivial⟩ (Pick.refl _) ⟨by simp only; omega, by simp only; omega, he⟩ (by simp only; omega))
          refine VS_pure (P_pick_f rfl rfl) rfl rfl rfl ?_
          refine VS_pure (P_move rfl) rfl rfl rfl ?_
          refine VS_pure (P_move rfl) rfl rfl rfl ?_
          refine VS_pure (dt (P_eql rfl rfl) (by first | assumption | rfl | omega | decide)) rfl rfl rfl ?_
          refine VS_pure (P_pick_f rfl rfl) rfl rfl rfl ?_
          refine VS_nil ?_
          refine QS_then ?_
          refine TS_true rfl ?_
          refine TS_seq ?_
          refine TS_region ?_
          refine VS_pure (P_move rfl) rfl rfl rfl ?_
          refine VS_pure (P_add rfl rfl (w64 (by omega) (by omega))) rfl rfl rfl ?_
          refine VS_pure (P_assign rfl) rfl rfl rfl ?_
          refine VS_nil ?_
          refine QS_then ?_
          refine TS_exit ?_
          refine QS_then_exit ?_
          refine QS_block_here ?_
          (exact QS_round (p + 1, acc, A, c) ⟨rfl, rfl, rfl, rfl, trivial⟩ (Pick.refl _) ⟨by simp only; omega, by simp only; omega, he⟩ (by simp only; omega))
        · have hx4 : ¬ (x = 32 ∨ x = 10 ∨ x = 13 ∨ x = 9) := fun h => hsp (decide_eq_true h)
          rw [if_neg hsp] at hstep
          by_cases h35 : x = 35
          · rw [if_pos h35] at hstep
            refine VS_pure (P_move rfl) rfl rfl rfl ?_
            refine VS_pure (P_extract rfl rfl) rfl rfl rfl ?_
            refine VS_pure (P_extract rfl rfl) rfl rfl rfl ?_
            refine VS_pure (P_assign rfl) rfl rfl rfl ?_
            refine VS_pure (P_assign rfl) rfl rfl rfl ?_
            refine VS_nil ?_
            refine QS_then ?_
            refine TS_seq ?_
            refine TS_seq ?_
            refine TS_region ?_
            refine VS_pure (P_move rfl) rfl rfl rfl ?_
            refine VS_pure (df (P_eql rfl rfl) (by first | assumption | omega | decide | exact fun hx => hx (by assumption))) rfl rfl rfl ?_
            refine VS_nil ?_
            refine QS_then ?_
            refine TS_false rfl ?_
            refine TS_skip ?_
            refine QS_then ?_
            refine TS_seq ?_
            refine TS_seq ?_
            refine TS_region ?_
            refine VS_pure (P_move rfl) rfl rfl rfl ?_
            refine VS_pure (df (P_eql rfl rfl) (by first | assumption | omega | decide | exact fun hx => hx (by assumption))) rfl rfl rfl ?_
            refine VS_pure (P_move rfl) rfl rfl rfl ?_
            refine VS_pure (P_move rfl) rfl rfl rfl ?_
            refine VS_pure (df (P_eql rfl rfl) (by first | assumption | omega | decide | exact fun hx => hx (by assumption))) rfl rfl rfl ?_
            refine VS_pure (P_pick_f rfl rfl) rfl rfl rfl ?_
            refine VS_pure (P_move rfl) rfl rfl rfl ?_
            refine VS_pure (P_move rfl) rfl rfl rfl ?_
            refine VS_pure (df (P_eql rfl rfl) (by first | assumption | omega | decide | exact fun hx => hx (by assumption))) rfl rfl rfl ?_
            refine VS_pure (P_pick_f rfl rfl) rfl rfl rfl ?_
            refine VS_pure (P_move rfl) rfl rfl rfl ?_
            refine VS_pure (P_move rfl) rfl rfl rfl ?_
            refine VS_pure (df (P_eql rfl rfl) (by first | assumption | omega | decide | exact fun hx => hx (by assumption))) rfl rfl rfl ?_
            refine VS_pure (P_pick_f rfl rfl) rfl rfl rfl ?_
            refine VS_nil ?_
            refine QS_then ?_
            refine TS_false rfl ?_
            refine TS_skip ?_
            refine QS_then ?_
            refine TS_seq ?_
            refine TS_seq ?_
            refine TS_region ?_
            refine VS_pure (P_move rfl) rfl rfl rfl ?_
            refine VS_pure (dt (P_eql rfl rfl) (by first | assumption | rfl | omega | decide)) rfl rfl rfl ?_
            refine VS_nil ?_
            refine QS_then ?_
            refine TS_true rfl ?_
            refine TS_seq ?_
            refine TS_block ?_
            refine TS_loop (fun q : Nat => [(0, .string (bs s)), (3, .pointer (some ⟨b1, 0, none⟩)), (4, .slice A acc.length c), (5, .int .i64 (q : Nat))]) (fun _ => [own 30 4 A acc.length c (wsV acc), cel b1 [.int .i64 0, .int .i64 0] 25])
              (fun q => p ≤ q ∧ q ≤ s.length ∧ remGo s q = remGo s p) (fun q => s.length - q) p ⟨rfl, rfl, rfl, rfl, trivial⟩ (Pick.refl _) ⟨Nat.le_refl _, hp, rfl⟩ ?_
            rintro q ⟨hpq, hq, hrem⟩
            by_cases hql : q < s.length
            · by_cases h10 : by_ s q = 10
              · rw [remGo_end (by omega)] at hrem
                rw [← hrem] at hstep
                obtain ⟨he, _, _⟩ := goR_next hlt hstep he
                rw [List.append_nil] at he
                have hbq := by_lt s q
                refine TS_seq ?_
                refine TS_seq ?_
                refine TS_region ?_
                refine VS_pure (P_move rfl) rfl rfl rfl ?_
                refine VS_pure (P_move rfl) rfl rfl rfl ?_
                refine VS_pure (P_len_str rfl st9) rfl rfl rfl ?_
                refine VS_pure (dt (P_lss rfl rfl) (by first | assumption | rfl | omega | decide)) rfl rfl rfl ?_
                refine VS_pure (P_move rfl) rfl rfl rfl ?_
                refine VS_pure (P_move rfl) rfl rfl rfl ?_
                refine VS_pure (P_move rfl) rfl rfl rfl ?_
                refine VS_pure (P_sindexN rfl rfl st9 (by omega)) rfl rfl rfl ?_
                refine VS_pure (df (P_neq rfl rfl) (by first | assumption | omega | decide | exact fun hx => hx (by assumption))) rfl rfl rfl ?_
                refine VS_pure (P_pick_t rfl rfl) rfl rfl rfl ?_
                refine VS_nil ?_
                refine QS_then ?_
                refine TS_false rfl ?_
                refine TS_exit ?_
                refine QS_then_exit ?_
                refine QS_round_exit ?_
                refine QS_block_here ?_
                refine QS_then ?_
                refine TS_exit ?_
                refine QS_then_exit ?_
                refine QS_block_here ?_
                exact QS_round (q, acc, A, c) ⟨rfl, rfl, rfl, rfl, trivial⟩ (Pick.refl _) ⟨by simp only; omega, by simp only; omega, he⟩ (by simp only; omega)
              · have hbq := by_lt s q
                refine TS_seq ?_
                refine TS_seq ?_
                refine TS_region ?_
                refine VS_pure (P_move rfl) rfl rfl rfl ?_
                refine VS_pure (P_move rfl) rfl rfl rfl ?_
                refine VS_pure (P_len_str rfl st9) rfl rfl rfl ?_
                refine VS_pure (dt (P_lss rfl rfl) (by first | assumption | rfl | omega | decide)) rfl rfl rfl ?_
                refine VS_pure (P_move rfl) rfl rfl rfl ?_
                refine VS_pure (P_move rfl) rfl rfl rfl ?_
                refine VS_pure (P_move rfl) rfl rfl rfl ?_
                refine VS_pure (P_sindexN rfl rfl st9 (by omega)) rfl rfl rfl ?_
                refine VS_pure (dt (P_neq rfl rfl) (by first | assumption | rfl | omega | decide)) rfl rfl rfl ?_
                refine VS_pure (P_pick_t rfl rfl) rfl rfl rfl ?_
                refine VS_nil ?_
                refine QS_then ?_
                refine TS_true rfl ?_
                refine TS_skip ?_
                refine QS_then ?_
                refine TS_block ?_
                refine TS_seq ?_
                refine TS_region ?_
                refine VS_pure (P_move rfl) rfl rfl rfl ?_
                refine VS_pure (P_move rfl) rfl rfl rfl ?_
                refine VS_step (S_callR cl19 rfl (fun m' hm he => (runeAt_ok hql (by omega))) rfl ?_) rfl
                rintro _ rfl
                cases hr2 : rn s q with
                | none =>
                  rw [remGo_none hql h10 hr2] at hrem
                  rw [← hrem] at hstep
                  rw [goR_err hlt hstep] at he
                  subst he
                  rw [runeR_none hr2]
                  refine VS_pure (P_move rfl) rfl rfl rfl ?_
                  refine VS_pure (P_extract rfl rfl) rfl rfl rfl ?_
                  refine VS_pure (P_extract rfl rfl) rfl rfl rfl ?_
                  refine VS_pure (P_assign rfl) rfl rfl rfl ?_
                  refine VS_pure (P_assign rfl) rfl rfl rfl ?_
                  refine VS_nil ?_
                  refine QS_then ?_
                  refine TS_seq ?_
                  refine TS_seq ?_
                  refine TS_region ?_
                  refine VS_pure (P_move rfl) rfl rfl rfl ?_
                  refine VS_pure (dt (P_eql rfl rfl) (by first | assumption | rfl | omega | decide)) rfl rfl rfl ?_
                  refine VS_nil ?_
                  refine QS_then ?_
                  refine TS_true rfl ?_
                  refine TS_seq ?_
                  refine TS_region ?_
                  refine VS_pure (P_move rfl) rfl rfl rfl ?_
                  refine VS_pure (P_build zl25 pl25 rfl rfl) rfl rfl rfl ?_
                  refine VS_pure (P_assign rfl) rfl rfl rfl ?_
                  refine VS_step (S_storeAgg ag25 rfl rfl rfl (.there (.here)) rfl rfl ?_) rfl
                  refine VS_nil ?_
                  refine QS_then ?_
                  refine TS_ret ?_
                  refine QS_then_ret ?_
                  refine QS_block_ret ?_
                  refine QS_round_ret ?_
                  refine QS_block_ret ?_
                  refine QS_then_ret ?_
                  refine QS_then_ret ?_
                  refine QS_block_ret ?_
                  refine QS_round_ret ?_
                  refine QS_block_ret ?_
                  refine QS_then_ret ?_
                  exact QS_ret [.slice none 0 0, faultV 110 q] ⟨rfl, ⟨b1, _, _, _, rfl, .there .here, .inr ⟨ag25, rfl⟩⟩, trivial⟩ [] (Pick.nil _) ⟨rfl, rfl⟩
                | some r2 =>
                  obtain ⟨x2, k2⟩ := r2
                  have hpos2 := rn_pos hr2
                  rw [remGo_some hql h10 hr2] at hrem
                  rw [runeR_some hr2]
                  refine VS_pure (P_move rfl) rfl rfl rfl ?_
                  refine VS_pure (P_extract rfl rfl) rfl rfl rfl ?_
                  refine VS_pure (P_extract rfl rfl) rfl rfl rfl ?_
                  refine VS_pure (P_assign rfl) rfl rfl rfl ?_
                  refine VS_pure (P_assign rfl) rfl rfl rfl ?_
                  refine VS_nil ?_
                  refine QS_then ?_
                  refine TS_seq ?_
                  refine TS_seq ?_
                  refine TS_region ?_
                  refine VS_pure (P_move rfl) rfl rfl rfl ?_
                  refine VS_pure (df (P_eql rfl rfl) (by first | assumption | omega | decide | exact fun hx => hx (by assumption))) rfl rfl rfl ?_
                  refine VS_nil ?_
                  refine QS_then ?_
                  refine TS_false rfl ?_
                  refine TS_skip ?_
                  refine QS_then ?_
                  refine TS_region ?_
                  refine VS_pure (P_move rfl) rfl rfl rfl ?_
                  refine VS_pure (P_move rfl) rfl rfl rfl ?_
                  refine VS_pure (P_addN rfl rfl (by omega)) rfl rfl rfl ?_
                  refine VS_pure (P_assign rfl) rfl rfl rfl ?_
                  refine VS_nil ?_
                  refine QS_block ?_
                  exact QS_round (q + k2) ⟨rfl, rfl, rfl, rfl, trivial⟩ (Pick.refl _) ⟨by omega, by omega, hrem⟩ (by omega)
            · rw [remGo_end (by omega)] at hrem
              rw [← hrem] at hstep
              obtain ⟨he, _, _⟩ := goR_next hlt hstep he
              rw [List.append_nil] at he
              refine TS_seq ?_
              refine TS_seq ?_
              refine TS_region ?_
              refine VS_pure (P_move rfl) rfl rfl rfl ?_
              refine VS_pure (P_move rfl) rfl rfl rfl ?_
              refine VS_pure (P_len_str rfl st9) rfl rfl rfl ?_
              refine VS_pure (df (P_lss rfl rfl) (by first | assumption | omega | decide | exact fun hx => hx (by assumption))) rfl rfl rfl ?_
              refine VS_pure (P_move rfl) rfl rfl rfl ?_
              refine VS_skip rfl rfl rfl ?_
              refine VS_skip rfl rfl rfl ?_
              refine VS_skip rfl rfl rfl ?_
              refine VS_skip rfl rfl rfl ?_
              refine VS_pure (P_pick_f rfl rfl) rfl rfl rfl ?_
              refine VS_nil ?_
              refine QS_then ?_
              refine TS_false rfl ?_
              refine TS_exit ?_
              refine QS_then_exit ?_
              refine QS_round_exit ?_
              refine QS_block_here ?_
              refine QS_then ?_
              refine TS_exit ?_
              refine QS_then_exit ?_
              refine QS_block_here ?_
              exact QS_round (q, acc, A, c) ⟨rfl, rfl, rfl, rfl, trivial⟩ (Pick.refl _) ⟨by simp only; omega, by simp only; omega, he⟩ (by simp only; omega)
          · rw [if_neg h35] at hstep
            refine VS_pure (P_move rfl) rfl rfl rfl ?_
            refine VS_pure (P_extract rfl rfl) rfl rfl rfl ?_
            refine VS_pure (P_extract rfl rfl) rfl rfl rfl ?_
            refine VS_pure (P_assign rfl) rfl rfl rfl ?_
            refine VS_pure (P_assign rfl) rfl rfl rfl ?_
            refine VS_nil ?_
            refine QS_then ?_
            refine TS_seq ?_
            refine TS_seq ?_
            refine TS_region ?_
            refine VS_pure (P_move rfl) rfl rfl rfl ?_
            refine VS_pure (df (P_eql rfl rfl) (by first | assumption | omega | decide | exact fun hx => hx (by assumption))) rfl rfl rfl ?_
            refine VS_nil ?_
            refine QS_then ?_
            refine TS_false rfl ?_
            refine TS_skip ?_
            refine QS_then ?_
            refine TS_seq ?_
            refine TS_seq ?_
            refine TS_region ?_
            refine VS_pure (P_move rfl) rfl rfl rfl ?_
            refine VS_pure (df (P_eql rfl rfl) (by first | assumption | omega | decide | exact fun hx => hx (by assumption))) rfl rfl rfl ?_
            refine VS_pure (P_move rfl) rfl rfl rfl ?_
            refine VS_pure (P_move rfl) rfl rfl rfl ?_
            refine VS_pure (df (P_eql rfl rfl) (by first | assumption | omega | decide | exact fun hx => hx (by assumption))) rfl rfl rfl ?_
            refine VS_pure (P_pick_f rfl rfl) rfl rfl rfl ?_
            refine VS_pure (P_move rfl) rfl rfl rfl ?_
            refine VS_pure (P_move rfl) rfl rfl rfl ?_
            refine VS_pure (df (P_eql rfl rfl) (by first | assumption | omega | decide | exact fun hx => hx (by assumption))) rfl rfl rfl ?_
            refine VS_pure (P_pick_f rfl rfl) rfl rfl rfl ?_
            refine VS_pure (P_move rfl) rfl rfl rfl ?_
            refine VS_pure (P_move rfl) rfl rfl rfl ?_
            refine VS_pure (df (P_eql rfl rfl) (by first | assumption | omega | decide | exact fun hx => hx (by assumption))) rfl rfl rfl ?_
            refine VS_pure (P_pick_f rfl rfl) rfl rfl rfl ?_
            refine VS_nil ?_
            refine QS_then ?_
            refine TS_false rfl ?_
            refine TS_skip ?_
            refine QS_then ?_
            refine TS_seq ?_
            refine TS_seq ?_
            refine TS_region ?_
            refine VS_pure (P_move rfl) rfl rfl rfl ?_
            refine VS_pure (df (P_eql rfl rfl) (by first | assumption | omega | decide | exact fun hx => hx (by assumption))) rfl rfl rfl ?_
            refine VS_nil ?_
            refine QS_then ?_
            refine TS_false rfl ?_
            refine TS_skip ?_
            refine QS_then ?_
            refine TS_seq ?_
            refine TS_seq ?_
            refine TS_region ?_
            refine VS_pure (P_move rfl) rfl rfl rfl ?_
            refine VS_step (S_callR cl20 rfl (fun m' hm he => (letterR_ok x)) rfl ?_) rfl
            rintro _ rfl
            cases hl : letterP x with
            | true =>
              rw [if_pos hl] at hstep
              have hnl := (nameGo_tiles s p 0).len hp
              have hnle := (nameGo_tiles s p 0).le
              refine VS_nil ?_
              refine QS_then ?_
              refine TS_true rfl ?_
              refine TS_seq ?_
              refine TS_region ?_
              refine VS_pure (P_move rfl) rfl rfl rfl ?_
              refine VS_pure (P_move rfl) rfl rfl rfl ?_
              refine VS_step (S_callR cl21 rfl (fun m' hm he => (name_ok (p := p) hp (by omega))) rfl ?_) rfl
              rintro _ rfl
              generalize nameGo s p 0 = r at *
              obtain ⟨q, k2⟩ := r
              simp only [stepN] at hstep hnl hnle
              by_cases hbad : 24 < k2 ∨ 40 < q - p
              · rw [if_pos hbad] at hstep
                rw [goR_err hlt hstep] at he
                subst he
                refine VS_pure (P_move rfl) rfl rfl rfl ?_
                refine VS_pure (P_extract rfl rfl) rfl rfl rfl ?_
                refine VS_pure (P_extract rfl rfl) rfl rfl rfl ?_
                refine VS_pure (P_assign rfl) rfl rfl rfl ?_
                refine VS_pure (P_assign rfl) rfl rfl rfl ?_
                refine VS_nil ?_
                refine QS_then ?_
                refine TS_seq ?_
                refine TS_seq ?_
                refine TS_region ?_
                refine VS_pure (P_move rfl) rfl rfl rfl ?_
                refine VS_if (P_gtr rfl rfl) rfl rfl rfl (fun hc1 => ?_) (fun hc1 => ?_)
                refine VS_pure (P_move rfl) rfl rfl rfl ?_
                refine VS_skip rfl rfl rfl ?_
                refine VS_skip rfl rfl rfl ?_
                refine VS_skip rfl rfl rfl ?_
                refine VS_skip rfl rfl rfl ?_
                refine VS_pure (P_pick_t rfl rfl) rfl rfl rfl ?_
                refine VS_nil ?_
                refine QS_then ?_
                refine TS_true rfl ?_
                refine TS_seq ?_
                refine TS_region ?_
                refine VS_pure (P_move rfl) rfl rfl rfl ?_
                refine VS_pure (P_build zl25 pl25 rfl rfl) rfl rfl rfl ?_
                refine VS_pure (P_assign rfl) rfl rfl rfl ?_
                refine VS_step (S_storeAgg ag25 rfl rfl rfl (.there (.here)) rfl rfl ?_) rfl
                refine VS_nil ?_
                refine QS_then ?_
                refine TS_ret ?_
                refine QS_then_ret ?_
                refine QS_then_ret ?_
                refine QS_block_ret ?_
                refine QS_round_ret ?_
                refine QS_block_ret ?_
                refine QS_then_ret ?_
                (exact QS_ret [.slice none 0 0, faultV 3 p] ⟨rfl, ⟨b1, _, _, _, rfl, .there .here, .inr ⟨ag25, rfl⟩⟩, trivial⟩ [] (Pick.nil _) ⟨rfl, rfl⟩)
                refine VS_pure (P_move rfl) rfl rfl rfl ?_
                refine VS_pure (P_move rfl) rfl rfl rfl ?_
                refine VS_pure (P_move rfl) rfl rfl rfl ?_
                refine VS_pure (P_subN rfl rfl (by omega) (by omega)) rfl rfl rfl ?_
                refine VS_pure (dt (P_gtr rfl rfl) (by first | assumption | rfl | omega | decide)) rfl rfl rfl ?_
                refine VS_pure (P_pick_f rfl rfl) rfl rfl rfl ?_
                refine VS_nil ?_
                refine QS_then ?_
                refine TS_true rfl ?_
                refine TS_seq ?_
                refine TS_region ?_
                refine VS_pure (P_move rfl) rfl rfl rfl ?_
                refine VS_pure (P_build zl25 pl25 rfl rfl) rfl rfl rfl ?_
                refine VS_pure (P_assign rfl) rfl rfl rfl ?_
                refine VS_step (S_storeAgg ag25 rfl rfl rfl (.there (.here)) rfl rfl ?_) rfl
                refine VS_nil ?_
                refine QS_then ?_
                refine TS_ret ?_
                refine QS_then_ret ?_
                refine QS_then_ret ?_
                refine QS_block_ret ?_
                refine QS_round_ret ?_
                refine QS_block_ret ?_
                refine QS_then_ret ?_
                (exact QS_ret [.slice none 0 0, faultV 3 p] ⟨rfl, ⟨b1, _, _, _, rfl, .there .here, .inr ⟨ag25, rfl⟩⟩, trivial⟩ [] (Pick.nil _) ⟨rfl, rfl⟩)
              · rw [if_neg hbad] at hstep
                obtain ⟨he, _, _⟩ := goR_next hlt hstep he
                refine VS_pure (P_move rfl) rfl rfl rfl ?_
                refine VS_pure (P_extract rfl rfl) rfl rfl rfl ?_
                refine VS_pure (P_extract rfl rfl) rfl rfl rfl ?_
                refine VS_pure (P_assign rfl) rfl rfl rfl ?_
                refine VS_pure (P_assign rfl) rfl rfl rfl ?_
                refine VS_nil ?_
                refine QS_then ?_
                refine TS_seq ?_
                refine TS_seq ?_
                refine TS_region ?_
                refine VS_pure (P_move rfl) rfl rfl rfl ?_
                refine VS_pure (df (P_gtr rfl rfl) (by first | assumption | omega | decide | exact fun hx => hx (by assumption))) rfl rfl rfl ?_
                refine VS_pure (P_move rfl) rfl rfl rfl ?_
                refine VS_pure (P_move rfl) rfl rfl rfl ?_
                refine VS_pure (P_move rfl) rfl rfl rfl ?_
                refine VS_pure (P_subN rfl rfl (by omega) (by omega)) rfl rfl rfl ?_
                refine VS_pure (df (P_gtr rfl rfl) (by first | assumption | omega | decide | exact fun hx => hx (by assumption))) rfl rfl rfl ?_
                refine VS_pure (P_pick_f rfl rfl) rfl rfl rfl ?_
                refine VS_nil ?_
                refine QS_then ?_
                refine TS_false rfl ?_
                refine TS_skip ?_
                refine QS_then ?_
                refine TS_seq ?_
                refine TS_region ?_
                refine VS_pure (P_move rfl) rfl rfl rfl ?_
                refine VS_pure (P_move rfl) rfl rfl rfl ?_
                refine VS_pure (P_move rfl) rfl rfl rfl ?_
                refine VS_pure (P_move rfl) rfl rfl rfl ?_
                refine VS_pure (P_sslice_lh _ _ st9 rfl rfl rfl rfl rfl (by omega) (by omega)) rfl rfl rfl ?_
                refine VS_pure (P_move rfl) rfl rfl rfl ?_
                refine VS_pure (P_build zl30 pl30 rfl rfl) rfl rfl rfl ?_
                refine VS_step (S_buildSlice sl22 rfl rfl rfl rfl (fun b2 => ?_)) rfl
                refine VS_step (S_append sl22 rfl rfl rfl rfl (.here) (fun _ _ => (.there (.here))) rfl rfl (by first | omega | (simp only [maxLen]; omega)) (by omega) rfl (fun A1 c1 => ?_)) rfl
                refine VS_pure (P_assign rfl) rfl rfl rfl ?_
                refine VS_nil ?_
                refine QS_then ?_
                refine TS_seq ?_
                refine TS_region ?_
                refine VS_pure (P_move rfl) rfl rfl rfl ?_
                refine VS_pure (P_assign rfl) rfl rfl rfl ?_
                refine VS_nil ?_
                refine QS_then ?_
                refine TS_exit ?_
                refine QS_then_exit ?_
                refine QS_block_here ?_
                exact QS_round (q, acc ++ [⟨1, seg s p q, 0, p⟩], A1, c1) ⟨rfl, rfl, by simp only [len_snoc]; rfl, rfl, trivial⟩ (by simp only [own_snoc]; exact Pick.drop) ⟨by simp only; omega, by simp only [len_snoc]; omega, he⟩ (by simp only; omega)
            | false =>
              rw [hl, if_neg (by simp)] at hstep
              refine VS_nil ?_
              refine QS_then ?_
              refine TS_false rfl ?_
              refine TS_skip ?_
              refine QS_then ?_
              refine TS_seq ?_
              refine TS_seq ?_
              refine TS_region ?_
              refine VS_pure (P_move rfl) rfl rfl rfl ?_
              refine VS_step (S_callR cl22 rfl (fun m' hm he => (digitR_ok x)) rfl ?_) rfl
              rintro _ rfl
              cases hd : digitP x with
              | true =>
                rw [if_pos hd] at hstep
                have hx8 := digit_lt hd
                have hk1 : k = 1 := by omega
                subst hk1
                have hxb : x = by_ s p := by omega
                refine VS_nil ?_
                refine QS_then ?_
                refine TS_true rfl ?_
                refine TS_seq ?_
                refine TS_region ?_
                refine VS_pure (P_move rfl) rfl rfl rfl ?_
                refine VS_pure (P_assign rfl) rfl rfl rfl ?_
                refine VS_nil ?_
                refine QS_then ?_
                refine TS_seq ?_
                refine TS_region ?_
                refine VS_pure (P_assign rfl) rfl rfl rfl ?_
                refine VS_nil ?_
                refine QS_then ?_
                refine TS_seq ?_
                refine TS_block ?_
                refine TS_loop (fun y : Nat × Nat => [(0, .string (bs s)), (3, .pointer (some ⟨b1, 0, none⟩)), (4, .slice A acc.length c), (5, .int .i64 (p : Nat)), (12, .int .i64 (y.1 : Nat)), (13, .int .i64 (y.2 : Nat))])
                  (fun _ => [own 30 4 A acc.length c (wsV acc), cel b1 [.int .i64 0, .int .i64 0] 25]) (fun y => p ≤ y.1 ∧ y.1 ≤ s.length ∧ y.2 ≤ 1000 ∧ digGo s y.1 y.2 = digGo s p 0) (fun y => s.length - y.1) (p, 0)
                  ⟨rfl, rfl, rfl, rfl, rfl, rfl, trivial⟩ (Pick.refl _) ⟨Nat.le_refl _, hp, Nat.zero_le _, rfl⟩ ?_
                rintro ⟨q, n⟩ ⟨hpq, hq, hn, hdg⟩
                simp only at hpq hq hn hdg ⊢
                have hbq := by_lt s q
                have hbp := by_lt s p
                have fin : ¬ (q < s.length ∧ digitP (by_ s q) = true) → digGo s p 0 = (q, n) := fun h => by rw [← hdg, digGo, if_neg h]
                by_cases hql : q < s.length
                · cases hdq2 : digitP (by_ s q) with
                  | true =>
                    have hb2 : 48 ≤ by_ s q ∧ by_ s q ≤ 57 := of_decide_eq_true hdq2
                    rw [digGo, if_pos ⟨hql, hdq2⟩] at hdg
                    have hmin : ((min (n * 10 + (by_ s q - 48)) 1000 : Nat) : Int) = min ((n : Int) * 10 + ((by_ s q - 48 : Nat) : Int)) 1000 := by omega
                    refine TS_seq ?_
                    refine TS_seq ?_
                    refine TS_region ?_
                    refine VS_pure (P_move rfl) rfl rfl rfl ?_
                    refine VS_pure (P_move rfl) rfl rfl rfl ?_
                    refine VS_pure (P_len_str rfl st9) rfl rfl rfl ?_
                    refine VS_pure (dt (P_lss rfl rfl) (by first | assumption | rfl | omega | decide)) rfl rfl rfl ?_
                    refine VS_pure (P_move rfl) rfl rfl rfl ?_
                    refine VS_pure (P_move rfl) rfl rfl rfl ?_
                    refine VS_pure (P_move rfl) rfl rfl rfl ?_
                    refine VS_pure (P_sindexN rfl rfl st9 (by omega)) rfl rfl rfl ?_
                    refine VS_pure (P_convN us5 ik3 rfl (w64 (by omega) (by omega))) rfl rfl rfl ?_
                    refine VS_step (S_callR cl22 rfl (fun m' hm he => (digitR_ok (by_ s q))) rfl ?_) rfl
                    rintro _ rfl
                    rw [hdq2]
                    refine VS_pure (P_pick_t rfl rfl) rfl rfl rfl ?_
                    refine VS_nil ?_
                    refine QS_then ?_
                    refine TS_true rfl ?_
                    refine TS_skip ?_
                    refine QS_then ?_
                    refine TS_block ?_
                    refine TS_seq ?_
                    refine TS_region ?_
                    refine VS_pure (P_move rfl) rfl rfl rfl ?_
                    refine VS_pure (P_mul rfl rfl (w64 (by omega) (by omega))) rfl rfl rfl ?_
                    refine VS_pure (P_move rfl) rfl rfl rfl ?_
                    refine VS_pure (P_move rfl) rfl rfl rfl ?_
                    refine VS_pure (P_sindexN rfl rfl st9 (by omega)) rfl rfl rfl ?_
                    refine VS_pure ((P_sub rfl rfl (show IntKind.u8.wrap ((by_ s q : Nat) - 48) = ((by_ s q - 48 : Nat) : Int) by rw [wu8 (by omega) (by omega)]; omega))) rfl rfl rfl ?_
                    refine VS_pure (P_convN us5 ik3 rfl (w64 (by omega) (by omega))) rfl rfl rfl ?_
                    refine VS_pure (P_add rfl rfl (w64 (by omega) (by omega))) rfl rfl rfl ?_
                    refine VS_pure (P_min2N rfl rfl) rfl rfl rfl ?_
                    refine VS_pure (P_assign rfl) rfl rfl rfl ?_
                    refine VS_nil ?_
                    refine QS_then ?_
                    refine TS_region ?_
                    refine VS_pure (P_move rfl) rfl rfl rfl ?_
                    refine VS_pure (P_add rfl rfl (w64 (by omega) (by omega))) rfl rfl rfl ?_
                    refine VS_pure (P_assign rfl) rfl rfl rfl ?_
                    refine VS_nil ?_
                    refine QS_block ?_
                    exact QS_round (q + 1, min (n * 10 + (by_ s q - 48)) 1000) ⟨rfl, rfl, rfl, rfl, rfl, by rw [hmin]; rfl, trivial⟩ (Pick.refl _) ⟨by simp only; omega, by simp only; omega, by simp only; omega, hdg⟩ (by simp only; omega)
                  | false =>
                    have hf := fin (by rw [hdq2]; simp)
                    rw [hf] at hstep
                    simp only [stepD] at hstep
                    by_cases hz : by_ s p = 48 ∧ p + 1 < q
                    · rw [if_pos hz] at hstep
                      rw [goR_err hlt hstep] at he
                      subst he
                      refine TS_seq ?_
                      refine TS_seq ?_
                      refine TS_region ?_
                      refine VS_pure (P_move rfl) rfl rfl rfl ?_
                      refine VS_pure (P_move rfl) rfl rfl rfl ?_
                      refine VS_pure (P_len_str rfl st9) rfl rfl rfl ?_
                      refine VS_pure (dt (P_lss rfl rfl) (by first | assumption | rfl | omega | decide)) rfl rfl rfl ?_
                      refine VS_pure (P_move rfl) rfl rfl rfl ?_
                      refine VS_pure (P_move rfl) rfl rfl rfl ?_
                      refine VS_pure (P_move rfl) rfl rfl rfl ?_
                      refine VS_pure (P_sindexN rfl rfl st9 (by omega)) rfl rfl rfl ?_
                      refine VS_pure (P_convN us5 ik3 rfl (w64 (by omega) (by omega))) rfl rfl rfl ?_
                      refine VS_step (S_callR cl22 rfl (fun m' hm he => (digitR_ok (by_ s q))) rfl ?_) rfl
                      rintro _ rfl
                      rw [hdq2]
                      refine VS_pure (P_pick_t rfl rfl) rfl rfl rfl ?_
                      refine VS_nil ?_
                      refine QS_then ?_
                      refine TS_false rfl ?_
                      refine TS_exit ?_
                      refine QS_then_exit ?_
                      refine QS_round_exit ?_
                      refine QS_block_here ?_
                      refine QS_then ?_
                      refine TS_seq ?_
                      refine TS_seq ?_
                      refine TS_region ?_
                      refine VS_pure (P_move rfl) rfl rfl rfl ?_
                      refine VS_pure (P_move rfl) rfl rfl rfl ?_
                      refine VS_pure (P_sindexN rfl rfl st9 (by omega)) rfl rfl rfl ?_
                      refine VS_pure (dt (P_eql rfl rfl) (by first | assumption | rfl | omega | decide)) rfl rfl rfl ?_
                      refine VS_pure (P_move rfl) rfl rfl rfl ?_
                      refine VS_pure (P_move rfl) rfl rfl rfl ?_
                      refine VS_pure (P_move rfl) rfl rfl rfl ?_
                      refine VS_pure (P_add rfl rfl (w64 (by omega) (by omega))) rfl rfl rfl ?_
                      refine VS_pure (dt (P_gtr rfl rfl) (by first | assumption | rfl | omega | decide)) rfl rfl rfl ?_
                      refine VS_pure (P_pick_t rfl rfl) rfl rfl rfl ?_
                      refine VS_nil ?_
                      refine QS_then ?_
                      refine TS_true rfl ?_
                      refine TS_seq ?_
                      refine TS_region ?_
                      refine VS_pure (P_move rfl) rfl rfl rfl ?_
                      refine VS_pure (P_build zl25 pl25 rfl rfl) rfl rfl rfl ?_
                      refine VS_pure (P_assign rfl) rfl rfl rfl ?_
                      refine VS_step (S_storeAgg ag25 rfl rfl rfl (.there (.here)) rfl rfl ?_) rfl
                      refine VS_nil ?_
                      refine QS_then ?_
                      refine TS_ret ?_
                      refine QS_then_ret ?_
                      refine QS_then_ret ?_
                      refine QS_block_ret ?_
                      refine QS_round_ret ?_
                      refine QS_block_ret ?_
                      refine QS_then_ret ?_
                      exact QS_ret [.slice none 0 0, faultV 110 p] ⟨rfl, ⟨b1, _, _, _, rfl, .there .here, .inr ⟨ag25, rfl⟩⟩, trivial⟩ [] (Pick.nil _) ⟨rfl, rfl⟩
                    · rw [if_neg hz] at hstep
                      by_cases h9 : 999 < n
                      · rw [if_pos h9] at hstep
                        rw [goR_err hlt hstep] at he
                        subst he
                        refine TS_seq ?_
                        refine TS_seq ?_
                        refine TS_region ?_
                        refine VS_pure (P_move rfl) rfl rfl rfl ?_
                        refine VS_pure (P_move rfl) rfl rfl rfl ?_
                        refine VS_pure (P_len_str rfl st9) rfl rfl rfl ?_
                        refine VS_pure (dt (P_lss rfl rfl) (by first | assumption | rfl | omega | decide)) rfl rfl rfl ?_
                        refine VS_pure (P_move rfl) rfl rfl rfl ?_
                        refine VS_pure (P_move rfl) rfl rfl rfl ?_
                        refine VS_pure (P_move rfl) rfl rfl rfl ?_
                        refine VS_pure (P_sindexN rfl rfl st9 (by omega)) rfl rfl rfl ?_
                        refine VS_pure (P_convN us5 ik3 rfl (w64 (by omega) (by omega))) rfl rfl rfl ?_
                        refine VS_step (S_callR cl22 rfl (fun m' hm he => (digitR_ok (by_ s q))) rfl ?_) rfl
                        rintro _ rfl
                        rw [hdq2]
                        refine VS_pure (P_pick_t rfl rfl) rfl rfl rfl ?_
                        refine VS_nil ?_
                        refine QS_then ?_
                        refine TS_false rfl ?_
                        refine TS_exit ?_
                        refine QS_then_exit ?_
                        refine QS_round_exit ?_
                        refine QS_block_here ?_
                        refine QS_then ?_
                        refine TS_seq ?_
                        refine TS_seq ?_
                        refine TS_region ?_
                        refine VS_pure (P_move rfl) rfl rfl rfl ?_
                        refine VS_pure (P_move rfl) rfl rfl rfl ?_
                        refine VS_pure (P_sindexN rfl rfl st9 (by omega)) rfl rfl rfl ?_
                        refine VS_if (P_eql rfl rfl) rfl rfl rfl (fun hc1 => ?_) (fun hc1 => ?_)
                        refine VS_pure (P_move rfl) rfl rfl rfl ?_
                        refine VS_pure (P_move rfl) rfl rfl rfl ?_
                        refine VS_pure (P_move rfl) rfl rfl rfl ?_
                        refine VS_pure (P_add rfl rfl (w64 (by omega) (by omega))) rfl rfl rfl ?_
                        refine VS_pure (df (P_gtr rfl rfl) (by first | assumption | omega | decide | exact fun hx => hx (by assumption))) rfl rfl rfl ?_
                        refine VS_pure (P_pick_t rfl rfl) rfl rfl rfl ?_
                        refine VS_nil ?_
                        refine QS_then ?_
                        refine TS_false rfl ?_
                        refine TS_skip ?_
                        refine QS_then ?_
                        refine TS_seq ?_
                        refine TS_seq ?_
                        refine TS_region ?_
                        refine VS_pure (P_move rfl) rfl rfl rfl ?_
                        refine VS_pure (dt (P_gtr rfl rfl) (by first | assumption | rfl | omega | decide)) rfl rfl rfl ?_
                        refine VS_nil ?_
                        refine QS_then ?_
                        refine TS_true rfl ?_
                        refine TS_seq ?_
                        refine TS_region ?_
                        refine VS_pure (P_move rfl) rfl rfl rfl ?_
                        refine VS_pure (P_build zl25 pl25 rfl rfl) rfl rfl rfl ?_
                        refine VS_pure (P_assign rfl) rfl rfl rfl ?_
                        refine VS_step (S_storeAgg ag25 rfl rfl rfl (.there (.here)) rfl rfl ?_) rfl
                        refine VS_nil ?_
                        refine QS_then ?_
                        refine TS_ret ?_
                        refine QS_then_ret ?_
                        refine QS_then_ret ?_
                        refine QS_block_ret ?_
                        refine QS_round_ret ?_
                        refine QS_block_ret ?_
                        refine QS_then_ret ?_
                        (exact QS_ret [.slice none 0 0, faultV 3 p] ⟨rfl, ⟨b1, _, _, _, rfl, .there .here, .inr ⟨ag25, rfl⟩⟩, trivial⟩ [] (Pick.nil _) ⟨rfl, rfl⟩)
                        refine VS_pure (P_move rfl) rfl rfl rfl ?_
                        refine VS_skip rfl rfl rfl ?_
                        refine VS_skip rfl rfl rfl ?_
                        refine VS_skip rfl rfl rfl ?_
                        refine VS_skip rfl rfl rfl ?_
                        refine VS_pure (P_pick_f rfl rfl) rfl rfl rfl ?_
                        refine VS_nil ?_
                        refine QS_then ?_
                        refine TS_false rfl ?_
                        refine TS_skip ?_
                        refine QS_then ?_
                        refine TS_seq ?_
                        refine TS_seq ?_
                        refine TS_region ?_
                        refine VS_pure (P_move rfl) rfl rfl rfl ?_
                        refine VS_pure (dt (P_gtr rfl rfl) (by first | assumption | rfl | omega | decide)) rfl rfl rfl ?_
                        refine VS_nil ?_
                        refine QS_then ?_
                        refine TS_true rfl ?_
                        refine TS_seq ?_
                        refine TS_region ?_
                        refine VS_pure (P_move rfl) rfl rfl rfl ?_
                        refine VS_pure (P_build zl25 pl25 rfl rfl) rfl rfl rfl ?_
                        refine VS_pure (P_assign rfl) rfl rfl rfl ?_
                        refine VS_step (S_storeAgg ag25 rfl rfl rfl (.there (.here)) rfl rfl ?_) rfl
                        refine VS_nil ?_
                        refine QS_then ?_
                        refine TS_ret ?_
                        refine QS_then_ret ?_
                        refine QS_then_ret ?_
                        refine QS_block_ret ?_
                        refine QS_round_ret ?_
                        refine QS_block_ret ?_
                        refine QS_then_ret ?_
                        (exact QS_ret [.slice none 0 0, faultV 3 p] ⟨rfl, ⟨b1, _, _, _, rfl, .there .here, .inr ⟨ag25, rfl⟩⟩, trivial⟩ [] (Pick.nil _) ⟨rfl, rfl⟩)
                      · rw [if_neg h9] at hstep
                        obtain ⟨he, _, _⟩ := goR_next hlt hstep he
                        refine TS_seq ?_
                        refine TS_seq ?_
                        refine TS_region ?_
                        refine VS_pure (P_move rfl) rfl rfl rfl ?_
                        refine VS_pure (P_move rfl) rfl rfl rfl ?_
                        refine VS_pure (P_len_str rfl st9) rfl rfl rfl ?_
                        refine VS_pure (dt (P_lss rfl rfl) (by first | assumption | rfl | omega | decide)) rfl rfl rfl ?_
                        refine VS_pure (P_move rfl) rfl rfl rfl ?_
                        refine VS_pure (P_move rfl) rfl rfl rfl ?_
                        refine VS_pure (P_move rfl) rfl rfl rfl ?_
                        refine VS_pure (P_sindexN rfl rfl st9 (by omega)) rfl rfl rfl ?_
                        refine VS_pure (P_convN us5 ik3 rfl (w64 (by omega) (by omega))) rfl rfl rfl ?_
                        refine VS_step (S_callR cl22 rfl (fun m' hm he => (digitR_ok (by_ s q))) rfl ?_) rfl
                        rintro _ rfl
                        rw [hdq2]
                        refine VS_pure (P_pick_t rfl rfl) rfl rfl rfl ?_
                        refine VS_nil ?_
                        refine QS_then ?_
                        refine TS_false rfl ?_
                        refine TS_exit ?_
                        refine QS_then_exit ?_
                        refine QS_round_exit ?_
                        refine QS_block_here ?_
                        refine QS_then ?_
                        refine TS_seq ?_
                        refine TS_seq ?_
                        refine TS_region ?_
                        refine VS_pure (P_move rfl) rfl rfl rfl ?_
                        refine VS_pure (P_move rfl) rfl rfl rfl ?_
                        refine VS_pure (P_sindexN rfl rfl st9 (by omega)) rfl rfl rfl ?_
                        refine VS_if (P_eql rfl rfl) rfl rfl rfl (fun hc1 => ?_) (fun hc1 => ?_)
                        refine VS_pure (P_move rfl) rfl rfl rfl ?_
                        refine VS_pure (P_move rfl) rfl rfl rfl ?_
                        refine VS_pure (P_move rfl) rfl rfl rfl ?_
                        refine VS_pure (P_add rfl rfl (w64 (by omega) (by omega))) rfl rfl rfl ?_
                        refine VS_pure (df (P_gtr rfl rfl) (by first | assumption | omega | decide | exact fun hx => hx (by assumption))) rfl rfl rfl ?_
                        refine VS_pure (P_pick_t rfl rfl) rfl rfl rfl ?_
                        refine VS_nil ?_
                        refine QS_then ?_
                        refine TS_false rfl ?_
                        refine TS_skip ?_
                        refine QS_then ?_
                        refine TS_seq ?_
                        refine TS_seq ?_
                        refine TS_region ?_
                        refine VS_pure (P_move rfl) rfl rfl rfl ?_
                        refine VS_pure (df (P_gtr rfl rfl) (by first | assumption | omega | decide | exact fun hx => hx (by assumption))) rfl rfl rfl ?_
                        refine VS_nil ?_
                        refine QS_then ?_
                        refine TS_false rfl ?_
                        refine TS_skip ?_
                        refine QS_then ?_
                        refine TS_seq ?_
                        refine TS_region ?_
                        refine VS_pure (P_move rfl) rfl rfl rfl ?_
                        refine VS_pure (P_move rfl) rfl rfl rfl ?_
                        refine VS_pure (P_move rfl) rfl rfl rfl ?_
                        refine VS_pure (P_build zl30 pl30 rfl rfl) rfl rfl rfl ?_
                        refine VS_step (S_buildSlice sl22 rfl rfl rfl rfl (fun b2 => ?_)) rfl
                        refine VS_step (S_append sl22 rfl rfl rfl rfl (.here) (fun _ _ => (.there (.here))) rfl rfl (by first | omega | (simp only [maxLen]; omega)) (by omega) rfl (fun A1 c1 => ?_)) rfl
                        refine VS_pure (P_assign rfl) rfl rfl rfl ?_
                        refine VS_nil ?_
                        refine QS_then ?_
                        refine TS_seq ?_
                        refine TS_region ?_
                        refine VS_pure (P_move rfl) rfl rfl rfl ?_
                        refine VS_pure (P_assign rfl) rfl rfl rfl ?_
                        refine VS_nil ?_
                        refine QS_then ?_
                        refine TS_exit ?_
                        refine QS_then_exit ?_
                        refine QS_block_here ?_
                        (exact QS_round (q, acc ++ [⟨2, [], n, p⟩], A1, c1) ⟨rfl, rfl, by simp only [len_snoc]; rfl, rfl, trivial⟩ (by simp only [own_snoc]; exact Pick.drop) ⟨by simp only; omega, by simp only [len_snoc]; omega, he⟩ (by simp only; omega))
                        refine VS_pure (P_move rfl) rfl rfl rfl ?_
                        refine VS_skip rfl rfl rfl ?_
                        refine VS_skip rfl rfl rfl ?_
                        refine VS_skip rfl rfl rfl ?_
                        refine VS_skip rfl rfl rfl ?_
                        refine VS_pure (P_pick_f rfl rfl) rfl rfl rfl ?_
                        refine VS_nil ?_
                        refine QS_then ?_
                        refine TS_false rfl ?_
                        refine TS_skip ?_
                        refine QS_then ?_
                        refine TS_seq ?_
                        refine TS_seq ?_
                        refine TS_region ?_
                        refine VS_pure (P_move rfl) rfl rfl rfl ?_
                        refine VS_pure (df (P_gtr rfl rfl) (by first | assumption | omega | decide | exact fun hx => hx (by assumption))) rfl rfl rfl ?_
                        refine VS_nil ?_
                        refine QS_then ?_
                        refine TS_false rfl ?_
                        refine TS_skip ?_
                        refine QS_then ?_
                        refine TS_seq ?_
                        refine TS_region ?_
                        refine VS_pure (P_move rfl) rfl rfl rfl ?_
                        refine VS_pure (P_move rfl) rfl rfl rfl ?_
                        refine VS_pure (P_move rfl) rfl rfl rfl ?_
                        refine VS_pure (P_build zl30 pl30 rfl rfl) rfl rfl rfl ?_
                        refine VS_step (S_buildSlice sl22 rfl rfl rfl rfl (fun b2 => ?_)) rfl
                        refine VS_step (S_append sl22 rfl rfl rfl rfl (.here) (fun _ _ => (.there (.here))) rfl rfl (by first | omega | (simp only [maxLen]; omega)) (by omega) rfl (fun A1 c1 => ?_)) rfl
                        refine VS_pure (P_assign rfl) rfl rfl rfl ?_
                        refine VS_nil ?_
                        refine QS_then ?_
                        refine TS_seq ?_
                        refine TS_region ?_
                        refine VS_pure (P_move rfl) rfl rfl rfl ?_
                        refine VS_pure (P_assign rfl) rfl rfl rfl ?_
                        refine VS_nil ?_
                        refine QS_then ?_
                        refine TS_exit ?_
                        refine QS_then_exit ?_
                        refine QS_block_here ?_
                        (exact QS_round (q, acc ++ [⟨2, [], n, p⟩], A1, c1) ⟨rfl, rfl, by simp only [len_snoc]; rfl, rfl, trivial⟩ (by simp only [own_snoc]; exact Pick.drop) ⟨by simp only; omega, by simp only [len_snoc]; omega, he⟩ (by simp only; omega))
                · have hf := fin (by omega)
                  rw [hf] at hstep
                  simp only [stepD] at hstep
                  by_cases hz : by_ s p = 48 ∧ p + 1 < q
                  · rw [if_pos hz] at hstep
                    rw [goR_err hlt hstep] at he
                    subst he
                    refine TS_seq ?_
                    refine TS_seq ?_
                    refine TS_region ?_
                    refine VS_pure (P_move rfl) rfl rfl rfl ?_
                    refine VS_pure (P_move rfl) rfl rfl rfl ?_
                    refine VS_pure (P_len_str rfl st9) rfl rfl rfl ?_
                    refine VS_pure (df (P_lss rfl rfl) (by first | assumption | omega | decide | exact fun hx => hx (by assumption))) rfl rfl rfl ?_
                    refine VS_pure (P_move rfl) rfl rfl rfl ?_
                    refine VS_skip rfl rfl rfl ?_
                    refine VS_skip rfl rfl rfl ?_
                    refine VS_skip rfl rfl rfl ?_
                    refine VS_skip rfl rfl rfl ?_
                    refine VS_skip rfl rfl rfl ?_
                    refine VS_pure (P_pick_f rfl rfl) rfl rfl rfl ?_
                    refine VS_nil ?_
                    refine QS_then ?_
                    refine TS_false rfl ?_
                    refine TS_exit ?_
                    refine QS_then_exit ?_
                    refine QS_round_exit ?_
                    refine QS_block_here ?_
                    refine QS_then ?_
                    refine TS_seq ?_
                    refine TS_seq ?_
                    refine TS_region ?_
                    refine VS_pure (P_move rfl) rfl rfl rfl ?_
                    refine VS_pure (P_move rfl) rfl rfl rfl ?_
                    refine VS_pure (P_sindexN rfl rfl st9 (by omega)) rfl rfl rfl ?_
                    refine VS_pure (dt (P_eql rfl rfl) (by first | assumption | rfl | omega | decide)) rfl rfl rfl ?_
                    refine VS_pure (P_move rfl) rfl rfl rfl ?_
                    refine VS_pure (P_move rfl) rfl rfl rfl ?_
                    refine VS_pure (P_move rfl) rfl rfl rfl ?_
                    refine VS_pure (P_add rfl rfl (w64 (by omega) (by omega))) rfl rfl rfl ?_
                    refine VS_pure (dt (P_gtr rfl rfl) (by first | assumption | rfl | omega | decide)) rfl rfl rfl ?_
                    refine VS_pure (P_pick_t rfl rfl) rfl rfl rfl ?_
                    refine VS_nil ?_
                    refine QS_then ?_
                    refine TS_true rfl ?_
                    refine TS_seq ?_
                    refine TS_region ?_
                    refine VS_pure (P_move rfl) rfl rfl rfl ?_
                    refine VS_pure (P_build zl25 pl25 rfl rfl) rfl rfl rfl ?_
                    refine VS_pure (P_assign rfl) rfl rfl rfl ?_
                    refine VS_step (S_storeAgg ag25 rfl rfl rfl (.there (.here)) rfl rfl ?_) rfl
                    refine VS_nil ?_
                    refine QS_then ?_
                    refine TS_ret ?_
                    refine QS_then_ret ?_
                    refine QS_then_ret ?_
                    refine QS_block_ret ?_
                    refine QS_round_ret ?_
                    refine QS_block_ret ?_
                    refine QS_then_ret ?_
                    exact QS_ret [.slice none 0 0, faultV 110 p] ⟨rfl, ⟨b1, _, _, _, rfl, .there .here, .inr ⟨ag25, rfl⟩⟩, trivial⟩ [] (Pick.nil _) ⟨rfl, rfl⟩
                  · rw [if_neg hz] at hstep
                    by_cases h9 : 999 < n
                    · rw [if_pos h9] at hstep
                      rw [goR_err hlt hstep] at he
                      subst he
                      refine TS_seq ?_
                      refine TS_seq ?_
                      refine TS_region ?_
                      refine VS_pure (P_move rfl) rfl rfl rfl ?_
                      refine VS_pure (P_move rfl) rfl rfl rfl ?_
                      refine VS_pure (P_len_str rfl st9) rfl rfl rfl ?_
                      refine VS_pure (df (P_lss rfl rfl) (by first | assumption | omega | decide | exact fun hx => hx (by assumption))) rfl rfl rfl ?_
                      refine VS_pure (P_move rfl) rfl rfl rfl ?_
                      refine VS_skip rfl rfl rfl ?_
                      refine VS_skip rfl rfl rfl ?_
                      refine VS_skip rfl rfl rfl ?_
                      refine VS_skip rfl rfl rfl ?_
                      refine VS_skip rfl rfl rfl ?_
                      refine VS_pure (P_pick_f rfl rfl) rfl rfl rfl ?_
                      refine VS_nil ?_
                      refine QS_then ?_
                      refine TS_false rfl ?_
                      refine TS_exit ?_
                      refine QS_then_exit ?_
                      refine QS_round_exit ?_
                      refine QS_block_here ?_
                      refine QS_then ?_
                      refine TS_seq ?_
                      refine TS_seq ?_
                      refine TS_region ?_
                      refine VS_pure (P_move rfl) rfl rfl rfl ?_
                      refine VS_pure (P_move rfl) rfl rfl rfl ?_
                      refine VS_pure (P_sindexN rfl rfl st9 (by omega)) rfl rfl rfl ?_
                      refine VS_if (P_eql rfl rfl) rfl rfl rfl (fun hc1 => ?_) (fun hc1 => ?_)
                      refine VS_pure (P_move rfl) rfl rfl rfl ?_
                      refine VS_pure (P_move rfl) rfl rfl rfl ?_
                      refine VS_pure (P_move rfl) rfl rfl rfl ?_
                      refine VS_pure (P_add rfl rfl (w64 (by omega) (by omega))) rfl rfl rfl ?_
                      refine VS_pure (df (P_gtr rfl rfl) (by first | assumption | omega | decide | exact fun hx => hx (by assumption))) rfl rfl rfl ?_
                      refine VS_pure (P_pick_t rfl rfl) rfl rfl rfl ?_
                      refine VS_nil ?_
                      refine QS_then ?_
                      refine TS_false rfl ?_
                      refine TS_skip ?_
                      refine QS_then ?_
                      refine TS_seq ?_
                      refine TS_seq ?_
                      refine TS_region ?_
                      refine VS_pure (P_move rfl) rfl rfl rfl ?_
                      refine VS_pure (dt (P_gtr rfl rfl) (by first | assumption | rfl | omega | decide)) rfl rfl rfl ?_
                      refine VS_nil ?_
                      refine QS_then ?_
                      refine TS_true rfl ?_
                      refine TS_seq ?_
                      refine TS_region ?_
                      refine VS_pure (P_move rfl) rfl rfl rfl ?_
                      refine VS_pure (P_build zl25 pl25 rfl rfl) rfl rfl rfl ?_
                      refine VS_pure (P_assign rfl) rfl rfl rfl ?_
                      refine VS_step (S_storeAgg ag25 rfl rfl rfl (.there (.here)) rfl rfl ?_) rfl
                      refine VS_nil ?_
                      refine QS_then ?_
                      refine TS_ret ?_
                      refine QS_then_ret ?_
                      refine QS_then_ret ?_
                      refine QS_block_ret ?_
                      refine QS_round_ret ?_
                      refine QS_block_ret ?_
                      refine QS_then_ret ?_
                      (exact QS_ret [.slice none 0 0, faultV 3 p] ⟨rfl, ⟨b1, _, _, _, rfl, .there .here, .inr ⟨ag25, rfl⟩⟩, trivial⟩ [] (Pick.nil _) ⟨rfl, rfl⟩)
                      refine VS_pure (P_move rfl) rfl rfl rfl ?_
                      refine VS_skip rfl rfl rfl ?_
                      refine VS_skip rfl rfl rfl ?_
                      refine VS_skip rfl rfl rfl ?_
                      refine VS_skip rfl rfl rfl ?_
                      refine VS_pure (P_pick_f rfl rfl) rfl rfl rfl ?_
                      refine VS_nil ?_
                      refine QS_then ?_
                      refine TS_false rfl ?_
                      refine TS_skip ?_
                      refine QS_then ?_
                      refine TS_seq ?_
                      refine TS_seq ?_
                      refine TS_region ?_
                      refine VS_pure (P_move rfl) rfl rfl rfl ?_
                      refine VS_pure (dt (P_gtr rfl rfl) (by first | assumption | rfl | omega | decide)) rfl rfl rfl ?_
                      refine VS_nil ?_
                      refine QS_then ?_
                      refine TS_true rfl ?_
                      refine TS_seq ?_
                      refine TS_region ?_
                      refine VS_pure (P_move rfl) rfl rfl rfl ?_
                      refine VS_pure (P_build zl25 pl25 rfl rfl) rfl rfl rfl ?_
                      refine VS_pure (P_assign rfl) rfl rfl rfl ?_
                      refine VS_step (S_storeAgg ag25 rfl rfl rfl (.there (.here)) rfl rfl ?_) rfl
                      refine VS_nil ?_
                      refine QS_then ?_
                      refine TS_ret ?_
                      refine QS_then_ret ?_
                      refine QS_then_ret ?_
                      refine QS_block_ret ?_
                      refine QS_round_ret ?_
                      refine QS_block_ret ?_
                      refine QS_then_ret ?_
                      (exact QS_ret [.slice none 0 0, faultV 3 p] ⟨rfl, ⟨b1, _, _, _, rfl, .there .here, .inr ⟨ag25, rfl⟩⟩, trivial⟩ [] (Pick.nil _) ⟨rfl, rfl⟩)
                    · rw [if_neg h9] at hstep
                      obtain ⟨he, _, _⟩ := goR_next hlt hstep he
                      refine TS_seq ?_
                      refine TS_seq ?_
                      refine TS_region ?_
                      refine VS_pure (P_move rfl) rfl rfl rfl ?_
                      refine VS_pure (P_move rfl) rfl rfl rfl ?_
                      refine VS_pure (P_len_str rfl st9) rfl rfl rfl ?_
                      refine VS_pure (df (P_lss rfl rfl) (by first | assumption | omega | decide | exact fun hx => hx (by assumption))) rfl rfl rfl ?_
                      refine VS_pure (P_move rfl) rfl rfl rfl ?_
                      refine VS_skip rfl rfl rfl ?_
                      refine VS_skip rfl rfl rfl ?_
                      refine VS_skip rfl rfl rfl ?_
                      refine VS_skip rfl rfl rfl ?_
                      refine VS_skip rfl rfl rfl ?_
                      refine VS_pure (P_pick_f rfl rfl) rfl rfl rfl ?_
                      refine VS_nil ?_
                      refine QS_then ?_
                      refine TS_false rfl ?_
                      refine TS_exit ?_
                      refine QS_then_exit ?_
                      refine QS_round_exit ?_
                      refine QS_block_here ?_
                      refine QS_then ?_
                      refine TS_seq ?_
                      refine TS_seq ?_
                      refine TS_region ?_
                      refine VS_pure (P_move rfl) rfl rfl rfl ?_
                      refine VS_pure (P_move rfl) rfl rfl rfl ?_
                      refine VS_pure (P_sindexN rfl rfl st9 (by omega)) rfl rfl rfl ?_
                      refine VS_if (P_eql rfl rfl) rfl rfl rfl (fun hc1 => ?_) (fun hc1 => ?_)
                      refine VS_pure (P_move rfl) rfl rfl rfl ?_
                      refine VS_pure (P_move rfl) rfl rfl rfl ?_
                      refine VS_pure (P_move rfl) rfl rfl rfl ?_
                      refine VS_pure (P_add rfl rfl (w64 (by omega) (by omega))) rfl rfl rfl ?_
                      refine VS_pure (df (P_gtr rfl rfl) (by first | assumption | omega | decide | exact fun hx => hx (by assumption))) rfl rfl rfl ?_
                      refine VS_pure (P_pick_t rfl rfl) rfl rfl rfl ?_
                      refine VS_nil ?_
                      refine QS_then ?_
                      refine TS_false rfl ?_
                      refine TS_skip ?_
                      refine QS_then ?_
                      refine TS_seq ?_
                      refine TS_seq ?_
                      refine TS_region ?_
                      refine VS_pure (P_move rfl) rfl rfl rfl ?_
                      refine VS_pure (df (P_gtr rfl rfl) (by first | assumption | omega | decide | exact fun hx => hx (by assumption))) rfl rfl rfl ?_
                      refine VS_nil ?_
                      refine QS_then ?_
                      refine TS_false rfl ?_
                      refine TS_skip ?_
                      refine QS_then ?_
                      refine TS_seq ?_
                      refine TS_region ?_
                      refine VS_pure (P_move rfl) rfl rfl rfl ?_
                      refine VS_pure (P_move rfl) rfl rfl rfl ?_
                      refine VS_pure (P_move rfl) rfl rfl rfl ?_
                      refine VS_pure (P_build zl30 pl30 rfl rfl) rfl rfl rfl ?_
                      refine VS_step (S_buildSlice sl22 rfl rfl rfl rfl (fun b2 => ?_)) rfl
                      refine VS_step (S_append sl22 rfl rfl rfl rfl (.here) (fun _ _ => (.there (.here))) rfl rfl (by first | omega | (simp only [maxLen]; omega)) (by omega) rfl (fun A1 c1 => ?_)) rfl
                      refine VS_pure (P_assign rfl) rfl rfl rfl ?_
                      refine VS_nil ?_
                      refine QS_then ?_
                      refine TS_seq ?_
                      refine TS_region ?_
                      refine VS_pure (P_move rfl) rfl rfl rfl ?_
                      refine VS_pure (P_assign rfl) rfl rfl rfl ?_
                      refine VS_nil ?_
                      refine QS_then ?_
                      refine TS_exit ?_
                      refine QS_then_exit ?_
                      refine QS_block_here ?_
                      (exact QS_round (q, acc ++ [⟨2, [], n, p⟩], A1, c1) ⟨rfl, rfl, by simp only [len_snoc]; rfl, rfl, trivial⟩ (by simp only [own_snoc]; exact Pick.drop) ⟨by simp only; omega, by simp only [len_snoc]; omega, he⟩ (by simp only; omega))
                      refine VS_pure (P_move rfl) rfl rfl rfl ?_
                      refine VS_skip rfl rfl rfl ?_
                      refine VS_skip rfl rfl rfl ?_
                      refine VS_skip rfl rfl rfl ?_
                      refine VS_skip rfl rfl rfl ?_
                      refine VS_pure (P_pick_f rfl rfl) rfl rfl rfl ?_
                      refine VS_nil ?_
                      refine QS_then ?_
                      refine TS_false rfl ?_
                      refine TS_skip ?_
                      refine QS_then ?_
                      refine TS_seq ?_
                      refine TS_seq ?_
                      refine TS_region ?_
                      refine VS_pure (P_move rfl) rfl rfl rfl ?_
                      refine VS_pure (df (P_gtr rfl rfl) (by first | assumption | omega | decide | exact fun hx => hx (by assumption))) rfl rfl rfl ?_
                      refine VS_nil ?_
                      refine QS_then ?_
                      refine TS_false rfl ?_
                      refine TS_skip ?_
                      refine QS_then ?_
                      refine TS_seq ?_
                      refine TS_region ?_
                      refine VS_pure (P_move rfl) rfl rfl rfl ?_
                      refine VS_pure (P_move rfl) rfl rfl rfl ?_
                      refine VS_pure (P_move rfl) rfl rfl rfl ?_
                      refine VS_pure (P_build zl30 pl30 rfl rfl) rfl rfl rfl ?_
                      refine VS_step (S_buildSlice sl22 rfl rfl rfl rfl (fun b2 => ?_)) rfl
                      refine VS_step (S_append sl22 rfl rfl rfl rfl (.here) (fun _ _ => (.there (.here))) rfl rfl (by first | omega | (simp only [maxLen]; omega)) (by omega) rfl (fun A1 c1 => ?_)) rfl
                      refine VS_pure (P_assign rfl) rfl rfl rfl ?_
                      refine VS_nil ?_
                      refine QS_then ?_
                      refine TS_seq ?_
                      refine TS_region ?_
                      refine VS_pure (P_move rfl) rfl rfl rfl ?_
                      refine VS_pure (P_assign rfl) rfl rfl rfl ?_
                      refine VS_nil ?_
                      refine QS_then ?_
                      refine TS_exit ?_
                      refine QS_then_exit ?_
                      refine QS_block_here ?_
                      (exact QS_round (q, acc ++ [⟨2, [], n, p⟩], A1, c1) ⟨rfl, rfl, by simp only [len_snoc]; rfl, rfl, trivial⟩ (by simp only [own_snoc]; exact Pick.drop) ⟨by simp only; omega, by simp only [len_snoc]; omega, he⟩ (by simp only; omega))
              | false =>
                rw [hd, if_neg (by simp)] at hstep
                refine VS_nil ?_
                refine QS_then ?_
                refine TS_false rfl ?_
                refine TS_skip ?_
                refine QS_then ?_
                refine TS_seq ?_
                refine TS_region ?_
                refine VS_step ((S_call cl23 rfl (fun m' hm he => Marks_ok) rfl ?_)) rfl
                rintro _ _ ⟨b2, rfl, rfl⟩
                refine VS_pure (P_assign rfl) rfl rfl rfl ?_
                refine VS_nil ?_
                refine QS_then ?_
                refine TS_seq ?_
                refine TS_region ?_
                refine VS_pure (P_assign rfl) rfl rfl rfl ?_
                refine VS_nil ?_
                refine QS_then ?_
                refine TS_seq ?_
                refine TS_seq ?_
                refine TS_region ?_
                refine VS_pure (P_assign rfl) rfl rfl rfl ?_
                refine VS_nil ?_
                refine QS_then ?_
                refine TS_block ?_
                refine TS_loop (fun y : (Nat × Bool × Nat) × List Wrd × Option Addr × Nat => [(0, .string (bs s)), (3, .pointer (some ⟨b1, 0, none⟩)), (4, .slice y.2.2.1 y.2.1.length y.2.2.2), (5, .int .i64 (y.1.2.2 : Nat)), (14, .slice (some ⟨b2, 0, none⟩) 13 13), (15, .bool y.1.2.1), (16, .int .i64 (y.1.1 : Nat))])
                  (fun y => [cel b2 (marks.map strV) 9, own 30 4 y.2.2.1 y.2.1.length y.2.2.2 (wsV y.2.1), cel b1 [.int .i64 0, .int .i64 0] 25])
                  (fun y => y.1.1 ≤ 13 ∧ ((y.1.2.1 = false ∧ y.1.2.2 = p ∧ y.2.1 = acc ∧ markP (s.drop p) = (marks.drop y.1.1).find? (·.isPrefixOf (s.drop p))) ∨ (y.1.2.1 = true ∧ p < y.1.2.2 ∧ y.1.2.2 ≤ s.length ∧ y.2.1.length ≤ y.1.2.2 ∧ goR s y.1.2.2 y.2.1 = FIN)))
                  (fun y => if y.1.2.1 then 0 else 14 - y.1.1) ((0, false, p), acc, A, c) ⟨rfl, rfl, rfl, rfl, rfl, rfl, rfl, trivial⟩ (Pick.refl _) ⟨Nat.zero_le _, .inl ⟨rfl, rfl, rfl, rfl⟩⟩ ?_
                rintro ⟨⟨i, found, q⟩, acc2, A2, c2⟩ ⟨hi, hf⟩
                simp only at hi hf ⊢
                rcases hf with ⟨rfl, rfl, rfl, hmk⟩ | ⟨rfl, h1, h2, h3, h4⟩
                · by_cases hi13 : i < 13
                  · have hl13 : i < marks.length := hi13
                    have hk := mark_get hl13
                    rw [marks_step hl13] at hmk
                    by_cases hle : q + (marks[i]'hl13).length ≤ s.length
                    · have hpe := isPrefix_eq (s := s.drop q) (t := marks[i]'hl13) (by simp; omega)
                      have hsub : q + (marks[i]'hl13).length - q = (marks[i]'hl13).length := by omega
                      cases hpf : (marks[i]'hl13).isPrefixOf (s.drop q) with
                      | true =>
                        rw [hpf, if_pos rfl] at hmk
                        rw [hpf] at hpe
                        have hpe := of_decide_eq_true hpe
                        have hst : stepR s q = .next (q + (marks[i]'hl13).length) [⟨3, marks[i]'hl13, 0, q⟩] := by
                          rw [hstep]; unfold stepM; rw [hmk]
                        obtain ⟨he, g1, g2⟩ := goR_next hlt hst he
                        refine TS_seq ?_
                        refine TS_seq ?_
                        refine TS_region ?_
                        refine VS_pure (P_move rfl) rfl rfl rfl ?_
                        refine VS_pure (P_move rfl) rfl rfl rfl ?_
                        refine VS_pure (P_len il45 rfl) rfl rfl rfl ?_
                        refine VS_pure (dt (P_lss rfl rfl) (by first | assumption | rfl | omega | decide)) rfl rfl rfl ?_
                        refine VS_pure (P_move rfl) rfl rfl rfl ?_
                        refine VS_pure (P_move rfl) rfl rfl rfl ?_
                        refine VS_pure (P_not rfl) rfl rfl rfl ?_
                        refine VS_pure (P_pick_t rfl rfl) rfl rfl rfl ?_
                        refine VS_nil ?_
                        refine QS_then ?_
                        refine TS_true rfl ?_
                        refine TS_skip ?_
                        refine QS_then ?_
                        refine TS_seq ?_
                        refine TS_block ?_
                        refine TS_seq ?_
                        refine TS_region ?_
                        refine VS_pure (P_move rfl) rfl rfl rfl ?_
                        refine VS_pure (P_move rfl) rfl rfl rfl ?_
                        refine VS_pure ((P_indexAddr1N ez45 rfl rfl rfl (by omega))) rfl rfl rfl ?_
                        refine VS_read (S_loadE sg9 rfl (.here) (by assumption)) rfl rfl rfl ?_
                        refine VS_pure (P_assign rfl) rfl rfl rfl ?_
                        refine VS_nil ?_
                        refine QS_then ?_
                        refine TS_seq ?_
                        refine TS_region ?_
                        refine VS_pure (P_move rfl) rfl rfl rfl ?_
                        refine VS_pure (P_move rfl) rfl rfl rfl ?_
                        refine VS_pure (P_len_str rfl st9) rfl rfl rfl ?_
                        refine VS_pure (P_addN rfl rfl (by omega)) rfl rfl rfl ?_
                        refine VS_pure (P_move rfl) rfl rfl rfl ?_
                        refine VS_pure (P_len_str rfl st9) rfl rfl rfl ?_
                        refine VS_pure (dt (P_leq rfl rfl) (by first | assumption | rfl | omega | decide)) rfl rfl rfl ?_
                        refine VS_pure (P_move rfl) rfl rfl rfl ?_
                        refine VS_pure (P_move rfl) rfl rfl rfl ?_
                        refine VS_pure (P_move rfl) rfl rfl rfl ?_
                        refine VS_pure (P_move rfl) rfl rfl rfl ?_
                        refine VS_pure (P_move rfl) rfl rfl rfl ?_
                        refine VS_pure (P_len_str rfl st9) rfl rfl rfl ?_
                        refine VS_pure (P_addN rfl rfl (by omega)) rfl rfl rfl ?_
                        refine VS_pure (P_sslice_lh _ _ st9 rfl rfl rfl rfl rfl (by omega) (by omega)) rfl rfl rfl ?_
                        refine VS_pure (P_move rfl) rfl rfl rfl ?_
                        refine VS_pure ((dt (P_seql rfl rfl) (by rw [hsub]; exact hpe))) rfl rfl rfl ?_
                        refine VS_pure (P_pick_t rfl rfl) rfl rfl rfl ?_
                        refine VS_nil ?_
                        refine QS_then ?_
                        refine TS_true rfl ?_
                        refine TS_seq ?_
                        refine TS_region ?_
                        refine VS_pure (P_move rfl) rfl rfl rfl ?_
                        refine VS_pure (P_move rfl) rfl rfl rfl ?_
                        refine VS_pure (P_move rfl) rfl rfl rfl ?_
                        refine VS_pure (P_build zl30 pl30 rfl rfl) rfl rfl rfl ?_
                        refine VS_step (S_buildSlice sl22 rfl rfl rfl rfl (fun b3 => ?_)) rfl
                        refine VS_step (S_append sl22 rfl rfl rfl rfl (.here) (fun _ _ => (.there (.there (.here)))) rfl rfl (by first | omega | (simp only [maxLen]; omega)) (by omega) rfl (fun A1 c1 => ?_)) rfl
                        refine VS_pure (P_assign rfl) rfl rfl rfl ?_
                        refine VS_nil ?_
                        refine QS_then ?_
                        refine TS_seq ?_
                        refine TS_region ?_
                        refine VS_pure (P_move rfl) rfl rfl rfl ?_
                        refine VS_pure (P_move rfl) rfl rfl rfl ?_
                        refine VS_pure (P_len_str rfl st9) rfl rfl rfl ?_
                        refine VS_pure (P_addN rfl rfl (by omega)) rfl rfl rfl ?_
                        refine VS_pure (P_assign rfl) rfl rfl rfl ?_
                        refine VS_nil ?_
                        refine QS_then ?_
                        refine TS_region ?_
                        refine VS_pure (P_assign rfl) rfl rfl rfl ?_
                        refine VS_nil ?_
                        refine QS_block ?_
                        refine QS_then ?_
                        refine TS_region ?_
                        refine VS_pure (P_move rfl) rfl rfl rfl ?_
                        refine VS_pure (P_add rfl rfl (w64 (by omega) (by omega))) rfl rfl rfl ?_
                        refine VS_pure (P_assign rfl) rfl rfl rfl ?_
                        refine VS_nil ?_
                        exact QS_round ((i + 1, true, q + (marks[i]'hl13).length), acc2 ++ [⟨3, marks[i]'hl13, 0, q⟩], A1, c1) ⟨rfl, rfl, by simp only [len_snoc]; rfl, rfl, rfl, rfl, rfl, trivial⟩ (by simp only [own_snoc]; exact Pick.drop) ⟨by simp only; omega, .inr ⟨rfl, by simp only; omega, by simp only; omega, by simp only [len_snoc]; omega, he⟩⟩ (by simp only [if_true]; simp; omega)
                      | false =>
                        rw [hpf, if_neg (by simp)] at hmk
                        rw [hpf] at hpe
                        have hpe := of_decide_eq_false hpe
                        refine TS_seq ?_
                        refine TS_seq ?_
                        refine TS_region ?_
                        refine VS_pure (P_move rfl) rfl rfl rfl ?_
                        refine VS_pure (P_move rfl) rfl rfl rfl ?_
                        refine VS_pure (P_len il45 rfl) rfl rfl rfl ?_
                        refine VS_pure (dt (P_lss rfl rfl) (by first | assumption | rfl | omega | decide)) rfl rfl rfl ?_
                        refine VS_pure (P_move rfl) rfl rfl rfl ?_
                        refine VS_pure (P_move rfl) rfl rfl rfl ?_
                        refine VS_pure (P_not rfl) rfl rfl rfl ?_
                        refine VS_pure (P_pick_t rfl rfl) rfl rfl rfl ?_
                        refine VS_nil ?_
                        refine QS_then ?_
                        refine TS_true rfl ?_
                        refine TS_skip ?_
                        refine QS_then ?_
                        refine TS_seq ?_
                        refine TS_block ?_
                        refine TS_seq ?_
                        refine TS_region ?_
                        refine VS_pure (P_move rfl) rfl rfl rfl ?_
                        refine VS_pure (P_move rfl) rfl rfl rfl ?_
                        refine VS_pure ((P_indexAddr1N ez45 rfl rfl rfl (by omega))) rfl rfl rfl ?_
                        refine VS_read (S_loadE sg9 rfl (.here) (by assumption)) rfl rfl rfl ?_
                        refine VS_pure (P_assign rfl) rfl rfl rfl ?_
                        refine VS_nil ?_
                        refine QS_then ?_
                        refine TS_seq ?_
                        refine TS_region ?_
                        refine VS_pure (P_move rfl) rfl rfl rfl ?_
                        refine VS_pure (P_move rfl) rfl rfl rfl ?_
                        refine VS_pure (P_len_str rfl st9) rfl rfl rfl ?_
                        refine VS_pure (P_addN rfl rfl (by omega)) rfl rfl rfl ?_
                        refine VS_pure (P_move rfl) rfl rfl rfl ?_
                        refine VS_pure (P_len_str rfl st9) rfl rfl rfl ?_
                        refine VS_pure (dt (P_leq rfl rfl) (by first | assumption | rfl | omega | decide)) rfl rfl rfl ?_
                        refine VS_pure (P_move rfl) rfl rfl rfl ?_
                        refine VS_pure (P_move rfl) rfl rfl rfl ?_
                        refine VS_pure (P_move rfl) rfl rfl rfl ?_
                        refine VS_pure (P_move rfl) rfl rfl rfl ?_
                        refine VS_pure (P_move rfl) rfl rfl rfl ?_
                        refine VS_pure (P_len_str rfl st9) rfl rfl rfl ?_
                        refine VS_pure (P_addN rfl rfl (by omega)) rfl rfl rfl ?_
                        refine VS_pure (P_sslice_lh _ _ st9 rfl rfl rfl rfl rfl (by omega) (by omega)) rfl rfl rfl ?_
                        refine VS_pure (P_move rfl) rfl rfl rfl ?_
                        refine VS_pure ((df (P_seql rfl rfl) (by rw [hsub]; exact hpe))) rfl rfl rfl ?_
                        refine VS_pure (P_pick_t rfl rfl) rfl rfl rfl ?_
                        refine VS_nil ?_
                        refine QS_then ?_
                        refine TS_false rfl ?_
                        refine TS_skip ?_
                        refine QS_block ?_
                        refine QS_then ?_
                        refine TS_region ?_
                        refine VS_pure (P_move rfl) rfl rfl rfl ?_
                        refine VS_pure (P_add rfl rfl (w64 (by omega) (by omega))) rfl rfl rfl ?_
                        refine VS_pure (P_assign rfl) rfl rfl rfl ?_
                        refine VS_nil ?_
                        exact QS_round ((i + 1, false, q), acc2, A2, c2) ⟨rfl, rfl, rfl, rfl, rfl, rfl, rfl, trivial⟩ (Pick.refl _) ⟨by simp only; omega, .inl ⟨rfl, rfl, rfl, hmk⟩⟩ (by simp; omega)
                    · have hml : (marks[i]'hl13).length ≤ 2 := (show ∀ m ∈ marks, m.length ≤ 2 by decide) _ (List.getElem_mem hl13)
                      rw [notPrefix (by simp; omega), if_neg (by simp)] at hmk
                      refine TS_seq ?_
                      refine TS_seq ?_
                      refine TS_region ?_
                      refine VS_pure (P_move rfl) rfl rfl rfl ?_
                      refine VS_pure (P_move rfl) rfl rfl rfl ?_
                      refine VS_pure (P_len il45 rfl) rfl rfl rfl ?_
                      refine VS_pure (dt (P_lss rfl rfl) (by first | assumption | rfl | omega | decide)) rfl rfl rfl ?_
                      refine VS_pure (P_move rfl) rfl rfl rfl ?_
                      refine VS_pure (P_move rfl) rfl rfl rfl ?_
                      refine VS_pure (P_not rfl) rfl rfl rfl ?_
                      refine VS_pure (P_pick_t rfl rfl) rfl rfl rfl ?_
                      refine VS_nil ?_
                      refine QS_then ?_
                      refine TS_true rfl ?_
                      refine TS_skip ?_
                      refine QS_then ?_
                      refine TS_seq ?_
                      refine TS_block ?_
                      refine TS_seq ?_
                      refine TS_region ?_
                      refine VS_pure (P_move rfl) rfl rfl rfl ?_
                      refine VS_pure (P_move rfl) rfl rfl rfl ?_
                      refine VS_pure ((P_indexAddr1N ez45 rfl rfl rfl (by omega))) rfl rfl rfl ?_
                      refine VS_read (S_loadE sg9 rfl (.here) (by assumption)) rfl rfl rfl ?_
                      refine VS_pure (P_assign rfl) rfl rfl rfl ?_
                      refine VS_nil ?_
                      refine QS_then ?_
                      refine TS_seq ?_
                      refine TS_region ?_
                      refine VS_pure (P_move rfl) rfl rfl rfl ?_
                      refine VS_pure (P_move rfl) rfl rfl rfl ?_
                      refine VS_pure (P_len_str rfl st9) rfl rfl rfl ?_
                      refine VS_pure (P_addN rfl rfl (by omega)) rfl rfl rfl ?_
                      refine VS_pure (P_move rfl) rfl rfl rfl ?_
                      refine VS_pure (P_len_str rfl st9) rfl rfl rfl ?_
                      refine VS_pure (df (P_leq rfl rfl) (by first | assumption | omega | decide | exact fun hx => hx (by assumption))) rfl rfl rfl ?_
                      refine VS_pure (P_move rfl) rfl rfl rfl ?_
                      refine VS_skip rfl rfl rfl ?_
                      refine VS_skip rfl rfl rfl ?_
                      refine VS_skip rfl rfl rfl ?_
                      refine VS_skip rfl rfl rfl ?_
                      refine VS_skip rfl rfl rfl ?_
                      refine VS_skip rfl rfl rfl ?_
                      refine VS_skip rfl rfl rfl ?_
                      refine VS_skip rfl rfl rfl ?_
                      refine VS_skip rfl rfl rfl ?_
                      refine VS_pure (P_pick_f rfl rfl) rfl rfl rfl ?_
                      refine VS_nil ?_
                      refine QS_then ?_
                      refine TS_false rfl ?_
                      refine TS_skip ?_
                      refine QS_block ?_
                      refine QS_then ?_
                      refine TS_region ?_
                      refine VS_pure (P_move rfl) rfl rfl rfl ?_
                      refine VS_pure (P_add rfl rfl (w64 (by omega) (by omega))) rfl rfl rfl ?_
                      refine VS_pure (P_assign rfl) rfl rfl rfl ?_
                      refine VS_nil ?_
                      exact QS_round ((i + 1, false, q), acc2, A2, c2) ⟨rfl, rfl, rfl, rfl, rfl, rfl, rfl, trivial⟩ (Pick.refl _) ⟨by simp only; omega, .inl ⟨rfl, rfl, rfl, hmk⟩⟩ (by simp; omega)
                  · have : i = 13 := by omega
                    subst this
                    have hst : stepR s q = .err 110 q := by
                      rw [hstep]; unfold stepM; rw [hmk]; rfl
                    rw [goR_err hlt hst] at he
                    subst he
                    refine TS_seq ?_
                    refine TS_seq ?_
                    refine TS_region ?_
                    refine VS_pure (P_move rfl) rfl rfl rfl ?_
                    refine VS_pure (P_move rfl) rfl rfl rfl ?_
                    refine VS_pure (P_len il45 rfl) rfl rfl rfl ?_
                    refine VS_pure (df (P_lss rfl rfl) (by first | assumption | omega | decide | exact fun hx => hx (by assumption))) rfl rfl rfl ?_
                    refine VS_pure (P_move rfl) rfl rfl rfl ?_
                    refine VS_skip rfl rfl rfl ?_
                    refine VS_skip rfl rfl rfl ?_
                    refine VS_pure (P_pick_f rfl rfl) rfl rfl rfl ?_
                    refine VS_nil ?_
                    refine QS_then ?_
                    refine TS_false rfl ?_
                    refine TS_exit ?_
                    refine QS_then_exit ?_
                    refine QS_round_exit ?_
                    refine QS_block_here ?_
                    refine QS_then ?_
                    refine TS_seq ?_
                    refine TS_region ?_
                    refine VS_pure (P_move rfl) rfl rfl rfl ?_
                    refine VS_pure (P_not rfl) rfl rfl rfl ?_
                    refine VS_nil ?_
                    refine QS_then ?_
                    refine TS_true rfl ?_
                    refine TS_seq ?_
                    refine TS_region ?_
                    refine VS_pure (P_move rfl) rfl rfl rfl ?_
                    refine VS_pure (P_build zl25 pl25 rfl rfl) rfl rfl rfl ?_
                    refine VS_pure (P_assign rfl) rfl rfl rfl ?_
                    refine VS_step (S_storeAgg ag25 rfl rfl rfl (.there (.there (.here))) rfl rfl ?_) rfl
                    refine VS_nil ?_
                    refine QS_then ?_
                    refine TS_ret ?_
                    refine QS_block_ret ?_
                    refine QS_round_ret ?_
                    refine QS_block_ret ?_
                    refine QS_then_ret ?_
                    exact QS_ret [.slice none 0 0, faultV 110 q] ⟨rfl, ⟨b1, _, _, _, rfl, .there (.there .here), .inr ⟨ag25, rfl⟩⟩, trivial⟩ [] (Pick.nil _) ⟨rfl, rfl⟩
                · refine TS_seq ?_
                  refine TS_seq ?_
                  refine TS_region ?_
                  refine VS_pure (P_move rfl) rfl rfl rfl ?_
                  refine VS_pure (P_move rfl) rfl rfl rfl ?_
                  refine VS_pure (P_len il45 rfl) rfl rfl rfl ?_
                  refine VS_if (P_lss rfl rfl) rfl rfl rfl (fun hc1 => ?_) (fun hc1 => ?_)
                  refine VS_pure (P_move rfl) rfl rfl rfl ?_
                  refine VS_pure (P_move rfl) rfl rfl rfl ?_
                  refine VS_pure (P_not rfl) rfl rfl rfl ?_
                  refine VS_pure (P_pick_t rfl rfl) rfl rfl rfl ?_
                  refine VS_nil ?_
                  refine QS_then ?_
                  refine TS_false rfl ?_
                  refine TS_exit ?_
                  refine QS_then_exit ?_
                  refine QS_round_exit ?_
                  refine QS_block_here ?_
                  refine QS_then ?_
                  refine TS_seq ?_
                  refine TS_region ?_
                  refine VS_pure (P_move rfl) rfl rfl rfl ?_
                  refine VS_pure (P_not rfl) rfl rfl rfl ?_
                  refine VS_nil ?_
                  refine QS_then ?_
                  refine TS_false rfl ?_
                  refine TS_skip ?_
                  refine QS_block ?_
                  (exact QS_round (q, acc2, A2, c2) ⟨rfl, rfl, rfl, rfl, trivial⟩ Pick.drop ⟨h2, h3, h4⟩ (by simp only; omega))
                  refine VS_pure (P_move rfl) rfl rfl rfl ?_
                  refine VS_skip rfl rfl rfl ?_
                  refine VS_skip rfl rfl rfl ?_
                  refine VS_pure (P_pick_f rfl rfl) rfl rfl rfl ?_
                  refine VS_nil ?_
                  refine QS_then ?_
                  refine TS_false rfl ?_
                  refine TS_exit ?_
                  refine QS_then_exit ?_
                  refine QS_round_exit ?_
                  refine QS_block_here ?_
                  refine QS_then ?_
                  refine TS_seq ?_
                  refine TS_region ?_
                  refine VS_pure (P_move rfl) rfl rfl rfl ?_
                  refine VS_pure (P_not rfl) rfl rfl rfl ?_
                  refine VS_nil ?_
                  refine QS_then ?_
                  refine TS_false rfl ?_
                  refine TS_skip ?_
                  refine QS_block ?_
                  (exact QS_round (q, acc2, A2, c2) ⟨rfl, rfl, rfl, rfl, trivial⟩ Pick.drop ⟨h2, h3, h4⟩ (by simp only; omega))
    · rw [goR_end hlt] at he
      subst he
      refine TS_seq ?_
      refine TS_seq ?_
      refine TS_region ?_
      refine VS_pure (P_move rfl) rfl rfl rfl ?_
      refine VS_pure (P_move rfl) rfl rfl rfl ?_
      refine VS_pure (P_len_str rfl st9) rfl rfl rfl ?_
      refine VS_pure (df (P_lss rfl rfl) (by first | assumption | omega | decide | exact fun hx => hx (by assumption))) rfl rfl rfl ?_
      refine VS_nil ?_
      refine QS_then ?_
      refine TS_false rfl ?_
      refine TS_exit ?_
      refine QS_then_exit ?_
      refine QS_round_exit ?_
      refine QS_block_here ?_
      refine QS_then ?_
      refine TS_seq ?_
      refine TS_region ?_
      refine VS_pure (P_move rfl) rfl rfl rfl ?_
      refine VS_pure (P_move rfl) rfl rfl rfl ?_
      refine VS_pure (P_len_str rfl st9) rfl rfl rfl ?_
      refine VS_pure (P_build zl30 pl30 rfl rfl) rfl rfl rfl ?_
      refine VS_step (S_buildSlice sl22 rfl rfl rfl rfl (fun b2 => ?_)) rfl
      refine VS_step (S_append sl22 rfl rfl rfl rfl (.here) (fun _ _ => (.there (.here))) rfl rfl (by first | omega | (simp only [maxLen]; omega)) (by omega) rfl (fun A1 c1 => ?_)) rfl
      refine VS_pure (P_build zl25 pl25 rfl rfl) rfl rfl rfl ?_
      refine VS_pure (P_assign rfl) rfl rfl rfl ?_
      refine VS_step (S_storeAgg ag25 rfl rfl rfl (.there (.there (.here))) rfl rfl ?_) rfl
      refine VS_nil ?_
      refine QS_then ?_
      refine TS_ret ?_
      refine QS_ret [.slice A1 (acc.length + 1) c1, faultV 0 0] ⟨rfl, ⟨b1, _, _, _, rfl, .there (.there .here), .inr ⟨ag25, rfl⟩⟩, trivial⟩ [own 30 4 A1 (acc.length + 1) c1 (wsV acc ++ wV ⟨0, [], 0, s.length⟩)] (Pick.cons (.there .here) (Pick.nil _)) ⟨A1, c1, ?_, ?_⟩
      · simp [tup]
      · rw [wsV_snoc]; simp
end Go.Proofs.YtigfdclopkagmaaDoor
