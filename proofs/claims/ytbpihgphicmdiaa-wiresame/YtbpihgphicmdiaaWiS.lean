/- A part of the proof: contracts of functions of the program. No condition. -/
import Derived.Test.YtbpihgphicmdiaaWiR
namespace Go.Proofs.Ytbpihgphicmdiaa
open Go.Eng Wi
set_option maxRecDepth 100000
theorem encMany_eq {α : Type} (f : α → List UInt8) (xs : List α) : encMany (fun x => some (f x)) xs = if xs.length ≤ 65535 then some (sz2 xs.length ++ xs.flatMap f) else none := by
  unfold encMany
  rw [encL_some]
  simp
theorem flat_take {α : Type} {f : α → List UInt8} {xs : List α} {j : Nat} (h : j < xs.length) : (xs.take (j + 1)).flatMap f = (xs.take j).flatMap f ++ f xs[j] := by
  rw [List.take_add_one, List.getElem?_eq_getElem h, Option.toList_some, List.flatMap_append]; simp
theorem flat_be8 {xs : List Int} : (xs.flatMap be8).length = 8 * xs.length := by
  induction xs with
  | nil => rfl
  | cons x r ih => rw [List.flatMap_cons, List.length_append, ih, be8_len, List.length_cons]; omega
set_option maxHeartbeats 4000000 in
theorem rnums_ok {m : Mp} {v : Value} {xs : List Int} (hv : SlI m v xs) (hb : xs.length ≤ 140737488355328) : GC 54 [v] m 549750000000 (encMany eNum xs) := by
  obtain ⟨a, k, rfl, hrd, hmax⟩ := hv
  intro A c out hl
  refine CS_of [.tmp 4, .tmp 5] Try.func54 rfl rfl rfl ?_
  unfold outE
  have heq : encMany eNum xs = if xs.length ≤ 65535 then some (sz2 xs.length ++ xs.flatMap be8) else none := encMany_eq be8 xs
  by_cases hn : xs.length ≤ 65535
  · rw [show encMany eNum xs = some (sz2 xs.length ++ xs.flatMap be8) by rw [heq, if_pos hn]]
    have H : ∀ m', _ := fun m' => rtwo_ok (m := m') (n := xs.length) A c out (by omega)
    rw [show eSz xs.length = some (sz2 xs.length) from if_pos hn] at H
    unfold outE at H
    refine TS_seq ?_
    refine TS_region ?_
    refine VS_pure (P_assign rfl) rfl rfl rfl ?_
    refine VS_pure (P_assign rfl) rfl rfl rfl ?_
    refine VS_nil ?_
    refine QS_then ?_
    refine TS_seq ?_
    refine TS_region ?_
    refine VS_pure (P_move rfl) rfl rfl rfl ?_
    refine VS_pure (P_move rfl) rfl rfl rfl ?_
    refine VS_pure (P_len il25 rfl) rfl rfl rfl ?_
    refine VS_step ((S_callL cl28 rfl (.cons .here .nil) (fun m' hm he => H m') rfl ?_)) rfl
    rintro _ _ ⟨A1, c1, out1, rfl, rfl, hout⟩
    obtain rfl := hout _ rfl
    refine VS_pure (P_move rfl) rfl rfl rfl ?_
    refine VS_pure (P_extract rfl rfl) rfl rfl rfl ?_
    refine VS_pure (P_extract rfl rfl) rfl rfl rfl ?_
    refine VS_pure (P_assign rfl) rfl rfl rfl ?_
    refine VS_pure (P_assign rfl) rfl rfl rfl ?_
    refine VS_nil ?_
    refine QS_then ?_
    refine TS_seq ?_
    refine TS_seq ?_
    refine TS_region ?_
    refine VS_pure (P_assign rfl) rfl rfl rfl ?_
    refine VS_nil ?_
    refine QS_then ?_
    refine TS_block ?_
    refine TS_loop3 (fun j A c => [(0, .slice A (out ++ sz2 xs.length ++ (xs.take j).flatMap be8).length c), (1, .slice a xs.length k), (6, .bool true), (7, .int .i64 (j : Nat))]) (fun j A c => outE A c (out ++ sz2 xs.length ++ (xs.take j).flatMap be8)) (fun j => j ≤ xs.length) (fun j => xs.length - j) 0 A1 c1 ⟨by simp only [List.take_zero, List.flatMap_nil, List.append_nil]; rfl, rfl, rfl, rfl, trivial⟩ (by simp only [List.take_zero, List.flatMap_nil, List.append_nil]; exact Pick.refl _) (Nat.zero_le _) ?_
    intro j A2 c2 hj
    unfold outE
    have hlen : (out ++ sz2 xs.length ++ (xs.take j).flatMap be8).length ≤ out.length + 2 + 8 * 65535 := by rw [List.length_append, List.length_append, sz2_len, flat_be8, List.length_take]; omega
    by_cases hlt : j < xs.length
    · have hx : mc m ((sa a).add j) = some (iV xs[j]) := hrd.map hlt
      have hA := hrd.isSome (by simp; omega)
      refine TS_seq ?_
      refine TS_seq ?_
      refine TS_region ?_
      refine VS_pure (P_move rfl) rfl rfl rfl ?_
      refine VS_pure (P_move rfl) rfl rfl rfl ?_
      refine VS_pure (P_len il25 rfl) rfl rfl rfl ?_
      refine VS_pure (dt (P_lss rfl rfl) (by omega)) rfl rfl rfl ?_
      refine VS_pure (P_move rfl) rfl rfl rfl ?_
      refine VS_pure (P_move rfl) rfl rfl rfl ?_
      refine VS_pure (P_pick_t rfl rfl) rfl rfl rfl ?_
      refine VS_nil ?_
      refine QS_then ?_
      refine TS_true rfl ?_
      refine TS_skip ?_
      refine QS_then ?_
      refine TS_seq ?_
      refine TS_block ?_
      refine TS_region ?_
      iterate 3 (refine VS_pure (P_move rfl) rfl rfl rfl ?_)
      refine VS_pure (P_indexAddr1N ez25 rfl rfl hA (by omega)) rfl rfl rfl ?_
      refine VS_read (S_load sg3 rfl hx) rfl rfl rfl ?_
      have H2 : ∀ m', _ := fun m' => rnum_ok (m := m') (A := A2) (c := c2) (n := xs[j]) (out := out ++ sz2 xs.length ++ (xs.take j).flatMap be8) (by omega)
      unfold outE at H2
      refine VS_step ((S_callL cl27 rfl (.cons .here .nil) (fun m' hm he => H2 m') rfl ?_)) rfl
      rintro _ _ ⟨A3, c3, rfl, rfl⟩
      refine VS_pure (P_assign rfl) rfl rfl rfl ?_
      refine VS_nil ?_
      refine QS_block ?_
      refine QS_then ?_
      refine TS_region ?_
      refine VS_pure (P_move rfl) rfl rfl rfl ?_
      refine VS_pure (P_add rfl rfl (w64 (by omega) (by omega))) rfl rfl rfl ?_
      refine VS_pure (P_assign rfl) rfl rfl rfl ?_
      refine VS_nil ?_
      refine QS_round3 (j + 1) A3 c3 ⟨?_, rfl, rfl, rfl, trivial⟩ ?_ (by omega) (by omega)
      · rw [flat_take hlt, ← List.append_assoc]; rfl
      · rw [flat_take hlt, ← List.append_assoc]
        exact .cons .here (.nil _)
    · refine TS_seq ?_
      refine TS_seq ?_
      refine TS_region ?_
      refine VS_pure (P_move rfl) rfl rfl rfl ?_
      refine VS_pure (P_move rfl) rfl rfl rfl ?_
      refine VS_pure (P_len il25 rfl) rfl rfl rfl ?_
      refine VS_pure (df (P_lss rfl rfl) (by omega)) rfl rfl rfl ?_
      refine VS_pure (P_move rfl) rfl rfl rfl ?_
      refine VS_skip rfl rfl rfl ?_
      refine VS_pure (P_pick_f rfl rfl) rfl rfl rfl ?_
      refine VS_nil ?_
      refine QS_then ?_
      refine TS_false rfl ?_
      refine TS_exit ?_
      refine QS_then_exit ?_
      refine QS_round3_exit ?_
      refine QS_block_here ?_
      refine QS_then ?_
      refine TS_seq ?_
      refine TS_region ?_
      refine VS_pure (P_move rfl) rfl rfl rfl ?_
      refine VS_pure (P_move rfl) rfl rfl rfl ?_
      refine VS_pure (P_assign rfl) rfl rfl rfl ?_
      refine VS_pure (P_assign rfl) rfl rfl rfl ?_
      refine VS_nil ?_
      refine QS_then ?_
      refine TS_ret ?_
      have e : j = xs.length := by omega
      subst e
      rw [List.take_length]
      exact QS_ret [_, _] ⟨rfl, rfl, trivial⟩ (outE A2 c2 (out ++ (sz2 xs.length ++ xs.flatMap be8))) (by rw [← List.append_assoc]; exact Pick.refl _) ⟨A2, c2, out ++ (sz2 xs.length ++ xs.flatMap be8), rfl, by rw [← List.append_assoc]; rfl, fun e h => by cases h; rfl⟩
  · rw [show encMany eNum xs = none by rw [heq, if_neg hn]]
    have H : ∀ m', _ := fun m' => rtwo_ok (m := m') (n := xs.length) A c out (by omega)
    rw [show eSz xs.length = none from if_neg hn] at H
    unfold outE at H
    refine TS_seq ?_
    refine TS_region ?_
    refine VS_pure (P_assign rfl) rfl rfl rfl ?_
    refine VS_pure (P_assign rfl) rfl rfl rfl ?_
    refine VS_nil ?_
    refine QS_then ?_
    refine TS_seq ?_
    refine TS_region ?_
    refine VS_pure (P_move rfl) rfl rfl rfl ?_
    refine VS_pure (P_move rfl) rfl rfl rfl ?_
    refine VS_pure (P_len il25 rfl) rfl rfl rfl ?_
    refine VS_step ((S_callL cl28 rfl (.cons .here .nil) (fun m' hm he => H m') rfl ?_)) rfl
    rintro _ _ ⟨A1, c1, out1, rfl, rfl, _⟩
    refine VS_pure (P_move rfl) rfl rfl rfl ?_
    refine VS_pure (P_extract rfl rfl) rfl rfl rfl ?_
    refine VS_pure (P_extract rfl rfl) rfl rfl rfl ?_
    refine VS_pure (P_assign rfl) rfl rfl rfl ?_
    refine VS_pure (P_assign rfl) rfl rfl rfl ?_
    refine VS_nil ?_
    refine QS_then ?_
    refine TS_seq ?_
    refine TS_seq ?_
    refine TS_region ?_
    refine VS_pure (P_assign rfl) rfl rfl rfl ?_
    refine VS_nil ?_
    refine QS_then ?_
    refine TS_block ?_
    refine TS_loop3 (fun j A c => [(0, .slice A1 out1.length c1), (1, .slice a xs.length k), (6, .bool false), (7, .int .i64 (j : Nat))]) (fun j A c => outE A1 c1 out1) (fun j => j = 0) (fun j => 1 - j) 0 A1 c1 ⟨rfl, rfl, rfl, rfl, trivial⟩ (Pick.refl _) rfl ?_
    rintro j A2 c2 rfl
    unfold outE
    refine TS_seq ?_
    refine TS_seq ?_
    refine TS_region ?_
    refine VS_pure (P_move rfl) rfl rfl rfl ?_
    refine VS_pure (P_move rfl) rfl rfl rfl ?_
    refine VS_pure (P_len il25 rfl) rfl rfl rfl ?_
    refine VS_pure (dt (P_lss rfl rfl) (by omega)) rfl rfl rfl ?_
    refine VS_pure (P_move rfl) rfl rfl rfl ?_
    refine VS_pure (P_move rfl) rfl rfl rfl ?_
    refine VS_pure (P_pick_t rfl rfl) rfl rfl rfl ?_
    refine VS_nil ?_
    refine QS_then ?_
    refine TS_false rfl ?_
    refine TS_exit ?_
    refine QS_then_exit ?_
    refine QS_round3_exit ?_
    refine QS_block_here ?_
    refine QS_then ?_
    refine TS_seq ?_
    refine TS_region ?_
    refine VS_pure (P_move rfl) rfl rfl rfl ?_
    refine VS_pure (P_move rfl) rfl rfl rfl ?_
    refine VS_pure (P_assign rfl) rfl rfl rfl ?_
    refine VS_pure (P_assign rfl) rfl rfl rfl ?_
    refine VS_nil ?_
    refine QS_then ?_
    refine TS_ret ?_
    exact QS_ret [_, _] ⟨rfl, rfl, trivial⟩ (outE A1 c1 out1) (Pick.refl _) ⟨A1, c1, out1, rfl, rfl, fun e h => by cases h⟩
end Go.Proofs.Ytbpihgphicmdiaa
