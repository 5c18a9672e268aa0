/- A part of the proof: contracts of functions of the program. No condition. -/
import Derived.Test.YtbpihgphicmdiaaWiO
import Derived.Test.YtbpihgphicmdiaaEng2
namespace Go.Proofs.Ytbpihgphicmdiaa
open Go.Eng Wi
set_option maxRecDepth 100000
theorem mc_abs {m ns : Mp} {b k : Nat} {l : List Value} {e : TypeId} {v : Value} (hi : (cel b l e).inv ns) (hd : ∀ k, ns k ≠ none → m k = none) (hv : vnth l k = some v) : mc (uni m ns) ⟨b, k, none⟩ = some v := mc_mono (uni_r hd) (mc_blk (show ns b = some (.cells l.toArray e (0, 0)) from hi) hv)
theorem own_app {A : Option Addr} {c : Nat} {out e : List UInt8} : own 5 1 A (out ++ e).length c ((out ++ e).map byteV) = own 5 1 A (out.length + e.length) c (out.map byteV ++ e.map byteV) := by rw [List.length_append, List.map_append]
theorem by_get {s : List UInt8} {j : Nat} (h : j < s.length) : by_ s j = s[j].toNat := by unfold by_; rw [List.getD_eq_getElem?_getD, List.getElem?_eq_getElem h]; rfl
def outE (A : Option Addr) (c : Nat) (out : List UInt8) : List Ent := [own 5 1 A out.length c (out.map byteV)]
set_option maxHeartbeats 4000000 in
theorem Eight_ok {m : Mp} {n : Int} : CS Try.prog 53 [.int .u64 (IntKind.u64.wrap n)] m [] (fun v L' => ∃ A c, v = .slice A 8 c ∧ L' = outE A c (be8 n)) := by
  refine CS_of [.tmp 2] Try.func53 rfl rfl rfl ?_
  skip
  refine TS_seq ?_
  refine TS_region ?_
  refine VS_pure (P_assign rfl) rfl rfl rfl ?_
  refine VS_nil ?_
  refine QS_then ?_
  refine TS_seq ?_
  refine TS_region ?_
  refine VS_pure (P_assign rfl) rfl rfl rfl ?_
  refine VS_nil ?_
  refine QS_then ?_
  refine TS_seq ?_
  refine TS_seq ?_
  refine TS_region ?_
  refine VS_pure (P_assign rfl) rfl rfl rfl ?_
  refine VS_nil ?_
  refine QS_then ?_
  refine TS_block ?_
  refine TS_nilOwn 5 1 ?_
  refine TS_loop3 (fun j A c => [(0, .int .u64 (IntKind.u64.wrap n)), (3, .slice A ((be8 n).take j).length c), (4, .int .i64 (j : Nat))]) (fun j A c => outE A c ((be8 n).take j)) (fun j => j ≤ 8) (fun j => 8 - j) 0 none 0 ⟨rfl, rfl, rfl, trivial⟩ (Pick.refl _) (Nat.zero_le _) ?_
  intro j A2 c2 hj
  unfold outE
  by_cases hlt : j < 8
  · have hlen : ((be8 n).take j).length ≤ 8 := by rw [List.length_take]; exact Nat.le_trans (Nat.min_le_right _ _) (Nat.le_refl _)
    refine TS_seq ?_
    refine TS_seq ?_
    refine TS_region ?_
    refine VS_pure (P_move rfl) rfl rfl rfl ?_
    refine VS_pure (dt (P_lss rfl rfl) (by omega)) rfl rfl rfl ?_
    refine VS_nil ?_
    refine QS_then ?_
    refine TS_true rfl ?_
    refine TS_skip ?_
    refine QS_then ?_
    refine TS_seq ?_
    refine TS_block ?_
    refine TS_region ?_
    iterate 3 (refine VS_pure (P_move rfl) rfl rfl rfl ?_)
    refine VS_pure (P_mul rfl rfl (w64 (by omega) (by omega))) rfl rfl rfl ?_
    refine VS_pure (P_sub rfl rfl (w64 (by omega) (by omega))) rfl rfl rfl ?_
    refine VS_pure (P_shr rfl rfl (by omega) (by show _ ≤ (64 : Int); omega) rfl) rfl rfl rfl ?_
    refine VS_pure ((P_conv_int us128 ik5 rfl (nb_spec n hlt))) rfl rfl rfl ?_
    refine VS_step (S_buildSlice sl22 rfl rfl rfl rfl (fun b1 => ?_)) rfl
    refine VS_step (S_append sl22 rfl rfl rfl rfl (.here) (fun _ _ => (.there (.here))) rfl rfl (by first | omega | (simp only [maxLen]; omega)) (by omega) rfl (fun A1 c1 => ?_)) rfl
    refine VS_pure (P_assign rfl) rfl rfl rfl ?_
    refine VS_nil ?_
    refine QS_block ?_
    refine QS_then ?_
    refine TS_region ?_
    refine VS_pure (P_move rfl) rfl rfl rfl ?_
    refine VS_pure (P_add rfl rfl (w64 (by omega) (by omega))) rfl rfl rfl ?_
    refine VS_pure (P_assign rfl) rfl rfl rfl ?_
    refine VS_nil ?_
    refine QS_round3 (j + 1) A1 c1 ⟨rfl, ?_, rfl, trivial⟩ ?_ (by omega) (by omega)
    · rw [be8_take n hlt, List.length_append]; rfl
    · rw [be8_take n hlt, own_app]
      exact .cons (.there .here) (.nil _)
  · have : j = 8 := by omega
    subst this
    refine TS_seq ?_
    refine TS_seq ?_
    refine TS_region ?_
    refine VS_pure (P_move rfl) rfl rfl rfl ?_
    refine VS_pure (df (P_lss rfl rfl) (by omega)) rfl rfl rfl ?_
    refine VS_nil ?_
    refine QS_then ?_
    refine TS_false rfl ?_
    refine TS_exit ?_
    refine QS_then_exit ?_
    refine QS_round3_exit ?_
    refine QS_block_here ?_
    refine QS_then ?_
    refine TS_seq ?_
    refine TS_region ?_
    refine VS_pure (P_move rfl) rfl rfl rfl ?_
    refine VS_pure (P_assign rfl) rfl rfl rfl ?_
    refine VS_nil ?_
    refine QS_then ?_
    refine TS_ret ?_
    exact QS_ret [_] ⟨rfl, trivial⟩ (outE A2 c2 (be8 n)) (Pick.refl _) ⟨A2, c2, rfl, rfl⟩
set_option maxHeartbeats 4000000 in
/-- num: a number behind what is there -/
theorem rnum_ok {m : Mp} {A : Option Addr} {c : Nat} {out : List UInt8} {n : Int} (hl : out.length < 1099511627776) : CS Try.prog 27 [.slice A out.length c, iV n] m (outE A c out) (fun v L' => ∃ A' c', v = .slice A' (out ++ be8 n).length c' ∧ L' = outE A' c' (out ++ be8 n)) := by
  refine CS_of [.tmp 4] Try.func27 rfl rfl rfl ?_
  unfold outE
  refine TS_seq ?_
  refine TS_region ?_
  refine VS_pure (P_assign rfl) rfl rfl rfl ?_
  refine VS_nil ?_
  refine QS_then ?_
  refine TS_seq ?_
  refine TS_region ?_
  refine VS_pure (P_move rfl) rfl rfl rfl ?_
  refine VS_pure (P_move rfl) rfl rfl rfl ?_
  refine VS_pure (P_conv_int us3 ik128 rfl rfl) rfl rfl rfl ?_
  refine VS_step ((S_call cl53 rfl (fun m' hm he => Eight_ok) rfl ?_)) rfl
  rintro _ _ ⟨A1, c1, rfl, rfl⟩
  unfold outE
  have hl8 : (be8 n).length = 8 := rfl
  refine VS_step (S_appendR (A2 := A1) (j := 8) (c2 := c1) (news := (be8 n).map byteV) sl22 rfl rfl rfl rfl (fun _ _ => .there .here) (fun h hs => Eng.Own.rd (hs.get .here)) (by simp [hl8]) (by intro u hu; obtain ⟨b, _, rfl⟩ := List.mem_map.1 hu; rfl) (by simp only [maxLen]; omega) (by omega) rfl (fun A3 c3 => ?_)) rfl
  refine VS_pure (P_assign rfl) rfl rfl rfl ?_
  refine VS_nil ?_
  refine QS_then ?_
  refine TS_ret ?_
  refine QS_ret [_] ⟨rfl, trivial⟩ (outE A3 c3 (out ++ be8 n)) ?_ ⟨A3, c3, ?_, rfl⟩
  · unfold outE
    rw [List.length_append, List.map_append]
    exact .cons (.there .here) (.nil _)
  · rw [List.length_append]; rfl
/-- functions of the document's answer that write behind what is there, and tell whether it could be -/
def GC (f : FuncId) (rest : List Value) (m : Mp) (Bd : Nat) (r : Option (List UInt8)) : Prop :=
  ∀ (A : Option Addr) (c : Nat) (out : List UInt8), out.length < Bd → CS Try.prog f (.slice A out.length c :: rest) m (outE A c out)
    (fun v L' => ∃ A' c' out', L' = outE A' c' out' ∧ v = .tuple [.slice A' out'.length c', .bool r.isSome].toArray ∧ ∀ e, r = some e → out' = out ++ e)
def eSz (n : Nat) : Option (List UInt8) := if n ≤ 65535 then some (sz2 n) else none
set_option maxHeartbeats 4000000 in
theorem rtwo_ok {m : Mp} {n : Nat} : GC 28 [.int .i64 (n : Nat)] m 1099511627776 (eSz n) := by
  intro A c out hl
  refine CS_of [.tmp 4, .tmp 5] Try.func28 rfl rfl rfl ?_
  unfold outE
  by_cases hn : n ≤ 65535
  · rw [show eSz n = some (sz2 n) from if_pos hn]
    refine TS_seq ?_
    refine TS_region ?_
    refine VS_pure (P_assign rfl) rfl rfl rfl ?_
    refine VS_pure (P_assign rfl) rfl rfl rfl ?_
    refine VS_nil ?_
    refine QS_then ?_
    refine TS_seq ?_
    refine TS_region ?_
    refine VS_pure (P_move rfl) rfl rfl rfl ?_
    refine VS_pure (P_move rfl) rfl rfl rfl ?_
    refine VS_pure (P_shr rfl rfl (by decide) (by decide) rfl) rfl rfl rfl ?_
    refine VS_pure (P_conv_int us3 ik5 rfl rfl) rfl rfl rfl ?_
    refine VS_pure (P_move rfl) rfl rfl rfl ?_
    refine VS_pure (P_conv_int us3 ik5 rfl rfl) rfl rfl rfl ?_
    refine VS_step (S_buildSlice sl22 rfl rfl rfl rfl (fun b1 => ?_)) rfl
    refine VS_step (S_append sl22 rfl rfl rfl rfl (.here) (fun _ _ => (.there (.here))) rfl rfl (by first | omega | (simp only [maxLen]; omega)) (by omega) rfl (fun A1 c1 => ?_)) rfl
    refine VS_pure (P_move rfl) rfl rfl rfl ?_
    refine VS_pure (dt (P_leq rfl rfl) (by omega)) rfl rfl rfl ?_
    refine VS_pure (P_assign rfl) rfl rfl rfl ?_
    refine VS_pure (P_assign rfl) rfl rfl rfl ?_
    refine VS_nil ?_
    refine QS_then ?_
    refine TS_ret ?_
    rw [sz_hi, sz_lo]
    refine QS_ret [_, _] ⟨rfl, rfl, trivial⟩ (outE A1 c1 (out ++ sz2 n)) ?_ ⟨A1, c1, out ++ sz2 n, rfl, ?_, fun e h => by cases h; rfl⟩
    · unfold outE
      rw [List.length_append, List.map_append]
      exact .cons (.there .here) (.nil _)
    · rw [List.length_append]; rfl
  · rw [show eSz n = none from if_neg hn]
    refine TS_seq ?_
    refine TS_region ?_
    refine VS_pure (P_assign rfl) rfl rfl rfl ?_
    refine VS_pure (P_assign rfl) rfl rfl rfl ?_
    refine VS_nil ?_
    refine QS_then ?_
    refine TS_seq ?_
    refine TS_region ?_
    refine VS_pure (P_move rfl) rfl rfl rfl ?_
    refine VS_pure (P_move rfl) rfl rfl rfl ?_
    refine VS_pure (P_shr rfl rfl (by decide) (by decide) rfl) rfl rfl rfl ?_
    refine VS_pure (P_conv_int us3 ik5 rfl rfl) rfl rfl rfl ?_
    refine VS_pure (P_move rfl) rfl rfl rfl ?_
    refine VS_pure (P_conv_int us3 ik5 rfl rfl) rfl rfl rfl ?_
    refine VS_step (S_buildSlice sl22 rfl rfl rfl rfl (fun b1 => ?_)) rfl
    refine VS_step (S_append sl22 rfl rfl rfl rfl (.here) (fun _ _ => (.there (.here))) rfl rfl (by first | omega | (simp only [maxLen]; omega)) (by omega) rfl (fun A1 c1 => ?_)) rfl
    refine VS_pure (P_move rfl) rfl rfl rfl ?_
    refine VS_pure (df (P_leq rfl rfl) (by omega)) rfl rfl rfl ?_
    refine VS_pure (P_assign rfl) rfl rfl rfl ?_
    refine VS_pure (P_assign rfl) rfl rfl rfl ?_
    refine VS_nil ?_
    refine QS_then ?_
    refine TS_ret ?_
    rw [sz_hi, sz_lo]
    refine QS_ret [_, _] ⟨rfl, rfl, trivial⟩ (outE A1 c1 (out ++ sz2 n)) ?_ ⟨A1, c1, out ++ sz2 n, rfl, ?_, fun e h => by cases h⟩
    · unfold outE
      rw [List.length_append, List.map_append]
      exact .cons (.there .here) (.nil _)
    · rw [List.length_append]; rfl
theorem eText_eq (s : List UInt8) : eText s = if s.length ≤ 65535 then some (sz2 s.length ++ s) else none := by
  unfold eText encMany eByte
  rw [encL_some]
  simp
theorem sz2_len (n : Nat) : (sz2 n).length = 2 := rfl
set_option maxHeartbeats 4000000 in
theorem rtext_ok {m : Mp} {s : List UInt8} (hs : s.length ≤ 140737488355328) : GC 26 [sV s] m 549755813888 (eText s) := by
  intro A c out hl
  refine CS_of [.tmp 4, .tmp 5] Try.func26 rfl rfl rfl ?_
  unfold outE
  by_cases hn : s.length ≤ 65535
  · rw [show eText s = some (sz2 s.length ++ s) by rw [eText_eq, if_pos hn]]
    have H : ∀ m', _ := fun m' => rtwo_ok (m := m') (n := s.length) A c out (by omega)
    rw [show eSz s.length = some (sz2 s.length) from if_pos hn] at H
    unfold outE at H
    refine TS_seq ?_
    refine TS_region ?_
    refine VS_pure (P_assign rfl) rfl rfl rfl ?_
    refine VS_pure (P_assign rfl) rfl rfl rfl ?_
    refine VS_nil ?_
    refine QS_then ?_
    refine TS_seq ?_
    refine TS_region ?_
    refine VS_pure (P_move rfl) rfl rfl rfl ?_
    refine VS_pure (P_move rfl) rfl rfl rfl ?_
    refine VS_pure (P_len_str rfl st9) rfl rfl rfl ?_
    refine VS_step ((S_callL cl28 rfl (.cons .here .nil) (fun m' hm he => H m') rfl ?_)) rfl
    rintro _ _ ⟨A1, c1, out1, rfl, rfl, hout⟩
    obtain rfl := hout _ rfl
    refine VS_pure (P_move rfl) rfl rfl rfl ?_
    refine VS_pure (P_extract rfl rfl) rfl rfl rfl ?_
    refine VS_pure (P_extract rfl rfl) rfl rfl rfl ?_
    refine VS_pure (P_assign rfl) rfl rfl rfl ?_
    refine VS_pure (P_assign rfl) rfl rfl rfl ?_
    refine VS_nil ?_
    refine QS_then ?_
    refine TS_seq ?_
    refine TS_seq ?_
    refine TS_region ?_
    refine VS_pure (P_assign rfl) rfl rfl rfl ?_
    refine VS_nil ?_
    refine QS_then ?_
    refine TS_block ?_
    refine TS_loop3 (fun j A c => [(0, .slice A (out ++ sz2 s.length ++ s.take j).length c), (1, sV s), (6, .bool true), (7, .int .i64 (j : Nat))]) (fun j A c => outE A c (out ++ sz2 s.length ++ s.take j)) (fun j => j ≤ s.length) (fun j => s.length - j) 0 A1 c1 ⟨by rw [List.take_zero, List.append_nil]; rfl, rfl, rfl, rfl, trivial⟩ (by simp only [List.take_zero, List.append_nil]; exact Pick.refl _) (Nat.zero_le _) ?_
    intro j A2 c2 hj
    unfold outE
    have hlen : (out ++ sz2 s.length ++ s.take j).length = out.length + 2 + j := by simp [sz2_len]; omega
    by_cases hlt : j < s.length
    · refine TS_seq ?_
      refine TS_seq ?_
      refine TS_region ?_
      refine VS_pure (P_move rfl) rfl rfl rfl ?_
      refine VS_pure (P_move rfl) rfl rfl rfl ?_
      refine VS_pure (P_len_str rfl st9) rfl rfl rfl ?_
      refine VS_pure (dt (P_lss rfl rfl) (by omega)) rfl rfl rfl ?_
      refine VS_pure (P_move rfl) rfl rfl rfl ?_
      refine VS_pure (P_move rfl) rfl rfl rfl ?_
      refine VS_pure (P_pick_t rfl rfl) rfl rfl rfl ?_
      refine VS_nil ?_
      refine QS_then ?_
      refine TS_true rfl ?_
      refine TS_skip ?_
      refine QS_then ?_
      refine TS_seq ?_
      refine TS_block ?_
      refine TS_region ?_
      iterate 3 (refine VS_pure (P_move rfl) rfl rfl rfl ?_)
      refine VS_pure (P_sindexN rfl rfl st9 (by omega)) rfl rfl rfl ?_
      refine VS_step (S_buildSlice sl22 rfl rfl rfl rfl (fun b1 => ?_)) rfl
      refine VS_step (S_append sl22 rfl rfl rfl rfl (.here) (fun _ _ => (.there (.here))) rfl rfl (by first | omega | (simp only [maxLen]; omega)) (by omega) rfl (fun A3 c3 => ?_)) rfl
      refine VS_pure (P_assign rfl) rfl rfl rfl ?_
      refine VS_nil ?_
      refine QS_block ?_
      refine QS_then ?_
      refine TS_region ?_
      refine VS_pure (P_move rfl) rfl rfl rfl ?_
      refine VS_pure (P_add rfl rfl (w64 (by omega) (by omega))) rfl rfl rfl ?_
      refine VS_pure (P_assign rfl) rfl rfl rfl ?_
      refine VS_nil ?_
      have et : s.take (j + 1) = s.take j ++ [s[j]] := by rw [List.take_add_one, List.getElem?_eq_getElem hlt]; rfl
      rw [by_get hlt]
      have hl' : (out ++ sz2 s.length ++ s.take (j + 1)).length = (out ++ sz2 s.length ++ s.take j).length + 1 := by rw [et, ← List.append_assoc]; exact List.length_append
      refine QS_round3 (j + 1) A3 c3 ⟨by rw [hl']; rfl, rfl, rfl, rfl, trivial⟩ ?_ (by omega) (by omega)
      rw [et, ← List.append_assoc, own_app]
      exact .cons (.there .here) (.nil _)
    · refine TS_seq ?_
      refine TS_seq ?_
      refine TS_region ?_
      refine VS_pure (P_move rfl) rfl rfl rfl ?_
      refine VS_pure (P_move rfl) rfl rfl rfl ?_
      refine VS_pure (P_len_str rfl st9) rfl rfl rfl ?_
      refine VS_pure (df (P_lss rfl rfl) (by omega)) rfl rfl rfl ?_
      refine VS_pure (P_move rfl) rfl rfl rfl ?_
      refine VS_skip rfl rfl rfl ?_
      refine VS_pure (P_pick_f rfl rfl) rfl rfl rfl ?_
      refine VS_nil ?_
      refine QS_then ?_
      refine TS_false rfl ?_
      refine TS_exit ?_
      refine QS_then_exit ?_
      refine QS_round3_exit ?_
      refine QS_block_here ?_
      refine QS_then ?_
      refine TS_seq ?_
      refine TS_region ?_
      refine VS_pure (P_move rfl) rfl rfl rfl ?_
      refine VS_pure (P_move rfl) rfl rfl rfl ?_
      refine VS_pure (P_assign rfl) rfl rfl rfl ?_
      refine VS_pure (P_assign rfl) rfl rfl rfl ?_
      refine VS_nil ?_
      refine QS_then ?_
      refine TS_ret ?_
      have e : j = s.length := by omega
      subst e
      rw [List.take_length]
      exact QS_ret [_, _] ⟨rfl, rfl, trivial⟩ (outE A2 c2 (out ++ (sz2 s.length ++ s))) (by rw [← List.append_assoc]; exact Pick.refl _) ⟨A2, c2, out ++ (sz2 s.length ++ s), rfl, by rw [← List.append_assoc]; rfl, fun e h => by cases h; rfl⟩
  · rw [show eText s = none by rw [eText_eq, if_neg hn]]
    have H : ∀ m', _ := fun m' => rtwo_ok (m := m') (n := s.length) A c out (by omega)
    rw [show eSz s.length = none from if_neg hn] at H
    unfold outE at H
    refine TS_seq ?_
    refine TS_region ?_
    refine VS_pure (P_assign rfl) rfl rfl rfl ?_
    refine VS_pure (P_assign rfl) rfl rfl rfl ?_
    refine VS_nil ?_
    refine QS_then ?_
    refine TS_seq ?_
    refine TS_region ?_
    refine VS_pure (P_move rfl) rfl rfl rfl ?_
    refine VS_pure (P_move rfl) rfl rfl rfl ?_
    refine VS_pure (P_len_str rfl st9) rfl rfl rfl ?_
    refine VS_step ((S_callL cl28 rfl (.cons .here .nil) (fun m' hm he => H m') rfl ?_)) rfl
    rintro _ _ ⟨A1, c1, out1, rfl, rfl, _⟩
    refine VS_pure (P_move rfl) rfl rfl rfl ?_
    refine VS_pure (P_extract rfl rfl) rfl rfl rfl ?_
    refine VS_pure (P_extract rfl rfl) rfl rfl rfl ?_
    refine VS_pure (P_assign rfl) rfl rfl rfl ?_
    refine VS_pure (P_assign rfl) rfl rfl rfl ?_
    refine VS_nil ?_
    refine QS_then ?_
    refine TS_seq ?_
    refine TS_seq ?_
    refine TS_region ?_
    refine VS_pure (P_assign rfl) rfl rfl rfl ?_
    refine VS_nil ?_
    refine QS_then ?_
    refine TS_block ?_
    refine TS_loop3 (fun j A c => [(0, .slice A1 out1.length c1), (1, sV s), (6, .bool false), (7, .int .i64 (j : Nat))]) (fun j A c => outE A1 c1 out1) (fun j => j = 0) (fun j => 1 - j) 0 A1 c1 ⟨rfl, rfl, rfl, rfl, trivial⟩ (Pick.refl _) rfl ?_
    rintro j A2 c2 rfl
    unfold outE
    refine TS_seq ?_
    refine TS_seq ?_
    refine TS_region ?_
    refine VS_pure (P_move rfl) rfl rfl rfl ?_
    refine VS_pure (P_move rfl) rfl rfl rfl ?_
    refine VS_pure (P_len_str rfl st9) rfl rfl rfl ?_
    refine VS_pure (dt (P_lss rfl rfl) (by omega)) rfl rfl rfl ?_
    refine VS_pure (P_move rfl) rfl rfl rfl ?_
    refine VS_pure (P_move rfl) rfl rfl rfl ?_
    refine VS_pure (P_pick_t rfl rfl) rfl rfl rfl ?_
    refine VS_nil ?_
    refine QS_then ?_
    refine TS_false rfl ?_
    refine TS_exit ?_
    refine QS_then_exit ?_
    refine QS_round3_exit ?_
    refine QS_block_here ?_
    refine QS_then ?_
    refine TS_seq ?_
    refine TS_region ?_
    refine VS_pure (P_move rfl) rfl rfl rfl ?_
    refine VS_pure (P_move rfl) rfl rfl rfl ?_
    refine VS_pure (P_assign rfl) rfl rfl rfl ?_
    refine VS_pure (P_assign rfl) rfl rfl rfl ?_
    refine VS_nil ?_
    refine QS_then ?_
    refine TS_ret ?_
    exact QS_ret [_, _] ⟨rfl, rfl, trivial⟩ (outE A1 c1 out1) (Pick.refl _) ⟨A1, c1, out1, rfl, rfl, fun e h => by cases h⟩
end Go.Proofs.Ytbpihgphicmdiaa
