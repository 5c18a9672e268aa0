/- A part of the proof: contracts of functions of the program. No condition. -/
import Derived.Test.YtccleakfgmcjpaaDoorDkH
import Derived.Lib.ItoaLen
namespace Go.Proofs.YtccleakfgmcjpaaDoor
open Go.Eng Dk
set_option maxRecDepth 100000
theorem rea_row (rs : List Rea) (i : Nat) (hi : i < rs.length) : ((rs.flatMap reaC).drop (i * 3)).take 3 = reaC rs[i] := by
  induction rs generalizing i with
  | nil => cases hi
  | cons x r ih =>
    cases i with
    | zero => simp [reaC]
    | succ j =>
      have := ih j (by simpa using hi)
      rw [List.flatMap_cons, show (j + 1) * 3 = (reaC x).length + j * 3 by simp [reaC]; omega, List.drop_append, List.drop_of_length_le (by omega), Nat.add_sub_cancel_left]
      simpa using this
theorem Join_tx {m : Mp} {A : Option Addr} {c : Nat} {rs : List Rea} (ho : (own 9 1 A rs.length c ((rs.map (partR Lib.itoa)).map sV)).inv m) (hl : (Lib.join (rs.map (partR Lib.itoa)) sep2).length ≤ 140737488355328) (hn : rs.length ≤ 4000) : CS Tryd.prog 31 [.slice A rs.length c, sV sep2] m [] (Gives (sV (Lib.join (rs.map (partR Lib.itoa)) sep2))) := by
  have h1 := Eng.Own.rd ho
  have h2 : rs.length ≤ c := ho.2.1
  have := Join_ok (c := c) (sep := sep2) h1 (by rw [List.length_map]; exact h2) hl (by rw [List.length_map]; omega)
  rw [List.length_map] at this
  exact this
theorem flatMap_len (rs : List Rea) : (rs.flatMap reaC).length = rs.length * 3 := by
  induction rs with
  | nil => rfl
  | cons x l ih => rw [List.flatMap_cons, List.length_append, ih, List.length_cons]; show 3 + _ = _; omega
set_option maxHeartbeats 16000000 in
theorem Text_ok {m : Mp} (hT : Tabs m) {A : Option Addr} {c : Nat} {rs : List Rea} (hr : Rd m A (rs.flatMap reaC)) (hn : rs.length ≤ 4000) (hR : ∀ r ∈ rs, In8 r.why ∧ (-9223372036854775808 ≤ r.n ∧ r.n ≤ 9223372036854775807) ∧ r.name.length ≤ 140737488355328) (hl : (Lib.join (rs.map (partR Lib.itoa)) sep2).length ≤ 140737488355328) :
    CS Tryd.prog 12 [.slice A rs.length c] m [] (Gives (sV (Lib.join (rs.map (partR Lib.itoa)) sep2))) := by
  refine CS_of [.tmp 2] Tryd.func12 rfl rfl rfl ?_
  refine TS_seq ?_
  refine TS_region ?_
  refine VS_pure (P_assign rfl) rfl rfl rfl ?_
  refine VS_nil ?_
  refine QS_then ?_
  refine TS_seq ?_
  refine TS_region ?_
  refine VS_pure (P_buildArr ar64 zl64 rfl rfl) rfl rfl rfl ?_
  refine VS_step (S_alloc zl64 rfl (fun b1 => ?_)) rfl
  refine VS_step (S_storeAgg ag64 rfl rfl rfl (.here) rfl rfl ?_) rfl
  refine VS_nil ?_
  refine QS_then ?_
  refine TS_seq ?_
  refine TS_region ?_
  refine VS_pure (P_assign rfl) rfl rfl rfl ?_
  refine VS_nil ?_
  refine QS_then ?_
  refine TS_seq ?_
  refine TS_seq ?_
  refine TS_region ?_
  refine VS_pure (P_move rfl) rfl rfl rfl ?_
  refine VS_pure (P_len il27 rfl) rfl rfl rfl ?_
  refine VS_pure (P_move rfl) rfl rfl rfl ?_
  refine VS_nil ?_
  refine QS_then ?_
  refine TS_block ?_
  refine TS_nilOwn 9 1 ?_
  refine TS_loop4 (β := Unit) (fun i A' c' _ => [(3, .pointer (some ⟨b1, 0, none⟩)), (4, .slice A' i c'), (9, .slice A rs.length c), (10, .int .i64 (rs.length : Nat)), (11, .int .i64 (i : Nat))]) (fun i A' c' _ => [cel b1 [sV [], sV w1, sV w2, sV w3, sV w4, sV w5, sV w6] 64, own 9 1 A' i c' (((rs.take i).map (partR Lib.itoa)).map sV)]) (fun i _ => i ≤ rs.length) (fun i => rs.length - i) 0 none 0 () ⟨rfl, rfl, rfl, rfl, rfl, trivial⟩ (.cons (.there .here) (.cons .here (.nil _))) (Nat.zero_le _) ?_
  rintro i A' c' - hi
  by_cases hlt : i < rs.length
  · have hA : A.isSome = true := hr.isSome (by rw [flatMap_len]; omega)
    have hat := hr.elem (i * 3) 3
    rw [rea_row rs i hlt] at hat
    obtain ⟨h8, ⟨hn0, hn1⟩, hnl⟩ := hR rs[i] (List.getElem_mem hlt)
    have hnext : (((rs.take (i + 1)).map (partR Lib.itoa)).map sV) = (((rs.take i).map (partR Lib.itoa)).map sV) ++ [sV (partR Lib.itoa rs[i])] := by
      rw [List.take_add_one, List.getElem?_eq_getElem hlt, Option.toList_some, List.map_append, List.map_append]
      rfl
    generalize rs[i] = r at hat h8 hn0 hn1 hnl hnext
    obtain ⟨w, nm, k⟩ := r
    dsimp only [reaC] at hat h8 hn0 hn1 hnl hnext
    have hik := Lib.itoa_length_le k hn0 hn1
    unfold In8 at h8
    by_cases g1 : w = 1
    · subst g1
      have hwl : w1.length = 7 := rfl
      refine TS_seq ?_
      refine TS_region ?_
      refine VS_pure (dt (P_lss rfl rfl) (by omega)) rfl rfl rfl ?_
      refine VS_nil ?_
      refine QS_then ?_
      refine TS_seq ?_
      refine TS_true rfl ?_
      refine TS_skip ?_
      refine QS_then ?_
      refine TS_seq ?_
      refine TS_block ?_
      refine TS_seq ?_
      refine TS_region ?_
      refine VS_pure (P_indexAddrN ez27 rfl rfl hA (by omega)) rfl rfl rfl ?_
      refine VS_read (S_loadAt ag38 rfl rfl hat) rfl rfl rfl ?_
      refine VS_step (S_alloc zl38 rfl (fun b2 => ?_)) rfl
      refine VS_step (S_storeAgg ag38 rfl rfl rfl (.here) rfl rfl ?_) rfl
      refine VS_nil ?_
      refine QS_then ?_
      refine TS_seq ?_
      refine TS_region ?_
      refine VS_pure (P_assign rfl) rfl rfl rfl ?_
      refine VS_nil ?_
      refine QS_then ?_
      refine TS_seq ?_
      refine TS_seq ?_
      refine TS_region ?_
      refine VS_pure (P_fieldAddr0 fo38_0 rfl) rfl rfl rfl ?_
      refine VS_read (S_loadB sg36 rfl (.here) rfl) rfl rfl rfl ?_
      refine VS_pure (dt (P_geq rfl rfl) (by omega)) rfl rfl rfl ?_
      refine VS_pure (P_move rfl) rfl rfl rfl ?_
      refine VS_pure (P_fieldAddr0 fo38_0 rfl) rfl rfl rfl ?_
      refine VS_read (S_loadB sg36 rfl (.here) rfl) rfl rfl rfl ?_
      refine VS_pure (P_conv_int us36 ik3 rfl (w64 (by omega) (by omega))) rfl rfl rfl ?_
      refine VS_pure (dt (P_lss rfl rfl) (by omega)) rfl rfl rfl ?_
      refine VS_pure (P_pick_t rfl rfl) rfl rfl rfl ?_
      refine VS_nil ?_
      refine QS_then ?_
      refine TS_true rfl ?_
      refine TS_seq ?_
      refine TS_region ?_
      refine VS_pure (P_fieldAddr0 fo38_0 rfl) rfl rfl rfl ?_
      refine VS_read (S_loadB sg36 rfl (.here) rfl) rfl rfl rfl ?_
      refine VS_pure (P_indexAddrArr ar64 rfl rfl (by omega) (by omega)) rfl rfl rfl ?_
      refine VS_read (S_loadB (b := b1) (i := 1) (l := [sV [], sV w1, sV w2, sV w3, sV w4, sV w5, sV w6]) sg9 rfl (.there .here) rfl) rfl rfl rfl ?_
      refine VS_pure (P_sadd rfl rfl (by simp <;> omega)) rfl rfl rfl ?_
      refine VS_pure (P_assign rfl) rfl rfl rfl ?_
      refine VS_nil ?_
      refine QS_then ?_
      refine TS_seq ?_
      refine TS_seq ?_
      refine TS_region ?_
      refine VS_pure (P_fieldAddr0 fo38_0 rfl) rfl rfl rfl ?_
      refine VS_read (S_loadB sg36 rfl (.here) rfl) rfl rfl rfl ?_
      refine VS_pure (df (P_gtr rfl rfl) (by omega)) rfl rfl rfl ?_
      refine VS_nil ?_
      refine QS_then ?_
      refine TS_false rfl ?_
      refine TS_skip ?_
      refine QS_then ?_
      refine TS_region ?_
      refine VS_pure (P_move rfl) rfl rfl rfl ?_
      refine VS_pure (P_fieldAddr0 fo38_2 rfl) rfl rfl rfl ?_
      refine VS_read (S_loadB sg3 rfl (.here) rfl) rfl rfl rfl ?_
      refine VS_step (S_callR cl30 rfl (fun m' hm he => (Itoa_ok (hT.mono hm) hn0 hn1)) rfl ?_) rfl
      rintro _ rfl
      refine VS_pure (P_sadd rfl rfl (by simp <;> omega)) rfl rfl rfl ?_
      refine VS_pure (P_assign rfl) rfl rfl rfl ?_
      refine VS_nil ?_
      refine QS_then ?_
      refine TS_region ?_
      refine VS_pure (P_move rfl) rfl rfl rfl ?_
      refine VS_pure (P_move rfl) rfl rfl rfl ?_
      refine VS_step (S_buildSlice sl26 rfl rfl rfl rfl (fun b3 => ?_)) rfl
      refine VS_step (S_append sl26 rfl rfl rfl rfl (.here) (fun _ _ => (.there (.there (.there (.here))))) rfl rfl (by first | omega | (simp only [maxLen]; omega)) (by omega) rfl (fun A1 c1 => ?_)) rfl
      refine VS_pure (P_assign rfl) rfl rfl rfl ?_
      refine VS_nil ?_
      refine QS_block ?_
      refine QS_then ?_
      refine TS_region ?_
      refine VS_pure (P_add rfl rfl (w64 (by omega) (by omega))) rfl rfl rfl ?_
      refine VS_pure (P_move rfl) rfl rfl rfl ?_
      refine VS_nil ?_
      have hp : partR Lib.itoa ⟨1, nm, k⟩ = w1 ++ colon ++ Lib.itoa k := rfl
      rw [hp] at hnext
      refine QS_round4 (Le.refl _) (i + 1) A1 c1 () ⟨rfl, rfl, rfl, rfl, rfl, trivial⟩ ?_ hlt (by omega)
      rw [hnext]
      exact .cons (.there (.there .here)) (.cons (.there (.there .here)) (.nil _))
    by_cases g2 : w = 2
    · subst g2
      have hwl : w2.length = 8 := rfl
      refine TS_seq ?_
      refine TS_region ?_
      refine VS_pure (dt (P_lss rfl rfl) (by omega)) rfl rfl rfl ?_
      refine VS_nil ?_
      refine QS_then ?_
      refine TS_seq ?_
      refine TS_true rfl ?_
      refine TS_skip ?_
      refine QS_then ?_
      refine TS_seq ?_
      refine TS_block ?_
      refine TS_seq ?_
      refine TS_region ?_
      refine VS_pure (P_indexAddrN ez27 rfl rfl hA (by omega)) rfl rfl rfl ?_
      refine VS_read (S_loadAt ag38 rfl rfl hat) rfl rfl rfl ?_
      refine VS_step (S_alloc zl38 rfl (fun b2 => ?_)) rfl
      refine VS_step (S_storeAgg ag38 rfl rfl rfl (.here) rfl rfl ?_) rfl
      refine VS_nil ?_
      refine QS_then ?_
      refine TS_seq ?_
      refine TS_region ?_
      refine VS_pure (P_assign rfl) rfl rfl rfl ?_
      refine VS_nil ?_
      refine QS_then ?_
      refine TS_seq ?_
      refine TS_seq ?_
      refine TS_region ?_
      refine VS_pure (P_fieldAddr0 fo38_0 rfl) rfl rfl rfl ?_
      refine VS_read (S_loadB sg36 rfl (.here) rfl) rfl rfl rfl ?_
      refine VS_pure (dt (P_geq rfl rfl) (by omega)) rfl rfl rfl ?_
      refine VS_pure (P_move rfl) rfl rfl rfl ?_
      refine VS_pure (P_fieldAddr0 fo38_0 rfl) rfl rfl rfl ?_
      refine VS_read (S_loadB sg36 rfl (.here) rfl) rfl rfl rfl ?_
      refine VS_pure (P_conv_int us36 ik3 rfl (w64 (by omega) (by omega))) rfl rfl rfl ?_
      refine VS_pure (dt (P_lss rfl rfl) (by omega)) rfl rfl rfl ?_
      refine VS_pure (P_pick_t rfl rfl) rfl rfl rfl ?_
      refine VS_nil ?_
      refine QS_then ?_
      refine TS_true rfl ?_
      refine TS_seq ?_
      refine TS_region ?_
      refine VS_pure (P_fieldAddr0 fo38_0 rfl) rfl rfl rfl ?_
      refine VS_read (S_loadB sg36 rfl (.here) rfl) rfl rfl rfl ?_
      refine VS_pure (P_indexAddrArr ar64 rfl rfl (by omega) (by omega)) rfl rfl rfl ?_
      refine VS_read (S_loadB (b := b1) (i := 2) (l := [sV [], sV w1, sV w2, sV w3, sV w4, sV w5, sV w6]) sg9 rfl (.there .here) rfl) rfl rfl rfl ?_
      refine VS_pure (P_sadd rfl rfl (by simp <;> omega)) rfl rfl rfl ?_
      refine VS_pure (P_assign rfl) rfl rfl rfl ?_
      refine VS_nil ?_
      refine QS_then ?_
      refine TS_seq ?_
      refine TS_seq ?_
      refine TS_region ?_
      refine VS_pure (P_fieldAddr0 fo38_0 rfl) rfl rfl rfl ?_
      refine VS_read (S_loadB sg36 rfl (.here) rfl) rfl rfl rfl ?_
      refine VS_pure (df (P_gtr rfl rfl) (by omega)) rfl rfl rfl ?_
      refine VS_nil ?_
      refine QS_then ?_
      refine TS_false rfl ?_
      refine TS_skip ?_
      refine QS_then ?_
      refine TS_region ?_
      refine VS_pure (P_move rfl) rfl rfl rfl ?_
      refine VS_pure (P_fieldAddr0 fo38_2 rfl) rfl rfl rfl ?_
      refine VS_read (S_loadB sg3 rfl (.here) rfl) rfl rfl rfl ?_
      refine VS_step (S_callR cl30 rfl (fun m' hm he => (Itoa_ok (hT.mono hm) hn0 hn1)) rfl ?_) rfl
      rintro _ rfl
      refine VS_pure (P_sadd rfl rfl (by simp <;> omega)) rfl rfl rfl ?_
      refine VS_pure (P_assign rfl) rfl rfl rfl ?_
      refine VS_nil ?_
      refine QS_then ?_
      refine TS_region ?_
      refine VS_pure (P_move rfl) rfl rfl rfl ?_
      refine VS_pure (P_move rfl) rfl rfl rfl ?_
      refine VS_step (S_buildSlice sl26 rfl rfl rfl rfl (fun b3 => ?_)) rfl
      refine VS_step (S_append sl26 rfl rfl rfl rfl (.here) (fun _ _ => (.there (.there (.there (.here))))) rfl rfl (by first | omega | (simp only [maxLen]; omega)) (by omega) rfl (fun A1 c1 => ?_)) rfl
      refine VS_pure (P_assign rfl) rfl rfl rfl ?_
      refine VS_nil ?_
      refine QS_block ?_
      refine QS_then ?_
      refine TS_region ?_
      refine VS_pure (P_add rfl rfl (w64 (by omega) (by omega))) rfl rfl rfl ?_
      refine VS_pure (P_move rfl) rfl rfl rfl ?_
      refine VS_nil ?_
      have hp : partR Lib.itoa ⟨2, nm, k⟩ = w2 ++ colon ++ Lib.itoa k := rfl
      rw [hp] at hnext
      refine QS_round4 (Le.refl _) (i + 1) A1 c1 () ⟨rfl, rfl, rfl, rfl, rfl, trivial⟩ ?_ hlt (by omega)
      rw [hnext]
      exact .cons (.there (.there .here)) (.cons (.there (.there .here)) (.nil _))
    by_cases g3 : w = 3
    · subst g3
      have hwl : w3.length = 7 := rfl
      refine TS_seq ?_
      refine TS_region ?_
      refine VS_pure (dt (P_lss rfl rfl) (by omega)) rfl rfl rfl ?_
      refine VS_nil ?_
      refine QS_then ?_
      refine TS_seq ?_
      refine TS_true rfl ?_
      refine TS_skip ?_
      refine QS_then ?_
      refine TS_seq ?_
      refine TS_block ?_
      refine TS_seq ?_
      refine TS_region ?_
      refine VS_pure (P_indexAddrN ez27 rfl rfl hA (by omega)) rfl rfl rfl ?_
      refine VS_read (S_loadAt ag38 rfl rfl hat) rfl rfl rfl ?_
      refine VS_step (S_alloc zl38 rfl (fun b2 => ?_)) rfl
      refine VS_step (S_storeAgg ag38 rfl rfl rfl (.here) rfl rfl ?_) rfl
      refine VS_nil ?_
      refine QS_then ?_
      refine TS_seq ?_
      refine TS_region ?_
      refine VS_pure (P_assign rfl) rfl rfl rfl ?_
      refine VS_nil ?_
      refine QS_then ?_
      refine TS_seq ?_
      refine TS_seq ?_
      refine TS_region ?_
      refine VS_pure (P_fieldAddr0 fo38_0 rfl) rfl rfl rfl ?_
      refine VS_read (S_loadB sg36 rfl (.here) rfl) rfl rfl rfl ?_
      refine VS_pure (dt (P_geq rfl rfl) (by omega)) rfl rfl rfl ?_
      refine VS_pure (P_move rfl) rfl rfl rfl ?_
      refine VS_pure (P_fieldAddr0 fo38_0 rfl) rfl rfl rfl ?_
      refine VS_read (S_loadB sg36 rfl (.here) rfl) rfl rfl rfl ?_
      refine VS_pure (P_conv_int us36 ik3 rfl (w64 (by omega) (by omega))) rfl rfl rfl ?_
      refine VS_pure (dt (P_lss rfl rfl) (by omega)) rfl rfl rfl ?_
      refine VS_pure (P_pick_t rfl rfl) rfl rfl rfl ?_
      refine VS_nil ?_
      refine QS_then ?_
      refine TS_true rfl ?_
      refine TS_seq ?_
      refine TS_region ?_
      refine VS_pure (P_fieldAddr0 fo38_0 rfl) rfl rfl rfl ?_
      refine VS_read (S_loadB sg36 rfl (.here) rfl) rfl rfl rfl ?_
      refine VS_pure (P_indexAddrArr ar64 rfl rfl (by omega) (by omega)) rfl rfl rfl ?_
      refine VS_read (S_loadB (b := b1) (i := 3) (l := [sV [], sV w1, sV w2, sV w3, sV w4, sV w5, sV w6]) sg9 rfl (.there .here) rfl) rfl rfl rfl ?_
      refine VS_pure (P_sadd rfl rfl (by simp <;> omega)) rfl rfl rfl ?_
      refine VS_pure (P_assign rfl) rfl rfl rfl ?_
      refine VS_nil ?_
      refine QS_then ?_
      refine TS_seq ?_
      refine TS_seq ?_
      refine TS_region ?_
      refine VS_pure (P_fieldAddr0 fo38_0 rfl) rfl rfl rfl ?_
      refine VS_read (S_loadB sg36 rfl (.here) rfl) rfl rfl rfl ?_
      refine VS_pure (dt (P_gtr rfl rfl) (by omega)) rfl rfl rfl ?_
      refine VS_nil ?_
      refine QS_then ?_
      refine TS_true rfl ?_
      refine TS_region ?_
      refine VS_pure (P_move rfl) rfl rfl rfl ?_
      refine VS_pure (P_fieldAddr0 fo38_1 rfl) rfl rfl rfl ?_
      refine VS_read (S_loadB sg9 rfl (.here) rfl) rfl rfl rfl ?_
      refine VS_pure (P_sadd rfl rfl (by simp <;> omega)) rfl rfl rfl ?_
      refine VS_pure (P_sadd rfl rfl (by simp <;> omega)) rfl rfl rfl ?_
      refine VS_pure (P_assign rfl) rfl rfl rfl ?_
      refine VS_nil ?_
      refine QS_then ?_
      refine TS_region ?_
      refine VS_pure (P_move rfl) rfl rfl rfl ?_
      refine VS_pure (P_fieldAddr0 fo38_2 rfl) rfl rfl rfl ?_
      refine VS_read (S_loadB sg3 rfl (.here) rfl) rfl rfl rfl ?_
      refine VS_step (S_callR cl30 rfl (fun m' hm he => (Itoa_ok (hT.mono hm) hn0 hn1)) rfl ?_) rfl
      rintro _ rfl
      refine VS_pure (P_sadd rfl rfl (by simp <;> omega)) rfl rfl rfl ?_
      refine VS_pure (P_assign rfl) rfl rfl rfl ?_
      refine VS_nil ?_
      refine QS_then ?_
      refine TS_region ?_
      refine VS_pure (P_move rfl) rfl rfl rfl ?_
      refine VS_pure (P_move rfl) rfl rfl rfl ?_
      refine VS_step (S_buildSlice sl26 rfl rfl rfl rfl (fun b3 => ?_)) rfl
      refine VS_step (S_append sl26 rfl rfl rfl rfl (.here) (fun _ _ => (.there (.there (.there (.here))))) rfl rfl (by first | omega | (simp only [maxLen]; omega)) (by omega) rfl (fun A1 c1 => ?_)) rfl
      refine VS_pure (P_assign rfl) rfl rfl rfl ?_
      refine VS_nil ?_
      refine QS_block ?_
      refine QS_then ?_
      refine TS_region ?_
      refine VS_pure (P_add rfl rfl (w64 (by omega) (by omega))) rfl rfl rfl ?_
      refine VS_pure (P_move rfl) rfl rfl rfl ?_
      refine VS_nil ?_
      have hp : partR Lib.itoa ⟨3, nm, k⟩ = w3 ++ colon ++ (nm ++ spx) ++ Lib.itoa k := rfl
      rw [hp] at hnext
      refine QS_round4 (Le.refl _) (i + 1) A1 c1 () ⟨rfl, rfl, rfl, rfl, rfl, trivial⟩ ?_ hlt (by omega)
      rw [hnext]
      exact .cons (.there (.there .here)) (.cons (.there (.there .here)) (.nil _))
    by_cases g4 : w = 4
    · subst g4
      have hwl : w4.length = 6 := rfl
      refine TS_seq ?_
      refine TS_region ?_
      refine VS_pure (dt (P_lss rfl rfl) (by omega)) rfl rfl rfl ?_
      refine VS_nil ?_
      refine QS_then ?_
      refine TS_seq ?_
      refine TS_true rfl ?_
      refine TS_skip ?_
      refine QS_then ?_
      refine TS_seq ?_
      refine TS_block ?_
      refine TS_seq ?_
      refine TS_region ?_
      refine VS_pure (P_indexAddrN ez27 rfl rfl hA (by omega)) rfl rfl rfl ?_
      refine VS_read (S_loadAt ag38 rfl rfl hat) rfl rfl rfl ?_
      refine VS_step (S_alloc zl38 rfl (fun b2 => ?_)) rfl
      refine VS_step (S_storeAgg ag38 rfl rfl rfl (.here) rfl rfl ?_) rfl
      refine VS_nil ?_
      refine QS_then ?_
      refine TS_seq ?_
      refine TS_region ?_
      refine VS_pure (P_assign rfl) rfl rfl rfl ?_
      refine VS_nil ?_
      refine QS_then ?_
      refine TS_seq ?_
      refine TS_seq ?_
      refine TS_region ?_
      refine VS_pure (P_fieldAddr0 fo38_0 rfl) rfl rfl rfl ?_
      refine VS_read (S_loadB sg36 rfl (.here) rfl) rfl rfl rfl ?_
      refine VS_pure (dt (P_geq rfl rfl) (by omega)) rfl rfl rfl ?_
      refine VS_pure (P_move rfl) rfl rfl rfl ?_
      refine VS_pure (P_fieldAddr0 fo38_0 rfl) rfl rfl rfl ?_
      refine VS_read (S_loadB sg36 rfl (.here) rfl) rfl rfl rfl ?_
      refine VS_pure (P_conv_int us36 ik3 rfl (w64 (by omega) (by omega))) rfl rfl rfl ?_
      refine VS_pure (dt (P_lss rfl rfl) (by omega)) rfl rfl rfl ?_
      refine VS_pure (P_pick_t rfl rfl) rfl rfl rfl ?_
      refine VS_nil ?_
      refine QS_then ?_
      refine TS_true rfl ?_
      refine TS_seq ?_
      refine TS_region ?_
      refine VS_pure (P_fieldAddr0 fo38_0 rfl) rfl rfl rfl ?_
      refine VS_read (S_loadB sg36 rfl (.here) rfl) rfl rfl rfl ?_
      refine VS_pure (P_indexAddrArr ar64 rfl rfl (by omega) (by omega)) rfl rfl rfl ?_
      refine VS_read (S_loadB (b := b1) (i := 4) (l := [sV [], sV w1, sV w2, sV w3, sV w4, sV w5, sV w6]) sg9 rfl (.there .here) rfl) rfl rfl rfl ?_
      refine VS_pure (P_sadd rfl rfl (by simp <;> omega)) rfl rfl rfl ?_
      refine VS_pure (P_assign rfl) rfl rfl rfl ?_
      refine VS_nil ?_
      refine QS_then ?_
      refine TS_seq ?_
      refine TS_seq ?_
      refine TS_region ?_
      refine VS_pure (P_fieldAddr0 fo38_0 rfl) rfl rfl rfl ?_
      refine VS_read (S_loadB sg36 rfl (.here) rfl) rfl rfl rfl ?_
      refine VS_pure (dt (P_gtr rfl rfl) (by omega)) rfl rfl rfl ?_
      refine VS_nil ?_
      refine QS_then ?_
      refine TS_true rfl ?_
      refine TS_region ?_
      refine VS_pure (P_move rfl) rfl rfl rfl ?_
      refine VS_pure (P_fieldAddr0 fo38_1 rfl) rfl rfl rfl ?_
      refine VS_read (S_loadB sg9 rfl (.here) rfl) rfl rfl rfl ?_
      refine VS_pure (P_sadd rfl rfl (by simp <;> omega)) rfl rfl rfl ?_
      refine VS_pure (P_sadd rfl rfl (by simp <;> omega)) rfl rfl rfl ?_
      refine VS_pure (P_assign rfl) rfl rfl rfl ?_
      refine VS_nil ?_
      refine QS_then ?_
      refine TS_region ?_
      refine VS_pure (P_move rfl) rfl rfl rfl ?_
      refine VS_pure (P_fieldAddr0 fo38_2 rfl) rfl rfl rfl ?_
      refine VS_read (S_loadB sg3 rfl (.here) rfl) rfl rfl rfl ?_
      refine VS_step (S_callR cl30 rfl (fun m' hm he => (Itoa_ok (hT.mono hm) hn0 hn1)) rfl ?_) rfl
      rintro _ rfl
      refine VS_pure (P_sadd rfl rfl (by simp <;> omega)) rfl rfl rfl ?_
      refine VS_pure (P_assign rfl) rfl rfl rfl ?_
      refine VS_nil ?_
      refine QS_then ?_
      refine TS_region ?_
      refine VS_pure (P_move rfl) rfl rfl rfl ?_
      refine VS_pure (P_move rfl) rfl rfl rfl ?_
      refine VS_step (S_buildSlice sl26 rfl rfl rfl rfl (fun b3 => ?_)) rfl
      refine VS_step (S_append sl26 rfl rfl rfl rfl (.here) (fun _ _ => (.there (.there (.there (.here))))) rfl rfl (by first | omega | (simp only [maxLen]; omega)) (by omega) rfl (fun A1 c1 => ?_)) rfl
      refine VS_pure (P_assign rfl) rfl rfl rfl ?_
      refine VS_nil ?_
      refine QS_block ?_
      refine QS_then ?_
      refine TS_region ?_
      refine VS_pure (P_add rfl rfl (w64 (by omega) (by omega))) rfl rfl rfl ?_
      refine VS_pure (P_move rfl) rfl rfl rfl ?_
      refine VS_nil ?_
      have hp : partR Lib.itoa ⟨4, nm, k⟩ = w4 ++ colon ++ (nm ++ spx) ++ Lib.itoa k := rfl
      rw [hp] at hnext
      refine QS_round4 (Le.refl _) (i + 1) A1 c1 () ⟨rfl, rfl, rfl, rfl, rfl, trivial⟩ ?_ hlt (by omega)
      rw [hnext]
      exact .cons (.there (.there .here)) (.cons (.there (.there .here)) (.nil _))
    by_cases g5 : w = 5
    · subst g5
      have hwl : w5.length = 6 := rfl
      refine TS_seq ?_
      refine TS_region ?_
      refine VS_pure (dt (P_lss rfl rfl) (by omega)) rfl rfl rfl ?_
      refine VS_nil ?_
      refine QS_then ?_
      refine TS_seq ?_
      refine TS_true rfl ?_
      refine TS_skip ?_
      refine QS_then ?_
      refine TS_seq ?_
      refine TS_block ?_
      refine TS_seq ?_
      refine TS_region ?_
      refine VS_pure (P_indexAddrN ez27 rfl rfl hA (by omega)) rfl rfl rfl ?_
      refine VS_read (S_loadAt ag38 rfl rfl hat) rfl rfl rfl ?_
      refine VS_step (S_alloc zl38 rfl (fun b2 => ?_)) rfl
      refine VS_step (S_storeAgg ag38 rfl rfl rfl (.here) rfl rfl ?_) rfl
      refine VS_nil ?_
      refine QS_then ?_
      refine TS_seq ?_
      refine TS_region ?_
      refine VS_pure (P_assign rfl) rfl rfl rfl ?_
      refine VS_nil ?_
      refine QS_then ?_
      refine TS_seq ?_
      refine TS_seq ?_
      refine TS_region ?_
      refine VS_pure (P_fieldAddr0 fo38_0 rfl) rfl rfl rfl ?_
      refine VS_read (S_loadB sg36 rfl (.here) rfl) rfl rfl rfl ?_
      refine VS_pure (dt (P_geq rfl rfl) (by omega)) rfl rfl rfl ?_
      refine VS_pure (P_move rfl) rfl rfl rfl ?_
      refine VS_pure (P_fieldAddr0 fo38_0 rfl) rfl rfl rfl ?_
      refine VS_read (S_loadB sg36 rfl (.here) rfl) rfl rfl rfl ?_
      refine VS_pure (P_conv_int us36 ik3 rfl (w64 (by omega) (by omega))) rfl rfl rfl ?_
      refine VS_pure (dt (P_lss rfl rfl) (by omega)) rfl rfl rfl ?_
      refine VS_pure (P_pick_t rfl rfl) rfl rfl rfl ?_
      refine VS_nil ?_
      refine QS_then ?_
      refine TS_true rfl ?_
      refine TS_seq ?_
      refine TS_region ?_
      refine VS_pure (P_fieldAddr0 fo38_0 rfl) rfl rfl rfl ?_
      refine VS_read (S_loadB sg36 rfl (.here) rfl) rfl rfl rfl ?_
      refine VS_pure (P_indexAddrArr ar64 rfl rfl (by omega) (by omega)) rfl rfl rfl ?_
      refine VS_read (S_loadB (b := b1) (i := 5) (l := [sV [], sV w1, sV w2, sV w3, sV w4, sV w5, sV w6]) sg9 rfl (.there .here) rfl) rfl rfl rfl ?_
      refine VS_pure (P_sadd rfl rfl (by simp <;> omega)) rfl rfl rfl ?_
      refine VS_pure (P_assign rfl) rfl rfl rfl ?_
      refine VS_nil ?_
      refine QS_then ?_
      refine TS_seq ?_
      refine TS_seq ?_
      refine TS_region ?_
      refine VS_pure (P_fieldAddr0 fo38_0 rfl) rfl rfl rfl ?_
      refine VS_read (S_loadB sg36 rfl (.here) rfl) rfl rfl rfl ?_
      refine VS_pure (dt (P_gtr rfl rfl) (by omega)) rfl rfl rfl ?_
      refine VS_nil ?_
      refine QS_then ?_
      refine TS_true rfl ?_
      refine TS_region ?_
      refine VS_pure (P_move rfl) rfl rfl rfl ?_
      refine VS_pure (P_fieldAddr0 fo38_1 rfl) rfl rfl rfl ?_
      refine VS_read (S_loadB sg9 rfl (.here) rfl) rfl rfl rfl ?_
      refine VS_pure (P_sadd rfl rfl (by simp <;> omega)) rfl rfl rfl ?_
      refine VS_pure (P_sadd rfl rfl (by simp <;> omega)) rfl rfl rfl ?_
      refine VS_pure (P_assign rfl) rfl rfl rfl ?_
      refine VS_nil ?_
      refine QS_then ?_
      refine TS_region ?_
      refine VS_pure (P_move rfl) rfl rfl rfl ?_
      refine VS_pure (P_fieldAddr0 fo38_2 rfl) rfl rfl rfl ?_
      refine VS_read (S_loadB sg3 rfl (.here) rfl) rfl rfl rfl ?_
      refine VS_step (S_callR cl30 rfl (fun m' hm he => (Itoa_ok (hT.mono hm) hn0 hn1)) rfl ?_) rfl
      rintro _ rfl
      refine VS_pure (P_sadd rfl rfl (by simp <;> omega)) rfl rfl rfl ?_
      refine VS_pure (P_assign rfl) rfl rfl rfl ?_
      refine VS_nil ?_
      refine QS_then ?_
      refine TS_region ?_
      refine VS_pure (P_move rfl) rfl rfl rfl ?_
      refine VS_pure (P_move rfl) rfl rfl rfl ?_
      refine VS_step (S_buildSlice sl26 rfl rfl rfl rfl (fun b3 => ?_)) rfl
      refine VS_step (S_append sl26 rfl rfl rfl rfl (.here) (fun _ _ => (.there (.there (.there (.here))))) rfl rfl (by first | omega | (simp only [maxLen]; omega)) (by omega) rfl (fun A1 c1 => ?_)) rfl
      refine VS_pure (P_assign rfl) rfl rfl rfl ?_
      refine VS_nil ?_
      refine QS_block ?_
      refine QS_then ?_
      refine TS_region ?_
      refine VS_pure (P_add rfl rfl (w64 (by omega) (by omega))) rfl rfl rfl ?_
      refine VS_pure (P_move rfl) rfl rfl rfl ?_
      refine VS_nil ?_
      have hp : partR Lib.itoa ⟨5, nm, k⟩ = w5 ++ colon ++ (nm ++ spx) ++ Lib.itoa k := rfl
      rw [hp] at hnext
      refine QS_round4 (Le.refl _) (i + 1) A1 c1 () ⟨rfl, rfl, rfl, rfl, rfl, trivial⟩ ?_ hlt (by omega)
      rw [hnext]
      exact .cons (.there (.there .here)) (.cons (.there (.there .here)) (.nil _))
    by_cases g6 : w = 6
    · subst g6
      have hwl : w6.length = 6 := rfl
      refine TS_seq ?_
      refine TS_region ?_
      refine VS_pure (dt (P_lss rfl rfl) (by omega)) rfl rfl rfl ?_
      refine VS_nil ?_
      refine QS_then ?_
      refine TS_seq ?_
      refine TS_true rfl ?_
      refine TS_skip ?_
      refine QS_then ?_
      refine TS_seq ?_
      refine TS_block ?_
      refine TS_seq ?_
      refine TS_region ?_
      refine VS_pure (P_indexAddrN ez27 rfl rfl hA (by omega)) rfl rfl rfl ?_
      refine VS_read (S_loadAt ag38 rfl rfl hat) rfl rfl rfl ?_
      refine VS_step (S_alloc zl38 rfl (fun b2 => ?_)) rfl
      refine VS_step (S_storeAgg ag38 rfl rfl rfl (.here) rfl rfl ?_) rfl
      refine VS_nil ?_
      refine QS_then ?_
      refine TS_seq ?_
      refine TS_region ?_
      refine VS_pure (P_assign rfl) rfl rfl rfl ?_
      refine VS_nil ?_
      refine QS_then ?_
      refine TS_seq ?_
      refine TS_seq ?_
      refine TS_region ?_
      refine VS_pure (P_fieldAddr0 fo38_0 rfl) rfl rfl rfl ?_
      refine VS_read (S_loadB sg36 rfl (.here) rfl) rfl rfl rfl ?_
      refine VS_pure (dt (P_geq rfl rfl) (by omega)) rfl rfl rfl ?_
      refine VS_pure (P_move rfl) rfl rfl rfl ?_
      refine VS_pure (P_fieldAddr0 fo38_0 rfl) rfl rfl rfl ?_
      refine VS_read (S_loadB sg36 rfl (.here) rfl) rfl rfl rfl ?_
      refine VS_pure (P_conv_int us36 ik3 rfl (w64 (by omega) (by omega))) rfl rfl rfl ?_
      refine VS_pure (dt (P_lss rfl rfl) (by omega)) rfl rfl rfl ?_
      refine VS_pure (P_pick_t rfl rfl) rfl rfl rfl ?_
      refine VS_nil ?_
      refine QS_then ?_
      refine TS_true rfl ?_
      refine TS_seq ?_
      refine TS_region ?_
      refine VS_pure (P_fieldAddr0 fo38_0 rfl) rfl rfl rfl ?_
      refine VS_read (S_loadB sg36 rfl (.here) rfl) rfl rfl rfl ?_
      refine VS_pure (P_indexAddrArr ar64 rfl rfl (by omega) (by omega)) rfl rfl rfl ?_
      refine VS_read (S_loadB (b := b1) (i := 6) (l := [sV [], sV w1, sV w2, sV w3, sV w4, sV w5, sV w6]) sg9 rfl (.there .here) rfl) rfl rfl rfl ?_
      refine VS_pure (P_sadd rfl rfl (by simp <;> omega)) rfl rfl rfl ?_
      refine VS_pure (P_assign rfl) rfl rfl rfl ?_
      refine VS_nil ?_
      refine QS_then ?_
      refine TS_seq ?_
      refine TS_seq ?_
      refine TS_region ?_
      refine VS_pure (P_fieldAddr0 fo38_0 rfl) rfl rfl rfl ?_
      refine VS_read (S_loadB sg36 rfl (.here) rfl) rfl rfl rfl ?_
      refine VS_pure (dt (P_gtr rfl rfl) (by omega)) rfl rfl rfl ?_
      refine VS_nil ?_
      refine QS_then ?_
      refine TS_true rfl ?_
      refine TS_region ?_
      refine VS_pure (P_move rfl) rfl rfl rfl ?_
      refine VS_pure (P_fieldAddr0 fo38_1 rfl) rfl rfl rfl ?_
      refine VS_read (S_loadB sg9 rfl (.here) rfl) rfl rfl rfl ?_
      refine VS_pure (P_sadd rfl rfl (by simp <;> omega)) rfl rfl rfl ?_
      refine VS_pure (P_sadd rfl rfl (by simp <;> omega)) rfl rfl rfl ?_
      refine VS_pure (P_assign rfl) rfl rfl rfl ?_
      refine VS_nil ?_
      refine QS_then ?_
      refine TS_region ?_
      refine VS_pure (P_move rfl) rfl rfl rfl ?_
      refine VS_pure (P_fieldAddr0 fo38_2 rfl) rfl rfl rfl ?_
      refine VS_read (S_loadB sg3 rfl (.here) rfl) rfl rfl rfl ?_
      refine VS_step (S_callR cl30 rfl (fun m' hm he => (Itoa_ok (hT.mono hm) hn0 hn1)) rfl ?_) rfl
      rintro _ rfl
      refine VS_pure (P_sadd rfl rfl (by simp <;> omega)) rfl rfl rfl ?_
      refine VS_pure (P_assign rfl) rfl rfl rfl ?_
      refine VS_nil ?_
      refine QS_then ?_
      refine TS_region ?_
      refine VS_pure (P_move rfl) rfl rfl rfl ?_
      refine VS_pure (P_move rfl) rfl rfl rfl ?_
      refine VS_step (S_buildSlice sl26 rfl rfl rfl rfl (fun b3 => ?_)) rfl
      refine VS_step (S_append sl26 rfl rfl rfl rfl (.here) (fun _ _ => (.there (.there (.there (.here))))) rfl rfl (by first | omega | (simp only [maxLen]; omega)) (by omega) rfl (fun A1 c1 => ?_)) rfl
      refine VS_pure (P_assign rfl) rfl rfl rfl ?_
      refine VS_nil ?_
      refine QS_block ?_
      refine QS_then ?_
      refine TS_region ?_
      refine VS_pure (P_add rfl rfl (w64 (by omega) (by omega))) rfl rfl rfl ?_
      refine VS_pure (P_move rfl) rfl rfl rfl ?_
      refine VS_nil ?_
      have hp : partR Lib.itoa ⟨6, nm, k⟩ = w6 ++ colon ++ (nm ++ spx) ++ Lib.itoa k := rfl
      rw [hp] at hnext
      refine QS_round4 (Le.refl _) (i + 1) A1 c1 () ⟨rfl, rfl, rfl, rfl, rfl, trivial⟩ ?_ hlt (by omega)
      rw [hnext]
      exact .cons (.there (.there .here)) (.cons (.there (.there .here)) (.nil _))
    by_cases glo : w < 1
    · refine TS_seq ?_
      refine TS_region ?_
      refine VS_pure (dt (P_lss rfl rfl) (by omega)) rfl rfl rfl ?_
      refine VS_nil ?_
      refine QS_then ?_
      refine TS_seq ?_
      refine TS_true rfl ?_
      refine TS_skip ?_
      refine QS_then ?_
      refine TS_seq ?_
      refine TS_block ?_
      refine TS_seq ?_
      refine TS_region ?_
      refine VS_pure (P_indexAddrN ez27 rfl rfl hA (by omega)) rfl rfl rfl ?_
      refine VS_read (S_loadAt ag38 rfl rfl hat) rfl rfl rfl ?_
      refine VS_step (S_alloc zl38 rfl (fun b2 => ?_)) rfl
      refine VS_step (S_storeAgg ag38 rfl rfl rfl (.here) rfl rfl ?_) rfl
      refine VS_nil ?_
      refine QS_then ?_
      refine TS_seq ?_
      refine TS_region ?_
      refine VS_pure (P_assign rfl) rfl rfl rfl ?_
      refine VS_nil ?_
      refine QS_then ?_
      refine TS_seq ?_
      refine TS_seq ?_
      refine TS_region ?_
      refine VS_pure (P_fieldAddr0 fo38_0 rfl) rfl rfl rfl ?_
      refine VS_read (S_loadB sg36 rfl (.here) rfl) rfl rfl rfl ?_
      refine VS_pure (df (P_geq rfl rfl) (by omega)) rfl rfl rfl ?_
      refine VS_pure (P_move rfl) rfl rfl rfl ?_
      iterate 4 (refine VS_skip rfl rfl rfl ?_)
      refine VS_pure (P_pick_f rfl rfl) rfl rfl rfl ?_
      refine VS_nil ?_
      refine QS_then ?_
      refine TS_false rfl ?_
      refine TS_skip ?_
      refine QS_then ?_
      refine TS_region ?_
      refine VS_pure (P_move rfl) rfl rfl rfl ?_
      refine VS_pure (P_move rfl) rfl rfl rfl ?_
      refine VS_step (S_buildSlice sl26 rfl rfl rfl rfl (fun b3 => ?_)) rfl
      refine VS_step (S_append sl26 rfl rfl rfl rfl (.here) (fun _ _ => (.there (.there (.there (.here))))) rfl rfl (by first | omega | (simp only [maxLen]; omega)) (by omega) rfl (fun A1 c1 => ?_)) rfl
      refine VS_pure (P_assign rfl) rfl rfl rfl ?_
      refine VS_nil ?_
      refine QS_block ?_
      refine QS_then ?_
      refine TS_region ?_
      refine VS_pure (P_add rfl rfl (w64 (by omega) (by omega))) rfl rfl rfl ?_
      refine VS_pure (P_move rfl) rfl rfl rfl ?_
      refine VS_nil ?_
      have hp : partR Lib.itoa ⟨w, nm, k⟩ = [63] := if_pos (by dsimp only; omega)
      rw [hp] at hnext
      refine QS_round4 (Le.refl _) (i + 1) A1 c1 () ⟨rfl, rfl, rfl, rfl, rfl, trivial⟩ ?_ hlt (by omega)
      rw [hnext]
      exact .cons (.there (.there .here)) (.cons (.there (.there .here)) (.nil _))
    · have ghi : 6 < w := by omega
      refine TS_seq ?_
      refine TS_region ?_
      refine VS_pure (dt (P_lss rfl rfl) (by omega)) rfl rfl rfl ?_
      refine VS_nil ?_
      refine QS_then ?_
      refine TS_seq ?_
      refine TS_true rfl ?_
      refine TS_skip ?_
      refine QS_then ?_
      refine TS_seq ?_
      refine TS_block ?_
      refine TS_seq ?_
      refine TS_region ?_
      refine VS_pure (P_indexAddrN ez27 rfl rfl hA (by omega)) rfl rfl rfl ?_
      refine VS_read (S_loadAt ag38 rfl rfl hat) rfl rfl rfl ?_
      refine VS_step (S_alloc zl38 rfl (fun b2 => ?_)) rfl
      refine VS_step (S_storeAgg ag38 rfl rfl rfl (.here) rfl rfl ?_) rfl
      refine VS_nil ?_
      refine QS_then ?_
      refine TS_seq ?_
      refine TS_region ?_
      refine VS_pure (P_assign rfl) rfl rfl rfl ?_
      refine VS_nil ?_
      refine QS_then ?_
      refine TS_seq ?_
      refine TS_seq ?_
      refine TS_region ?_
      refine VS_pure (P_fieldAddr0 fo38_0 rfl) rfl rfl rfl ?_
      refine VS_read (S_loadB sg36 rfl (.here) rfl) rfl rfl rfl ?_
      refine VS_pure (dt (P_geq rfl rfl) (by omega)) rfl rfl rfl ?_
      refine VS_pure (P_move rfl) rfl rfl rfl ?_
      refine VS_pure (P_fieldAddr0 fo38_0 rfl) rfl rfl rfl ?_
      refine VS_read (S_loadB sg36 rfl (.here) rfl) rfl rfl rfl ?_
      refine VS_pure (P_conv_int us36 ik3 rfl (w64 (by omega) (by omega))) rfl rfl rfl ?_
      refine VS_pure (df (P_lss rfl rfl) (by omega)) rfl rfl rfl ?_
      refine VS_pure (P_pick_t rfl rfl) rfl rfl rfl ?_
      refine VS_nil ?_
      refine QS_then ?_
      refine TS_false rfl ?_
      refine TS_skip ?_
      refine QS_then ?_
      refine TS_region ?_
      refine VS_pure (P_move rfl) rfl rfl rfl ?_
      refine VS_pure (P_move rfl) rfl rfl rfl ?_
      refine VS_step (S_buildSlice sl26 rfl rfl rfl rfl (fun b3 => ?_)) rfl
      refine VS_step (S_append sl26 rfl rfl rfl rfl (.here) (fun _ _ => (.there (.there (.there (.here))))) rfl rfl (by first | omega | (simp only [maxLen]; omega)) (by omega) rfl (fun A1 c1 => ?_)) rfl
      refine VS_pure (P_assign rfl) rfl rfl rfl ?_
      refine VS_nil ?_
      refine QS_block ?_
      refine QS_then ?_
      refine TS_region ?_
      refine VS_pure (P_add rfl rfl (w64 (by omega) (by omega))) rfl rfl rfl ?_
      refine VS_pure (P_move rfl) rfl rfl rfl ?_
      refine VS_nil ?_
      have hp : partR Lib.itoa ⟨w, nm, k⟩ = [63] := if_pos (by dsimp only; omega)
      rw [hp] at hnext
      refine QS_round4 (Le.refl _) (i + 1) A1 c1 () ⟨rfl, rfl, rfl, rfl, rfl, trivial⟩ ?_ hlt (by omega)
      rw [hnext]
      exact .cons (.there (.there .here)) (.cons (.there (.there .here)) (.nil _))
  · have hi2 : i = rs.length := by omega
    subst hi2
    have e1 : rs.take rs.length = rs := List.take_length
    rw [e1]
    refine TS_seq ?_
    refine TS_region ?_
    refine VS_pure (df (P_lss rfl rfl) (by omega)) rfl rfl rfl ?_
    refine VS_nil ?_
    refine QS_then ?_
    refine TS_seq ?_
    refine TS_false rfl ?_
    refine TS_exit ?_
    refine QS_then_exit ?_
    refine QS_round4_exit ?_
    refine QS_block_here ?_
    refine QS_then ?_
    refine TS_seq ?_
    refine TS_region ?_
    refine VS_pure (P_move rfl) rfl rfl rfl ?_
    refine VS_step ((S_call cl31 rfl (fun m' hm he => Join_tx (he _ (List.mem_cons_of_mem _ List.mem_cons_self)) hl (by omega)) rfl ?_)) rfl
    rintro _ _ ⟨rfl, rfl⟩
    refine VS_pure (P_assign rfl) rfl rfl rfl ?_
    refine VS_nil ?_
    refine QS_then ?_
    refine TS_ret ?_
    exact QS_ret [_] ⟨rfl, trivial⟩ [] (Pick.nil _) ⟨rfl, rfl⟩
end Go.Proofs.YtccleakfgmcjpaaDoor
