/- A part of the proof: contracts of functions of the program. No condition. -/
import Derived.Test.YtccleakfgmcjpaaDoorDkV
namespace Go.Proofs.YtccleakfgmcjpaaDoor
open Go.Eng Dk
set_option maxRecDepth 100000
theorem join_snoc (l : List (List UInt8)) (x sep : List UInt8) : Lib.join (l ++ [x]) sep = if l = [] then x else Lib.join l sep ++ sep ++ x := by
  cases l with
  | nil => rw [if_pos rfl, List.nil_append, Lib.join_one]
  | cons y r =>
    rw [if_neg (by simp), List.cons_append, Lib.join_cons, Lib.join_cons]
    simp [Lib.joinTail]
set_option maxHeartbeats 16000000 in
theorem rText_ok {m : Mp} {A : Option Addr} {c : Nat} {rs : List Rea} (hr : Rd m A (rs.flatMap reaC)) (hn : rs.length ≤ 4000) (hR : ∀ r ∈ rs, In8 r.why ∧ (-9223372036854775808 ≤ r.n ∧ r.n ≤ 9223372036854775807) ∧ r.name.length ≤ 140737488355328) :
    CS Tryd.prog 13 [.slice A rs.length c] m [] (Gives (sV (Lib.join (rs.map (partR Lib.itoa)) sep2))) := by
  refine CS_of [.tmp 2] Tryd.func13 rfl rfl rfl ?_
  refine TS_seq ?_
  refine TS_region ?_
  refine VS_pure (P_assign rfl) rfl rfl rfl ?_
  refine VS_nil ?_
  refine QS_then ?_
  refine TS_seq ?_
  refine TS_region ?_
  refine VS_pure (P_assign rfl) rfl rfl rfl ?_
  refine VS_nil ?_
  refine QS_then ?_
  refine TS_seq ?_
  refine TS_seq ?_
  refine TS_region ?_
  refine VS_pure (P_assign rfl) rfl rfl rfl ?_
  refine VS_nil ?_
  refine QS_then ?_
  refine TS_block ?_
  refine TS_loop (α := Nat × List UInt8) (fun y => [(0, .slice A rs.length c), (3, sV y.2), (4, .int .i64 (y.1 : Nat))]) (fun _ => []) (fun y => y.1 ≤ rs.length ∧ y.2 = Lib.join ((rs.take y.1).map (partR Lib.itoa)) sep2 ∧ y.2.length ≤ y.1 * 140737488355500) (fun y => rs.length - y.1) (0, []) ⟨rfl, rfl, rfl, trivial⟩ (Pick.refl _) ⟨Nat.zero_le _, rfl, by simp⟩ ?_
  rintro ⟨i, acc⟩ ⟨hi, hacc, hal⟩
  dsimp only at hi hacc hal ⊢
  by_cases hlt : i < rs.length
  · have hA : A.isSome = true := hr.isSome (by rw [flatMap_len]; omega)
    have hat := hr.elem (i * 3) 3
    rw [rea_row rs i hlt] at hat
    obtain ⟨h8, ⟨hn0, hn1⟩, hnl⟩ := hR rs[i] (List.getElem_mem hlt)
    have hnext := map_take1 (f := partR Lib.itoa) hlt
    generalize rs[i] = r at hat h8 hn0 hn1 hnl hnext
    obtain ⟨w, nm, k⟩ := r
    dsimp only [reaC] at hat h8 hn0 hn1 hnl hnext
    have hik := Lib.itoa_length_le k hn0 hn1
    unfold In8 at h8
    have hal2 : acc.length ≤ 562949953422000000 := by omega
    have DG := fun m' => Digits_ok (m := m') hn0 hn1
    refine TS_seq ?_
    refine TS_seq ?_
    refine TS_region ?_
    refine VS_pure (P_move rfl) rfl rfl rfl ?_
    refine VS_pure (P_move rfl) rfl rfl rfl ?_
    refine VS_pure (P_len il27 rfl) rfl rfl rfl ?_
    refine VS_pure (dt (P_lss rfl rfl) (by omega)) rfl rfl rfl ?_
    refine VS_nil ?_
    refine QS_then ?_
    refine TS_true rfl ?_
    refine TS_skip ?_
    refine QS_then ?_
    refine TS_seq ?_
    refine TS_block ?_
    refine TS_seq ?_
    refine TS_seq ?_
    refine TS_cut3 (α := List UInt8) (fun a2 => [(0, .slice A rs.length c), (3, sV a2), (4, .int .i64 (i : Nat))]) (fun _ => []) (fun a2 => Lib.join ((rs.take (i + 1)).map (partR Lib.itoa)) sep2 = a2 ++ partR Lib.itoa ⟨w, nm, k⟩ ∧ a2.length ≤ i * 140737488355500 + 2) ?_ ?_
    · by_cases hz : i = 0
      · subst hz
        refine TS_region ?_
        refine VS_pure (P_move rfl) rfl rfl rfl ?_
        refine VS_pure (df (P_gtr rfl rfl) (by omega)) rfl rfl rfl ?_
        refine VS_nil ?_
        refine QS_then ?_
        refine TS_false rfl ?_
        refine TS_skip ?_
        exact QS_round acc ⟨rfl, rfl, rfl, trivial⟩ (Pick.refl _) ⟨by
          rw [hnext, hacc, List.take_zero, List.map_nil, List.nil_append, Lib.join_one]
          rfl, by omega⟩ (by decide)
      · refine TS_region ?_
        refine VS_pure (P_move rfl) rfl rfl rfl ?_
        refine VS_pure (dt (P_gtr rfl rfl) (by omega)) rfl rfl rfl ?_
        refine VS_nil ?_
        refine QS_then ?_
        refine TS_true rfl ?_
        refine TS_region ?_
        refine VS_pure (P_move rfl) rfl rfl rfl ?_
        refine VS_pure (P_sadd rfl rfl (by simp <;> omega)) rfl rfl rfl ?_
        refine VS_pure (P_assign rfl) rfl rfl rfl ?_
        refine VS_nil ?_
        exact QS_round (acc ++ sep2) ⟨rfl, rfl, rfl, trivial⟩ (Pick.refl _) ⟨by
          rw [hnext, join_snoc, if_neg, ← hacc]
          intro h
          rw [List.map_eq_nil_iff, List.take_eq_nil_iff] at h
          rcases h with h | h
          · omega
          · subst h
            simp at hlt, by simp [sep2]; omega⟩ (by decide)
    rintro a2 ⟨ha2, hal3⟩
    have hal4 : a2.length ≤ 562949953422000100 := by omega
    clear hacc hal hal2 hnext
    by_cases g1 : w = 1
    · subst g1
      refine TS_seq ?_
      refine TS_region ?_
      refine VS_pure (P_move rfl) rfl rfl rfl ?_
      refine VS_pure (P_move rfl) rfl rfl rfl ?_
      refine VS_pure (P_indexAddrN ez27 rfl rfl hA (by omega)) rfl rfl rfl ?_
      refine VS_read (S_loadAt ag38 rfl rfl hat) rfl rfl rfl ?_
      refine VS_step (S_alloc zl38 rfl (fun b1 => ?_)) rfl
      refine VS_step (S_storeAgg ag38 rfl rfl rfl (.here) rfl rfl ?_) rfl
      refine VS_nil ?_
      refine QS_then ?_
      refine TS_seq ?_
      refine TS_draw (.step 0 .pure (.step 3 .pure (.step 1 .read (.step 2 .pure (.step 4 .read (.step 5 .kept (.step 6 .pure (.step 7 .pure (.done))))))))) mixed (by kernel_rfl) (fun _ _ _ _ hq => hq) ?_
      refine VTS_pure rfl (P_fieldAddr0 fo38_1 rfl) rfl rfl rfl ?_
      refine VTS_pure rfl (P_fieldAddr0 fo38_2 rfl) rfl rfl rfl ?_
      refine VTS_read rfl (S_loadB sg9 rfl (.here) rfl) rfl rfl rfl ?_
      refine VTS_pure rfl (P_sadd rfl rfl (by simp <;> omega)) rfl rfl rfl ?_
      refine VTS_read rfl (S_loadB sg3 rfl (.here) rfl) rfl rfl rfl ?_
      refine VTS_kept rfl (S_callR cl32 rfl (fun m' hm he => (DG _)) rfl ?_) rfl
      rintro _ rfl
      refine VTS_pure rfl (P_sadd rfl rfl (by simp <;> omega)) rfl rfl rfl ?_
      refine VTS_pure rfl (P_assign rfl) rfl rfl rfl ?_
      refine VTS_nil ?_
      refine QS_then ?_
      refine TS_seq ?_
      refine TS_region ?_
      refine VS_pure (P_fieldAddr0 fo38_0 rfl) rfl rfl rfl ?_
      refine VS_read (S_loadB sg36 rfl (.here) rfl) rfl rfl rfl ?_
      refine VS_nil ?_
      refine QS_then ?_
      refine TS_block ?_
      refine TS_seq ?_
      refine TS_region ?_
      refine VS_pure (dt (P_eql rfl rfl) rfl) rfl rfl rfl ?_
      refine VS_pure (P_assign rfl) rfl rfl rfl ?_
      refine VS_nil ?_
      refine QS_then ?_
      refine TS_true rfl ?_
      refine TS_region ?_
      refine VS_pure (P_move rfl) rfl rfl rfl ?_
      refine VS_pure (P_sadd rfl rfl (by simp <;> omega)) rfl rfl rfl ?_
      refine VS_pure (P_fieldAddr0 fo38_2 rfl) rfl rfl rfl ?_
      refine VS_read (S_loadB sg3 rfl (.here) rfl) rfl rfl rfl ?_
      refine VS_step (S_callR cl32 rfl (fun m' hm he => (DG _)) rfl ?_) rfl
      rintro _ rfl
      refine VS_pure (P_sadd rfl rfl (by simp <;> omega)) rfl rfl rfl ?_
      refine VS_pure (P_assign rfl) rfl rfl rfl ?_
      refine VS_nil ?_
      refine QS_block ?_
      refine QS_block ?_
      refine QS_then ?_
      refine TS_region ?_
      refine VS_pure (P_move rfl) rfl rfl rfl ?_
      refine VS_pure (P_add rfl rfl (w64 (by omega) (by omega))) rfl rfl rfl ?_
      refine VS_pure (P_assign rfl) rfl rfl rfl ?_
      refine VS_nil ?_
      exact QS_round (i + 1, a2 ++ [116, 111, 111, 32, 102, 101, 119, 58, 32] ++ Lib.itoa k) ⟨rfl, rfl, rfl, trivial⟩ (Pick.nil _) ⟨hlt, by
        dsimp only
        rw [ha2]
        rw [show partR Lib.itoa ⟨1, nm, k⟩ = [116, 111, 111, 32, 102, 101, 119, 58, 32] ++ Lib.itoa k from rfl, List.append_assoc], by simp; omega⟩ (by dsimp only; omega)
    by_cases g2 : w = 2
    · subst g2
      refine TS_seq ?_
      refine TS_region ?_
      refine VS_pure (P_move rfl) rfl rfl rfl ?_
      refine VS_pure (P_move rfl) rfl rfl rfl ?_
      refine VS_pure (P_indexAddrN ez27 rfl rfl hA (by omega)) rfl rfl rfl ?_
      refine VS_read (S_loadAt ag38 rfl rfl hat) rfl rfl rfl ?_
      refine VS_step (S_alloc zl38 rfl (fun b1 => ?_)) rfl
      refine VS_step (S_storeAgg ag38 rfl rfl rfl (.here) rfl rfl ?_) rfl
      refine VS_nil ?_
      refine QS_then ?_
      refine TS_seq ?_
      refine TS_draw (.step 0 .pure (.step 3 .pure (.step 1 .read (.step 2 .pure (.step 4 .read (.step 5 .kept (.step 6 .pure (.step 7 .pure (.done))))))))) mixed (by kernel_rfl) (fun _ _ _ _ hq => hq) ?_
      refine VTS_pure rfl (P_fieldAddr0 fo38_1 rfl) rfl rfl rfl ?_
      refine VTS_pure rfl (P_fieldAddr0 fo38_2 rfl) rfl rfl rfl ?_
      refine VTS_read rfl (S_loadB sg9 rfl (.here) rfl) rfl rfl rfl ?_
      refine VTS_pure rfl (P_sadd rfl rfl (by simp <;> omega)) rfl rfl rfl ?_
      refine VTS_read rfl (S_loadB sg3 rfl (.here) rfl) rfl rfl rfl ?_
      refine VTS_kept rfl (S_callR cl32 rfl (fun m' hm he => (DG _)) rfl ?_) rfl
      rintro _ rfl
      refine VTS_pure rfl (P_sadd rfl rfl (by simp <;> omega)) rfl rfl rfl ?_
      refine VTS_pure rfl (P_assign rfl) rfl rfl rfl ?_
      refine VTS_nil ?_
      refine QS_then ?_
      refine TS_seq ?_
      refine TS_region ?_
      refine VS_pure (P_fieldAddr0 fo38_0 rfl) rfl rfl rfl ?_
      refine VS_read (S_loadB sg36 rfl (.here) rfl) rfl rfl rfl ?_
      refine VS_nil ?_
      refine QS_then ?_
      refine TS_block ?_
      refine TS_seq ?_
      refine TS_region ?_
      refine VS_pure (df (P_eql rfl rfl) (by assumption)) rfl rfl rfl ?_
      refine VS_pure (P_assign rfl) rfl rfl rfl ?_
      refine VS_nil ?_
      refine QS_then ?_
      refine TS_false rfl ?_
      refine TS_seq ?_
      refine TS_region ?_
      refine VS_pure (dt (P_eql rfl rfl) rfl) rfl rfl rfl ?_
      refine VS_pure (P_assign rfl) rfl rfl rfl ?_
      refine VS_nil ?_
      refine QS_then ?_
      refine TS_true rfl ?_
      refine TS_region ?_
      refine VS_pure (P_move rfl) rfl rfl rfl ?_
      refine VS_pure (P_sadd rfl rfl (by simp <;> omega)) rfl rfl rfl ?_
      refine VS_pure (P_fieldAddr0 fo38_2 rfl) rfl rfl rfl ?_
      refine VS_read (S_loadB sg3 rfl (.here) rfl) rfl rfl rfl ?_
      refine VS_step (S_callR cl32 rfl (fun m' hm he => (DG _)) rfl ?_) rfl
      rintro _ rfl
      refine VS_pure (P_sadd rfl rfl (by simp <;> omega)) rfl rfl rfl ?_
      refine VS_pure (P_assign rfl) rfl rfl rfl ?_
      refine VS_nil ?_
      refine QS_block ?_
      refine QS_block ?_
      refine QS_then ?_
      refine TS_region ?_
      refine VS_pure (P_move rfl) rfl rfl rfl ?_
      refine VS_pure (P_add rfl rfl (w64 (by omega) (by omega))) rfl rfl rfl ?_
      refine VS_pure (P_assign rfl) rfl rfl rfl ?_
      refine VS_nil ?_
      exact QS_round (i + 1, a2 ++ [116, 111, 111, 32, 109, 97, 110, 121, 58, 32] ++ Lib.itoa k) ⟨rfl, rfl, rfl, trivial⟩ (Pick.nil _) ⟨hlt, by
        dsimp only
        rw [ha2]
        rw [show partR Lib.itoa ⟨2, nm, k⟩ = [116, 111, 111, 32, 109, 97, 110, 121, 58, 32] ++ Lib.itoa k from rfl, List.append_assoc], by simp; omega⟩ (by dsimp only; omega)
    by_cases g3 : w = 3
    · subst g3
      refine TS_seq ?_
      refine TS_region ?_
      refine VS_pure (P_move rfl) rfl rfl rfl ?_
      refine VS_pure (P_move rfl) rfl rfl rfl ?_
      refine VS_pure (P_indexAddrN ez27 rfl rfl hA (by omega)) rfl rfl rfl ?_
      refine VS_read (S_loadAt ag38 rfl rfl hat) rfl rfl rfl ?_
      refine VS_step (S_alloc zl38 rfl (fun b1 => ?_)) rfl
      refine VS_step (S_storeAgg ag38 rfl rfl rfl (.here) rfl rfl ?_) rfl
      refine VS_nil ?_
      refine QS_then ?_
      refine TS_seq ?_
      refine TS_draw (.step 0 .pure (.step 3 .pure (.step 1 .read (.step 2 .pure (.step 4 .read (.step 5 .kept (.step 6 .pure (.step 7 .pure (.done))))))))) mixed (by kernel_rfl) (fun _ _ _ _ hq => hq) ?_
      refine VTS_pure rfl (P_fieldAddr0 fo38_1 rfl) rfl rfl rfl ?_
      refine VTS_pure rfl (P_fieldAddr0 fo38_2 rfl) rfl rfl rfl ?_
      refine VTS_read rfl (S_loadB sg9 rfl (.here) rfl) rfl rfl rfl ?_
      refine VTS_pure rfl (P_sadd rfl rfl (by simp <;> omega)) rfl rfl rfl ?_
      refine VTS_read rfl (S_loadB sg3 rfl (.here) rfl) rfl rfl rfl ?_
      refine VTS_kept rfl (S_callR cl32 rfl (fun m' hm he => (DG _)) rfl ?_) rfl
      rintro _ rfl
      refine VTS_pure rfl (P_sadd rfl rfl (by simp <;> omega)) rfl rfl rfl ?_
      refine VTS_pure rfl (P_assign rfl) rfl rfl rfl ?_
      refine VTS_nil ?_
      refine QS_then ?_
      refine TS_seq ?_
      refine TS_region ?_
      refine VS_pure (P_fieldAddr0 fo38_0 rfl) rfl rfl rfl ?_
      refine VS_read (S_loadB sg36 rfl (.here) rfl) rfl rfl rfl ?_
      refine VS_nil ?_
      refine QS_then ?_
      refine TS_block ?_
      refine TS_seq ?_
      refine TS_region ?_
      refine VS_pure (df (P_eql rfl rfl) (by assumption)) rfl rfl rfl ?_
      refine VS_pure (P_assign rfl) rfl rfl rfl ?_
      refine VS_nil ?_
      refine QS_then ?_
      refine TS_false rfl ?_
      refine TS_seq ?_
      refine TS_region ?_
      refine VS_pure (df (P_eql rfl rfl) (by assumption)) rfl rfl rfl ?_
      refine VS_pure (P_assign rfl) rfl rfl rfl ?_
      refine VS_nil ?_
      refine QS_then ?_
      refine TS_false rfl ?_
      refine TS_seq ?_
      refine TS_region ?_
      refine VS_pure (dt (P_eql rfl rfl) rfl) rfl rfl rfl ?_
      refine VS_pure (P_assign rfl) rfl rfl rfl ?_
      refine VS_nil ?_
      refine QS_then ?_
      refine TS_true rfl ?_
      refine TS_region ?_
      refine VS_pure (P_move rfl) rfl rfl rfl ?_
      refine VS_pure (P_sadd rfl rfl (by simp <;> omega)) rfl rfl rfl ?_
      refine VS_pure (P_move rfl) rfl rfl rfl ?_
      refine VS_pure (P_sadd rfl rfl (by simp <;> omega)) rfl rfl rfl ?_
      refine VS_pure (P_assign rfl) rfl rfl rfl ?_
      refine VS_nil ?_
      refine QS_block ?_
      refine QS_block ?_
      refine QS_then ?_
      refine TS_region ?_
      refine VS_pure (P_move rfl) rfl rfl rfl ?_
      refine VS_pure (P_add rfl rfl (w64 (by omega) (by omega))) rfl rfl rfl ?_
      refine VS_pure (P_assign rfl) rfl rfl rfl ?_
      refine VS_nil ?_
      exact QS_round (i + 1, a2 ++ [117, 110, 107, 110, 111, 119, 110, 58, 32] ++ (nm ++ [32, 120] ++ Lib.itoa k)) ⟨rfl, rfl, rfl, trivial⟩ (Pick.nil _) ⟨hlt, by
        dsimp only
        rw [ha2]
        rw [show partR Lib.itoa ⟨3, nm, k⟩ = [117, 110, 107, 110, 111, 119, 110, 58, 32] ++ (nm ++ [32, 120]) ++ Lib.itoa k from rfl]
        simp only [List.append_assoc], by simp; omega⟩ (by dsimp only; omega)
    by_cases g4 : w = 4
    · subst g4
      refine TS_seq ?_
      refine TS_region ?_
      refine VS_pure (P_move rfl) rfl rfl rfl ?_
      refine VS_pure (P_move rfl) rfl rfl rfl ?_
      refine VS_pure (P_indexAddrN ez27 rfl rfl hA (by omega)) rfl rfl rfl ?_
      refine VS_read (S_loadAt ag38 rfl rfl hat) rfl rfl rfl ?_
      refine VS_step (S_alloc zl38 rfl (fun b1 => ?_)) rfl
      refine VS_step (S_storeAgg ag38 rfl rfl rfl (.here) rfl rfl ?_) rfl
      refine VS_nil ?_
      refine QS_then ?_
      refine TS_seq ?_
      refine TS_draw (.step 0 .pure (.step 3 .pure (.step 1 .read (.step 2 .pure (.step 4 .read (.step 5 .kept (.step 6 .pure (.step 7 .pure (.done))))))))) mixed (by kernel_rfl) (fun _ _ _ _ hq => hq) ?_
      refine VTS_pure rfl (P_fieldAddr0 fo38_1 rfl) rfl rfl rfl ?_
      refine VTS_pure rfl (P_fieldAddr0 fo38_2 rfl) rfl rfl rfl ?_
      refine VTS_read rfl (S_loadB sg9 rfl (.here) rfl) rfl rfl rfl ?_
      refine VTS_pure rfl (P_sadd rfl rfl (by simp <;> omega)) rfl rfl rfl ?_
      refine VTS_read rfl (S_loadB sg3 rfl (.here) rfl) rfl rfl rfl ?_
      refine VTS_kept rfl (S_callR cl32 rfl (fun m' hm he => (DG _)) rfl ?_) rfl
      rintro _ rfl
      refine VTS_pure rfl (P_sadd rfl rfl (by simp <;> omega)) rfl rfl rfl ?_
      refine VTS_pure rfl (P_assign rfl) rfl rfl rfl ?_
      refine VTS_nil ?_
      refine QS_then ?_
      refine TS_seq ?_
      refine TS_region ?_
      refine VS_pure (P_fieldAddr0 fo38_0 rfl) rfl rfl rfl ?_
      refine VS_read (S_loadB sg36 rfl (.here) rfl) rfl rfl rfl ?_
      refine VS_nil ?_
      refine QS_then ?_
      refine TS_block ?_
      refine TS_seq ?_
      refine TS_region ?_
      refine VS_pure (df (P_eql rfl rfl) (by assumption)) rfl rfl rfl ?_
      refine VS_pure (P_assign rfl) rfl rfl rfl ?_
      refine VS_nil ?_
      refine QS_then ?_
      refine TS_false rfl ?_
      refine TS_seq ?_
      refine TS_region ?_
      refine VS_pure (df (P_eql rfl rfl) (by assumption)) rfl rfl rfl ?_
      refine VS_pure (P_assign rfl) rfl rfl rfl ?_
      refine VS_nil ?_
      refine QS_then ?_
      refine TS_false rfl ?_
      refine TS_seq ?_
      refine TS_region ?_
      refine VS_pure (df (P_eql rfl rfl) (by assumption)) rfl rfl rfl ?_
      refine VS_pure (P_assign rfl) rfl rfl rfl ?_
      refine VS_nil ?_
      refine QS_then ?_
      refine TS_false rfl ?_
      refine TS_seq ?_
      refine TS_region ?_
      refine VS_pure (dt (P_eql rfl rfl) rfl) rfl rfl rfl ?_
      refine VS_pure (P_assign rfl) rfl rfl rfl ?_
      refine VS_nil ?_
      refine QS_then ?_
      refine TS_true rfl ?_
      refine TS_region ?_
      refine VS_pure (P_move rfl) rfl rfl rfl ?_
      refine VS_pure (P_sadd rfl rfl (by simp <;> omega)) rfl rfl rfl ?_
      refine VS_pure (P_move rfl) rfl rfl rfl ?_
      refine VS_pure (P_sadd rfl rfl (by simp <;> omega)) rfl rfl rfl ?_
      refine VS_pure (P_assign rfl) rfl rfl rfl ?_
      refine VS_nil ?_
      refine QS_block ?_
      refine QS_block ?_
      refine QS_then ?_
      refine TS_region ?_
      refine VS_pure (P_move rfl) rfl rfl rfl ?_
      refine VS_pure (P_add rfl rfl (w64 (by omega) (by omega))) rfl rfl rfl ?_
      refine VS_pure (P_assign rfl) rfl rfl rfl ?_
      refine VS_nil ?_
      exact QS_round (i + 1, a2 ++ [98, 97, 110, 110, 101, 100, 58, 32] ++ (nm ++ [32, 120] ++ Lib.itoa k)) ⟨rfl, rfl, rfl, trivial⟩ (Pick.nil _) ⟨hlt, by
        dsimp only
        rw [ha2]
        rw [show partR Lib.itoa ⟨4, nm, k⟩ = [98, 97, 110, 110, 101, 100, 58, 32] ++ (nm ++ [32, 120]) ++ Lib.itoa k from rfl]
        simp only [List.append_assoc], by simp; omega⟩ (by dsimp only; omega)
    by_cases g5 : w = 5
    · subst g5
      refine TS_seq ?_
      refine TS_region ?_
      refine VS_pure (P_move rfl) rfl rfl rfl ?_
      refine VS_pure (P_move rfl) rfl rfl rfl ?_
      refine VS_pure (P_indexAddrN ez27 rfl rfl hA (by omega)) rfl rfl rfl ?_
      refine VS_read (S_loadAt ag38 rfl rfl hat) rfl rfl rfl ?_
      refine VS_step (S_alloc zl38 rfl (fun b1 => ?_)) rfl
      refine VS_step (S_storeAgg ag38 rfl rfl rfl (.here) rfl rfl ?_) rfl
      refine VS_nil ?_
      refine QS_then ?_
      refine TS_seq ?_
      refine TS_draw (.step 0 .pure (.step 3 .pure (.step 1 .read (.step 2 .pure (.step 4 .read (.step 5 .kept (.step 6 .pure (.step 7 .pure (.done))))))))) mixed (by kernel_rfl) (fun _ _ _ _ hq => hq) ?_
      refine VTS_pure rfl (P_fieldAddr0 fo38_1 rfl) rfl rfl rfl ?_
      refine VTS_pure rfl (P_fieldAddr0 fo38_2 rfl) rfl rfl rfl ?_
      refine VTS_read rfl (S_loadB sg9 rfl (.here) rfl) rfl rfl rfl ?_
      refine VTS_pure rfl (P_sadd rfl rfl (by simp <;> omega)) rfl rfl rfl ?_
      refine VTS_read rfl (S_loadB sg3 rfl (.here) rfl) rfl rfl rfl ?_
      refine VTS_kept rfl (S_callR cl32 rfl (fun m' hm he => (DG _)) rfl ?_) rfl
      rintro _ rfl
      refine VTS_pure rfl (P_sadd rfl rfl (by simp <;> omega)) rfl rfl rfl ?_
      refine VTS_pure rfl (P_assign rfl) rfl rfl rfl ?_
      refine VTS_nil ?_
      refine QS_then ?_
      refine TS_seq ?_
      refine TS_region ?_
      refine VS_pure (P_fieldAddr0 fo38_0 rfl) rfl rfl rfl ?_
      refine VS_read (S_loadB sg36 rfl (.here) rfl) rfl rfl rfl ?_
      refine VS_nil ?_
      refine QS_then ?_
      refine TS_block ?_
      refine TS_seq ?_
      refine TS_region ?_
      refine VS_pure (df (P_eql rfl rfl) (by assumption)) rfl rfl rfl ?_
      refine VS_pure (P_assign rfl) rfl rfl rfl ?_
      refine VS_nil ?_
      refine QS_then ?_
      refine TS_false rfl ?_
      refine TS_seq ?_
      refine TS_region ?_
      refine VS_pure (df (P_eql rfl rfl) (by assumption)) rfl rfl rfl ?_
      refine VS_pure (P_assign rfl) rfl rfl rfl ?_
      refine VS_nil ?_
      refine QS_then ?_
      refine TS_false rfl ?_
      refine TS_seq ?_
      refine TS_region ?_
      refine VS_pure (df (P_eql rfl rfl) (by assumption)) rfl rfl rfl ?_
      refine VS_pure (P_assign rfl) rfl rfl rfl ?_
      refine VS_nil ?_
      refine QS_then ?_
      refine TS_false rfl ?_
      refine TS_seq ?_
      refine TS_region ?_
      refine VS_pure (df (P_eql rfl rfl) (by assumption)) rfl rfl rfl ?_
      refine VS_pure (P_assign rfl) rfl rfl rfl ?_
      refine VS_nil ?_
      refine QS_then ?_
      refine TS_false rfl ?_
      refine TS_seq ?_
      refine TS_region ?_
      refine VS_pure (dt (P_eql rfl rfl) rfl) rfl rfl rfl ?_
      refine VS_pure (P_assign rfl) rfl rfl rfl ?_
      refine VS_nil ?_
      refine QS_then ?_
      refine TS_true rfl ?_
      refine TS_region ?_
      refine VS_pure (P_move rfl) rfl rfl rfl ?_
      refine VS_pure (P_sadd rfl rfl (by simp <;> omega)) rfl rfl rfl ?_
      refine VS_pure (P_move rfl) rfl rfl rfl ?_
      refine VS_pure (P_sadd rfl rfl (by simp <;> omega)) rfl rfl rfl ?_
      refine VS_pure (P_assign rfl) rfl rfl rfl ?_
      refine VS_nil ?_
      refine QS_block ?_
      refine QS_block ?_
      refine QS_then ?_
      refine TS_region ?_
      refine VS_pure (P_move rfl) rfl rfl rfl ?_
      refine VS_pure (P_add rfl rfl (w64 (by omega) (by omega))) rfl rfl rfl ?_
      refine VS_pure (P_assign rfl) rfl rfl rfl ?_
      refine VS_nil ?_
      exact QS_round (i + 1, a2 ++ [115, 105, 110, 103, 108, 101, 58, 32] ++ (nm ++ [32, 120] ++ Lib.itoa k)) ⟨rfl, rfl, rfl, trivial⟩ (Pick.nil _) ⟨hlt, by
        dsimp only
        rw [ha2]
        rw [show partR Lib.itoa ⟨5, nm, k⟩ = [115, 105, 110, 103, 108, 101, 58, 32] ++ (nm ++ [32, 120]) ++ Lib.itoa k from rfl]
        simp only [List.append_assoc], by simp; omega⟩ (by dsimp only; omega)
    by_cases g6 : w = 6
    · subst g6
      refine TS_seq ?_
      refine TS_region ?_
      refine VS_pure (P_move rfl) rfl rfl rfl ?_
      refine VS_pure (P_move rfl) rfl rfl rfl ?_
      refine VS_pure (P_indexAddrN ez27 rfl rfl hA (by omega)) rfl rfl rfl ?_
      refine VS_read (S_loadAt ag38 rfl rfl hat) rfl rfl rfl ?_
      refine VS_step (S_alloc zl38 rfl (fun b1 => ?_)) rfl
      refine VS_step (S_storeAgg ag38 rfl rfl rfl (.here) rfl rfl ?_) rfl
      refine VS_nil ?_
      refine QS_then ?_
      refine TS_seq ?_
      refine TS_draw (.step 0 .pure (.step 3 .pure (.step 1 .read (.step 2 .pure (.step 4 .read (.step 5 .kept (.step 6 .pure (.step 7 .pure (.done))))))))) mixed (by kernel_rfl) (fun _ _ _ _ hq => hq) ?_
      refine VTS_pure rfl (P_fieldAddr0 fo38_1 rfl) rfl rfl rfl ?_
      refine VTS_pure rfl (P_fieldAddr0 fo38_2 rfl) rfl rfl rfl ?_
      refine VTS_read rfl (S_loadB sg9 rfl (.here) rfl) rfl rfl rfl ?_
      refine VTS_pure rfl (P_sadd rfl rfl (by simp <;> omega)) rfl rfl rfl ?_
      refine VTS_read rfl (S_loadB sg3 rfl (.here) rfl) rfl rfl rfl ?_
      refine VTS_kept rfl (S_callR cl32 rfl (fun m' hm he => (DG _)) rfl ?_) rfl
      rintro _ rfl
      refine VTS_pure rfl (P_sadd rfl rfl (by simp <;> omega)) rfl rfl rfl ?_
      refine VTS_pure rfl (P_assign rfl) rfl rfl rfl ?_
      refine VTS_nil ?_
      refine QS_then ?_
      refine TS_seq ?_
      refine TS_region ?_
      refine VS_pure (P_fieldAddr0 fo38_0 rfl) rfl rfl rfl ?_
      refine VS_read (S_loadB sg36 rfl (.here) rfl) rfl rfl rfl ?_
      refine VS_nil ?_
      refine QS_then ?_
      refine TS_block ?_
      refine TS_seq ?_
      refine TS_region ?_
      refine VS_pure (df (P_eql rfl rfl) (by assumption)) rfl rfl rfl ?_
      refine VS_pure (P_assign rfl) rfl rfl rfl ?_
      refine VS_nil ?_
      refine QS_then ?_
      refine TS_false rfl ?_
      refine TS_seq ?_
      refine TS_region ?_
      refine VS_pure (df (P_eql rfl rfl) (by assumption)) rfl rfl rfl ?_
      refine VS_pure (P_assign rfl) rfl rfl rfl ?_
      refine VS_nil ?_
      refine QS_then ?_
      refine TS_false rfl ?_
      refine TS_seq ?_
      refine TS_region ?_
      refine VS_pure (df (P_eql rfl rfl) (by assumption)) rfl rfl rfl ?_
      refine VS_pure (P_assign rfl) rfl rfl rfl ?_
      refine VS_nil ?_
      refine QS_then ?_
      refine TS_false rfl ?_
      refine TS_seq ?_
      refine TS_region ?_
      refine VS_pure (df (P_eql rfl rfl) (by assumption)) rfl rfl rfl ?_
      refine VS_pure (P_assign rfl) rfl rfl rfl ?_
      refine VS_nil ?_
      refine QS_then ?_
      refine TS_false rfl ?_
      refine TS_seq ?_
      refine TS_region ?_
      refine VS_pure (df (P_eql rfl rfl) (by assumption)) rfl rfl rfl ?_
      refine VS_pure (P_assign rfl) rfl rfl rfl ?_
      refine VS_nil ?_
      refine QS_then ?_
      refine TS_false rfl ?_
      refine TS_seq ?_
      refine TS_region ?_
      refine VS_pure (dt (P_eql rfl rfl) rfl) rfl rfl rfl ?_
      refine VS_pure (P_assign rfl) rfl rfl rfl ?_
      refine VS_nil ?_
      refine QS_then ?_
      refine TS_true rfl ?_
      refine TS_region ?_
      refine VS_pure (P_move rfl) rfl rfl rfl ?_
      refine VS_pure (P_sadd rfl rfl (by simp <;> omega)) rfl rfl rfl ?_
      refine VS_pure (P_move rfl) rfl rfl rfl ?_
      refine VS_pure (P_sadd rfl rfl (by simp <;> omega)) rfl rfl rfl ?_
      refine VS_pure (P_assign rfl) rfl rfl rfl ?_
      refine VS_nil ?_
      refine QS_block ?_
      refine QS_block ?_
      refine QS_then ?_
      refine TS_region ?_
      refine VS_pure (P_move rfl) rfl rfl rfl ?_
      refine VS_pure (P_add rfl rfl (w64 (by omega) (by omega))) rfl rfl rfl ?_
      refine VS_pure (P_assign rfl) rfl rfl rfl ?_
      refine VS_nil ?_
      exact QS_round (i + 1, a2 ++ [99, 111, 112, 105, 101, 115, 58, 32] ++ (nm ++ [32, 120] ++ Lib.itoa k)) ⟨rfl, rfl, rfl, trivial⟩ (Pick.nil _) ⟨hlt, by
        dsimp only
        rw [ha2]
        rw [show partR Lib.itoa ⟨6, nm, k⟩ = [99, 111, 112, 105, 101, 115, 58, 32] ++ (nm ++ [32, 120]) ++ Lib.itoa k from rfl]
        simp only [List.append_assoc], by simp; omega⟩ (by dsimp only; omega)
    refine TS_seq ?_
    refine TS_region ?_
    refine VS_pure (P_move rfl) rfl rfl rfl ?_
    refine VS_pure (P_move rfl) rfl rfl rfl ?_
    refine VS_pure (P_indexAddrN ez27 rfl rfl hA (by omega)) rfl rfl rfl ?_
    refine VS_read (S_loadAt ag38 rfl rfl hat) rfl rfl rfl ?_
    refine VS_step (S_alloc zl38 rfl (fun b1 => ?_)) rfl
    refine VS_step (S_storeAgg ag38 rfl rfl rfl (.here) rfl rfl ?_) rfl
    refine VS_nil ?_
    refine QS_then ?_
    refine TS_seq ?_
    refine TS_draw (.step 0 .pure (.step 3 .pure (.step 1 .read (.step 2 .pure (.step 4 .read (.step 5 .kept (.step 6 .pure (.step 7 .pure (.done))))))))) mixed (by kernel_rfl) (fun _ _ _ _ hq => hq) ?_
    refine VTS_pure rfl (P_fieldAddr0 fo38_1 rfl) rfl rfl rfl ?_
    refine VTS_pure rfl (P_fieldAddr0 fo38_2 rfl) rfl rfl rfl ?_
    refine VTS_read rfl (S_loadB sg9 rfl (.here) rfl) rfl rfl rfl ?_
    refine VTS_pure rfl (P_sadd rfl rfl (by simp <;> omega)) rfl rfl rfl ?_
    refine VTS_read rfl (S_loadB sg3 rfl (.here) rfl) rfl rfl rfl ?_
    refine VTS_kept rfl (S_callR cl32 rfl (fun m' hm he => (DG _)) rfl ?_) rfl
    rintro _ rfl
    refine VTS_pure rfl (P_sadd rfl rfl (by simp <;> omega)) rfl rfl rfl ?_
    refine VTS_pure rfl (P_assign rfl) rfl rfl rfl ?_
    refine VTS_nil ?_
    refine QS_then ?_
    refine TS_seq ?_
    refine TS_region ?_
    refine VS_pure (P_fieldAddr0 fo38_0 rfl) rfl rfl rfl ?_
    refine VS_read (S_loadB sg36 rfl (.here) rfl) rfl rfl rfl ?_
    refine VS_nil ?_
    refine QS_then ?_
    refine TS_block ?_
    refine TS_seq ?_
    refine TS_region ?_
    refine VS_pure (df (P_eql rfl rfl) (by assumption)) rfl rfl rfl ?_
    refine VS_pure (P_assign rfl) rfl rfl rfl ?_
    refine VS_nil ?_
    refine QS_then ?_
    refine TS_false rfl ?_
    refine TS_seq ?_
    refine TS_region ?_
    refine VS_pure (df (P_eql rfl rfl) (by assumption)) rfl rfl rfl ?_
    refine VS_pure (P_assign rfl) rfl rfl rfl ?_
    refine VS_nil ?_
    refine QS_then ?_
    refine TS_false rfl ?_
    refine TS_seq ?_
    refine TS_region ?_
    refine VS_pure (df (P_eql rfl rfl) (by assumption)) rfl rfl rfl ?_
    refine VS_pure (P_assign rfl) rfl rfl rfl ?_
    refine VS_nil ?_
    refine QS_then ?_
    refine TS_false rfl ?_
    refine TS_seq ?_
    refine TS_region ?_
    refine VS_pure (df (P_eql rfl rfl) (by assumption)) rfl rfl rfl ?_
    refine VS_pure (P_assign rfl) rfl rfl rfl ?_
    refine VS_nil ?_
    refine QS_then ?_
    refine TS_false rfl ?_
    refine TS_seq ?_
    refine TS_region ?_
    refine VS_pure (df (P_eql rfl rfl) (by assumption)) rfl rfl rfl ?_
    refine VS_pure (P_assign rfl) rfl rfl rfl ?_
    refine VS_nil ?_
    refine QS_then ?_
    refine TS_false rfl ?_
    refine TS_seq ?_
    refine TS_region ?_
    refine VS_pure (df (P_eql rfl rfl) (by assumption)) rfl rfl rfl ?_
    refine VS_pure (P_assign rfl) rfl rfl rfl ?_
    refine VS_nil ?_
    refine QS_then ?_
    refine TS_false rfl ?_
    refine TS_region ?_
    refine VS_pure (P_move rfl) rfl rfl rfl ?_
    refine VS_pure (P_sadd rfl rfl (by simp <;> omega)) rfl rfl rfl ?_
    refine VS_pure (P_assign rfl) rfl rfl rfl ?_
    refine VS_nil ?_
    refine QS_block ?_
    refine QS_block ?_
    refine QS_then ?_
    refine TS_region ?_
    refine VS_pure (P_move rfl) rfl rfl rfl ?_
    refine VS_pure (P_add rfl rfl (w64 (by omega) (by omega))) rfl rfl rfl ?_
    refine VS_pure (P_assign rfl) rfl rfl rfl ?_
    refine VS_nil ?_
    exact QS_round (i + 1, a2 ++ [63]) ⟨rfl, rfl, rfl, trivial⟩ (Pick.nil _) ⟨hlt, by
      dsimp only
      rw [ha2]
      rw [show partR Lib.itoa ⟨w, nm, k⟩ = [63] from if_pos (by dsimp only; omega)], by simp; omega⟩ (by dsimp only; omega)
  · refine TS_seq ?_
    refine TS_seq ?_
    refine TS_region ?_
    refine VS_pure (P_move rfl) rfl rfl rfl ?_
    refine VS_pure (P_move rfl) rfl rfl rfl ?_
    refine VS_pure (P_len il27 rfl) rfl rfl rfl ?_
    refine VS_pure (df (P_lss rfl rfl) (by omega)) rfl rfl rfl ?_
    refine VS_nil ?_
    refine QS_then ?_
    refine TS_false rfl ?_
    refine TS_exit ?_
    refine QS_then_exit ?_
    refine QS_round_exit ?_
    refine QS_block_here ?_
    refine QS_then ?_
    refine TS_seq ?_
    refine TS_region ?_
    refine VS_pure (P_move rfl) rfl rfl rfl ?_
    refine VS_pure (P_assign rfl) rfl rfl rfl ?_
    refine VS_nil ?_
    refine QS_then ?_
    refine TS_ret ?_
    exact QS_ret [_] ⟨rfl, trivial⟩ [] (Pick.nil _) ⟨by rw [hacc, List.take_of_length_le (by omega)]; rfl, rfl⟩
end Go.Proofs.YtccleakfgmcjpaaDoor
