/- A part of the proof: contracts of functions of the program. No condition. -/
import Derived.Test.YtccleakfgmcjpaaDoorDkK
namespace Go.Proofs.YtccleakfgmcjpaaDoor
open Go.Eng Dk
set_option maxRecDepth 100000
def PlPost (r : List Int × Int) (v : Value) (L' : List Ent) : Prop := ∃ A2 c2, v = .tuple [.slice A2 r.1.length c2, .int .i64 r.2].toArray ∧ L' = [own 3 1 A2 r.1.length c2 (r.1.map iV)]
def NmPost (r : List (List UInt8) × Int) (v : Value) (L' : List Ent) : Prop := ∃ A2 c2, v = .tuple [.slice A2 r.1.length c2, .int .i64 r.2].toArray ∧ L' = [own 9 1 A2 r.1.length c2 (r.1.map sV)]
set_option maxHeartbeats 8000000 in
theorem Places14 {m : Mp} {bv : List Value} {b : BkT} (hb : BkR m bv b) {A : Option Addr} {c : Nat} {l : List (List UInt8)} (hx : StrsR m A l) (hl : l.length ≤ 300) : CS Tryd.prog 14 [.agg bv.toArray, .slice A l.length c] m [] (PlPost (placesP b l)) := by
  have hb0 := hb
  obtain ⟨A0, c0, F0, k0, rfl, _⟩ := hb
  obtain ⟨q3, q2⟩ := hx
  refine CS_of [.tmp 4, .tmp 5] Tryd.func14 rfl rfl rfl ?_
  refine TS_seq ?_
  refine TS_region ?_
  refine VS_step (S_box rfl rfl (fun b1 => ?_)) rfl
  refine VS_pure (P_assign rfl) rfl rfl rfl ?_
  refine VS_pure (P_assign rfl) rfl rfl rfl ?_
  refine VS_nil ?_
  refine QS_then ?_
  refine TS_seq ?_
  refine TS_seq ?_
  refine TS_region ?_
  refine VS_pure (P_move rfl) rfl rfl rfl ?_
  refine VS_pure (P_len il26 rfl) rfl rfl rfl ?_
  refine VS_pure (P_move rfl) rfl rfl rfl ?_
  refine VS_nil ?_
  refine QS_then ?_
  refine TS_block ?_
  refine TS_nilOwn 3 1 ?_
  refine TS_loop4 (β := Unit) (fun i A' c' _ => [(2, .pointer (some ⟨b1, 0, none⟩)), (4, .slice A' i c'), (10, .slice A l.length c), (11, .int .i64 (l.length : Nat)), (12, .int .i64 (i : Nat))]) (fun i A' c' _ => [cel b1 [.slice A0 b.cards.length c0, .slice F0 b.fmts.length k0] 25, own 3 1 A' i c' (((l.take i).map (plc b)).map iV)]) (fun i _ => i ≤ l.length ∧ ∀ j (hj : j < l.length), j < i → found b l[j] = true) (fun i => l.length - i) 0 none 0 () ⟨rfl, rfl, rfl, rfl, rfl, trivial⟩ (.cons (.there .here) (.cons .here (.nil _))) ⟨Nat.zero_le _, fun j hj h => by omega⟩ ?_
  rintro i A' c' - ⟨hi, hfd⟩
  by_cases hlt : i < l.length
  · have hA : A.isSome = true := q3.isSome (by simp; omega)
    have hat : mc m ((sa A).add i) = some (sV l[i]) := q3.at_ (by simp [hlt])
    have hnext := map_take1 (f := fun s => iV (plc b s)) hlt
    have FI := fun m' (hm : Le m m') => Find_ok (hb0.mono hm) l[i]
    cases hkn : (ix l[i] (names b)).isSome with
    | false =>
      rw [hkn] at FI
      have hp : placesP b l = ([], 150) := by
        unfold placesP
        rw [if_neg (fun ha => all_bad hlt (p := found b) hkn ha)]
      rw [hp]
      clear hnext
      refine TS_nilOwn 3 1 ?_
      refine TS_seq ?_
      refine TS_region ?_
      refine VS_pure (dt (P_lss rfl rfl) (by omega)) rfl rfl rfl ?_
      refine VS_nil ?_
      refine QS_then ?_
      refine TS_seq ?_
      refine TS_true rfl ?_
      refine TS_skip ?_
      refine QS_then ?_
      refine TS_seq ?_
      refine TS_block ?_
      refine TS_seq ?_
      refine TS_region ?_
      refine VS_pure (P_indexAddr1N ez26 rfl rfl hA (by omega)) rfl rfl rfl ?_
      refine VS_read (S_load sg9 rfl hat) rfl rfl rfl ?_
      refine VS_pure (P_assign rfl) rfl rfl rfl ?_
      refine VS_nil ?_
      refine QS_then ?_
      refine TS_seq ?_
      refine TS_region ?_
      refine VS_read (S_loadBA ag25 rfl (.there (.here)) rfl) rfl rfl rfl ?_
      refine VS_pure (P_move rfl) rfl rfl rfl ?_
      refine VS_step (S_callR cl25 rfl (fun m' hm he => (FI m' hm)) rfl ?_) rfl
      rintro _ rfl
      refine VS_pure (P_move rfl) rfl rfl rfl ?_
      refine VS_pure (P_extract rfl rfl) rfl rfl rfl ?_
      refine VS_pure (P_extract rfl rfl) rfl rfl rfl ?_
      refine VS_pure (P_assign rfl) rfl rfl rfl ?_
      refine VS_pure (P_assign rfl) rfl rfl rfl ?_
      refine VS_nil ?_
      refine QS_then ?_
      refine TS_seq ?_
      refine TS_seq ?_
      refine TS_region ?_
      refine VS_pure (P_move rfl) rfl rfl rfl ?_
      refine VS_pure (P_not rfl) rfl rfl rfl ?_
      refine VS_nil ?_
      refine QS_then ?_
      refine TS_true rfl ?_
      refine TS_seq ?_
      refine TS_region ?_
      refine VS_pure (P_assign rfl) rfl rfl rfl ?_
      refine VS_pure (P_assign rfl) rfl rfl rfl ?_
      refine VS_nil ?_
      refine QS_then ?_
      refine TS_ret ?_
      refine QS_then_ret ?_
      refine QS_block_ret ?_
      refine QS_then_ret ?_
      refine QS_round4_ret ?_
      refine QS_block_ret ?_
      refine QS_then_ret ?_
      exact QS_ret [_, _] ⟨rfl, rfl, trivial⟩ [_] (.cons .here (.nil _)) ⟨none, 0, rfl, rfl⟩
    | true =>
      rw [hkn] at FI
      refine TS_seq ?_
      refine TS_region ?_
      refine VS_pure (dt (P_lss rfl rfl) (by omega)) rfl rfl rfl ?_
      refine VS_nil ?_
      refine QS_then ?_
      refine TS_seq ?_
      refine TS_true rfl ?_
      refine TS_skip ?_
      refine QS_then ?_
      refine TS_seq ?_
      refine TS_block ?_
      refine TS_seq ?_
      refine TS_region ?_
      refine VS_pure (P_indexAddr1N ez26 rfl rfl hA (by omega)) rfl rfl rfl ?_
      refine VS_read (S_load sg9 rfl hat) rfl rfl rfl ?_
      refine VS_pure (P_assign rfl) rfl rfl rfl ?_
      refine VS_nil ?_
      refine QS_then ?_
      refine TS_seq ?_
      refine TS_region ?_
      refine VS_read (S_loadBA ag25 rfl (.here) rfl) rfl rfl rfl ?_
      refine VS_pure (P_move rfl) rfl rfl rfl ?_
      refine VS_step (S_callR cl25 rfl (fun m' hm he => (FI m' hm)) rfl ?_) rfl
      rintro _ rfl
      refine VS_pure (P_move rfl) rfl rfl rfl ?_
      refine VS_pure (P_extract rfl rfl) rfl rfl rfl ?_
      refine VS_pure (P_extract rfl rfl) rfl rfl rfl ?_
      refine VS_pure (P_assign rfl) rfl rfl rfl ?_
      refine VS_pure (P_assign rfl) rfl rfl rfl ?_
      refine VS_nil ?_
      refine QS_then ?_
      refine TS_seq ?_
      refine TS_seq ?_
      refine TS_region ?_
      refine VS_pure (P_move rfl) rfl rfl rfl ?_
      refine VS_pure (P_not rfl) rfl rfl rfl ?_
      refine VS_nil ?_
      refine QS_then ?_
      refine TS_false rfl ?_
      refine TS_skip ?_
      refine QS_then ?_
      refine TS_region ?_
      refine VS_pure (P_move rfl) rfl rfl rfl ?_
      refine VS_pure (P_move rfl) rfl rfl rfl ?_
      refine VS_step (S_buildSlice sl40 rfl rfl rfl rfl (fun b2 => ?_)) rfl
      refine VS_step (S_append sl40 rfl rfl rfl rfl (.here) (fun _ _ => (.there (.there (.here)))) rfl rfl (by first | omega | (simp only [maxLen]; omega)) (by omega) rfl (fun A1 c1 => ?_)) rfl
      refine VS_pure (P_assign rfl) rfl rfl rfl ?_
      refine VS_nil ?_
      refine QS_block ?_
      refine QS_then ?_
      refine TS_region ?_
      refine VS_pure (P_add rfl rfl (w64 (by omega) (by omega))) rfl rfl rfl ?_
      refine VS_pure (P_move rfl) rfl rfl rfl ?_
      refine VS_nil ?_
      refine QS_round4 (Le.refl _) (i + 1) A1 c1 () ⟨rfl, rfl, rfl, rfl, rfl, trivial⟩ ?_ ⟨hlt, fun j hj h => by
        by_cases hji : j = i
        · subst hji; exact hkn
        · exact hfd j hj (by omega)⟩ (by omega)
      rw [show ((l.take (i + 1)).map (plc b)).map iV = ((l.take i).map (plc b)).map iV ++ [iV (plc b l[i])] by rw [map_take1 hlt, List.map_append]; rfl]
      exact .cons (.there .here) (.cons (.there .here) (.nil _))
  · have hi2 : i = l.length := by omega
    subst hi2
    have hp : placesP b l = (l.map (plc b), 0) := by
      unfold placesP
      rw [if_pos (all_good fun j hj => hfd j hj (by omega))]
    rw [hp, List.take_length]
    refine TS_seq ?_
    refine TS_region ?_
    refine VS_pure (df (P_lss rfl rfl) (by omega)) rfl rfl rfl ?_
    refine VS_nil ?_
    refine QS_then ?_
    refine TS_seq ?_
    refine TS_false rfl ?_
    refine TS_exit ?_
    refine QS_then_exit ?_
    refine QS_round4_exit ?_
    refine QS_block_here ?_
    refine QS_then ?_
    refine TS_seq ?_
    refine TS_region ?_
    refine VS_pure (P_move rfl) rfl rfl rfl ?_
    refine VS_pure (P_assign rfl) rfl rfl rfl ?_
    refine VS_pure (P_assign rfl) rfl rfl rfl ?_
    refine VS_nil ?_
    refine QS_then ?_
    refine TS_ret ?_
    exact QS_ret [_, _] ⟨rfl, rfl, trivial⟩ [_] (.cons (.there .here) (.nil _)) ⟨A', c', by dsimp only; rw [List.length_map]; rfl, by dsimp only; rw [List.length_map]⟩
set_option maxHeartbeats 8000000 in
theorem Places15 {m : Mp} {bv : List Value} {b : BkT} (hb : BkR m bv b) {A : Option Addr} {c : Nat} {l : List (List UInt8)} (hx : StrsR m A l) (hl : l.length ≤ 300) : CS Tryd.prog 15 [.agg bv.toArray, .slice A l.length c] m [] (PlPost (placesP b l)) := by
  have hb0 := hb
  obtain ⟨A0, c0, F0, k0, rfl, _⟩ := hb
  obtain ⟨q3, q2⟩ := hx
  refine CS_of [.tmp 4, .tmp 5] Tryd.func15 rfl rfl rfl ?_
  refine TS_seq ?_
  refine TS_region ?_
  refine VS_step (S_box rfl rfl (fun b1 => ?_)) rfl
  refine VS_pure (P_assign rfl) rfl rfl rfl ?_
  refine VS_pure (P_assign rfl) rfl rfl rfl ?_
  refine VS_nil ?_
  refine QS_then ?_
  refine TS_seq ?_
  refine TS_region ?_
  refine VS_pure (P_assign rfl) rfl rfl rfl ?_
  refine VS_nil ?_
  refine QS_then ?_
  refine TS_seq ?_
  refine TS_seq ?_
  refine TS_region ?_
  refine VS_pure (P_assign rfl) rfl rfl rfl ?_
  refine VS_nil ?_
  refine QS_then ?_
  refine TS_block ?_
  refine TS_nilOwn 3 1 ?_
  refine TS_loop4 (β := Unit) (fun i A' c' _ => [(1, .slice A l.length c), (2, .pointer (some ⟨b1, 0, none⟩)), (6, .slice A' i c'), (7, .int .i64 (i : Nat))]) (fun i A' c' _ => [cel b1 [.slice A0 b.cards.length c0, .slice F0 b.fmts.length k0] 25, own 3 1 A' i c' (((l.take i).map (plc b)).map iV)]) (fun i _ => i ≤ l.length ∧ ∀ j (hj : j < l.length), j < i → found b l[j] = true) (fun i => l.length - i) 0 none 0 () ⟨rfl, rfl, rfl, rfl, trivial⟩ (.cons (.there .here) (.cons .here (.nil _))) ⟨Nat.zero_le _, fun j hj h => by omega⟩ ?_
  rintro i A' c' - ⟨hi, hfd⟩
  by_cases hlt : i < l.length
  · have hA : A.isSome = true := q3.isSome (by simp; omega)
    have hat : mc m ((sa A).add i) = some (sV l[i]) := q3.at_ (by simp [hlt])
    have hnext := map_take1 (f := fun s => iV (plc b s)) hlt
    have FI := fun m' (hm : Le m m') => rFind_ok (hb0.mono hm) l[i]
    cases hkn : (ix l[i] (names b)).isSome with
    | false =>
      rw [hkn] at FI
      have hp : placesP b l = ([], 150) := by
        unfold placesP
        rw [if_neg (fun ha => all_bad hlt (p := found b) hkn ha)]
      rw [hp]
      clear hnext
      refine TS_nilOwn 3 1 ?_
      refine TS_seq ?_
      refine TS_seq ?_
      refine TS_region ?_
      refine VS_pure (P_move rfl) rfl rfl rfl ?_
      refine VS_pure (P_move rfl) rfl rfl rfl ?_
      refine VS_pure (P_len il26 rfl) rfl rfl rfl ?_
      refine VS_pure (dt (P_lss rfl rfl) (by omega)) rfl rfl rfl ?_
      refine VS_nil ?_
      refine QS_then ?_
      refine TS_true rfl ?_
      refine TS_skip ?_
      refine QS_then ?_
      refine TS_seq ?_
      refine TS_block ?_
      refine TS_seq ?_
      refine TS_draw (.step 1 .pure (.step 2 .pure (.step 3 .pure (.step 0 .read (.step 4 .read (.step 5 .kept (.step 6 .pure (.step 7 .pure (.step 8 .pure (.step 9 .pure (.step 10 .pure (.done)))))))))))) mixed (by kernel_rfl) (fun _ _ _ _ hq => hq) ?_
      refine VTS_pure rfl (P_move rfl) rfl rfl rfl ?_
      refine VTS_pure rfl (P_move rfl) rfl rfl rfl ?_
      refine VTS_pure rfl (P_indexAddr1N ez26 rfl rfl hA (by omega)) rfl rfl rfl ?_
      refine VTS_read rfl (S_loadBA ag25 rfl (.there (.here)) rfl) rfl rfl rfl ?_
      refine VTS_read rfl (S_load sg9 rfl hat) rfl rfl rfl ?_
      refine VTS_kept rfl (S_callR cl29 rfl (fun m' hm he => (FI m' hm)) rfl ?_) rfl
      rintro _ rfl
      refine VTS_pure rfl (P_move rfl) rfl rfl rfl ?_
      refine VTS_pure rfl (P_extract rfl rfl) rfl rfl rfl ?_
      refine VTS_pure rfl (P_extract rfl rfl) rfl rfl rfl ?_
      refine VTS_pure rfl (P_assign rfl) rfl rfl rfl ?_
      refine VTS_pure rfl (P_assign rfl) rfl rfl rfl ?_
      refine VTS_nil ?_
      refine QS_then ?_
      refine TS_seq ?_
      refine TS_seq ?_
      refine TS_region ?_
      refine VS_pure (P_move rfl) rfl rfl rfl ?_
      refine VS_pure (P_not rfl) rfl rfl rfl ?_
      refine VS_nil ?_
      refine QS_then ?_
      refine TS_true rfl ?_
      refine TS_seq ?_
      refine TS_region ?_
      refine VS_pure (P_assign rfl) rfl rfl rfl ?_
      refine VS_pure (P_assign rfl) rfl rfl rfl ?_
      refine VS_nil ?_
      refine QS_then ?_
      refine TS_ret ?_
      refine QS_then_ret ?_
      refine QS_block_ret ?_
      refine QS_then_ret ?_
      refine QS_round4_ret ?_
      refine QS_block_ret ?_
      refine QS_then_ret ?_
      exact QS_ret [_, _] ⟨rfl, rfl, trivial⟩ [_] (.cons .here (.nil _)) ⟨none, 0, rfl, rfl⟩
    | true =>
      rw [hkn] at FI
      refine TS_seq ?_
      refine TS_seq ?_
      refine TS_region ?_
      refine VS_pure (P_move rfl) rfl rfl rfl ?_
      refine VS_pure (P_move rfl) rfl rfl rfl ?_
      refine VS_pure (P_len il26 rfl) rfl rfl rfl ?_
      refine VS_pure (dt (P_lss rfl rfl) (by omega)) rfl rfl rfl ?_
      refine VS_nil ?_
      refine QS_then ?_
      refine TS_true rfl ?_
      refine TS_skip ?_
      refine QS_then ?_
      refine TS_seq ?_
      refine TS_block ?_
      refine TS_seq ?_
      refine TS_draw (.step 1 .pure (.step 2 .pure (.step 3 .pure (.step 0 .read (.step 4 .read (.step 5 .kept (.step 6 .pure (.step 7 .pure (.step 8 .pure (.step 9 .pure (.step 10 .pure (.done)))))))))))) mixed (by kernel_rfl) (fun _ _ _ _ hq => hq) ?_
      refine VTS_pure rfl (P_move rfl) rfl rfl rfl ?_
      refine VTS_pure rfl (P_move rfl) rfl rfl rfl ?_
      refine VTS_pure rfl (P_indexAddr1N ez26 rfl rfl hA (by omega)) rfl rfl rfl ?_
      refine VTS_read rfl (S_loadBA ag25 rfl (.here) rfl) rfl rfl rfl ?_
      refine VTS_read rfl (S_load sg9 rfl hat) rfl rfl rfl ?_
      refine VTS_kept rfl (S_callR cl29 rfl (fun m' hm he => (FI m' hm)) rfl ?_) rfl
      rintro _ rfl
      refine VTS_pure rfl (P_move rfl) rfl rfl rfl ?_
      refine VTS_pure rfl (P_extract rfl rfl) rfl rfl rfl ?_
      refine VTS_pure rfl (P_extract rfl rfl) rfl rfl rfl ?_
      refine VTS_pure rfl (P_assign rfl) rfl rfl rfl ?_
      refine VTS_pure rfl (P_assign rfl) rfl rfl rfl ?_
      refine VTS_nil ?_
      refine QS_then ?_
      refine TS_seq ?_
      refine TS_seq ?_
      refine TS_region ?_
      refine VS_pure (P_move rfl) rfl rfl rfl ?_
      refine VS_pure (P_not rfl) rfl rfl rfl ?_
      refine VS_nil ?_
      refine QS_then ?_
      refine TS_false rfl ?_
      refine TS_skip ?_
      refine QS_then ?_
      refine TS_region ?_
      refine VS_pure (P_move rfl) rfl rfl rfl ?_
      refine VS_pure (P_move rfl) rfl rfl rfl ?_
      refine VS_step (S_buildSlice sl40 rfl rfl rfl rfl (fun b2 => ?_)) rfl
      refine VS_step (S_append sl40 rfl rfl rfl rfl (.here) (fun _ _ => (.there (.there (.here)))) rfl rfl (by first | omega | (simp only [maxLen]; omega)) (by omega) rfl (fun A1 c1 => ?_)) rfl
      refine VS_pure (P_assign rfl) rfl rfl rfl ?_
      refine VS_nil ?_
      refine QS_block ?_
      refine QS_then ?_
      refine TS_region ?_
      refine VS_pure (P_move rfl) rfl rfl rfl ?_
      refine VS_pure (P_add rfl rfl (w64 (by omega) (by omega))) rfl rfl rfl ?_
      refine VS_pure (P_assign rfl) rfl rfl rfl ?_
      refine VS_nil ?_
      refine QS_round4 (Le.refl _) (i + 1) A1 c1 () ⟨rfl, rfl, rfl, rfl, trivial⟩ ?_ ⟨hlt, fun j hj h => by
        by_cases hji : j = i
        · subst hji; exact hkn
        · exact hfd j hj (by omega)⟩ (by omega)
      rw [show ((l.take (i + 1)).map (plc b)).map iV = ((l.take i).map (plc b)).map iV ++ [iV (plc b l[i])] by rw [map_take1 hlt, List.map_append]; rfl]
      exact .cons (.there .here) (.cons (.there .here) (.nil _))
  · have hi2 : i = l.length := by omega
    subst hi2
    have hp : placesP b l = (l.map (plc b), 0) := by
      unfold placesP
      rw [if_pos (all_good fun j hj => hfd j hj (by omega))]
    rw [hp, List.take_length]
    refine TS_seq ?_
    refine TS_seq ?_
    refine TS_region ?_
    refine VS_pure (P_move rfl) rfl rfl rfl ?_
    refine VS_pure (P_move rfl) rfl rfl rfl ?_
    refine VS_pure (P_len il26 rfl) rfl rfl rfl ?_
    refine VS_pure (df (P_lss rfl rfl) (by omega)) rfl rfl rfl ?_
    refine VS_nil ?_
    refine QS_then ?_
    refine TS_false rfl ?_
    refine TS_exit ?_
    refine QS_then_exit ?_
    refine QS_round4_exit ?_
    refine QS_block_here ?_
    refine QS_then ?_
    refine TS_seq ?_
    refine TS_region ?_
    refine VS_pure (P_move rfl) rfl rfl rfl ?_
    refine VS_pure (P_assign rfl) rfl rfl rfl ?_
    refine VS_pure (P_assign rfl) rfl rfl rfl ?_
    refine VS_nil ?_
    refine QS_then ?_
    refine TS_ret ?_
    exact QS_ret [_, _] ⟨rfl, rfl, trivial⟩ [_] (.cons (.there .here) (.nil _)) ⟨A', c', by dsimp only; rw [List.length_map]; rfl, by dsimp only; rw [List.length_map]⟩
set_option maxHeartbeats 8000000 in
theorem Names16 {m : Mp} {bv : List Value} {b : BkT} (hb : BkR m bv b) {A : Option Addr} {c : Nat} {l : List Int} (hx : Rd m A (l.map iV)) (hl : l.length ≤ 300) : CS Tryd.prog 16 [.agg bv.toArray, .slice A l.length c] m [] (NmPost (namesP b l)) := by
  obtain ⟨A0, c0, F0, k0, rfl, ⟨_, hcl, vs, r3, r4, r5⟩, _⟩ := hb
  have hcl : b.cards.length ≤ 9223372036854775807 := hcl
  refine CS_of [.tmp 4, .tmp 5] Tryd.func16 rfl rfl rfl ?_
  refine TS_seq ?_
  refine TS_region ?_
  refine VS_step (S_box rfl rfl (fun b1 => ?_)) rfl
  refine VS_pure (P_assign rfl) rfl rfl rfl ?_
  refine VS_pure (P_assign rfl) rfl rfl rfl ?_
  refine VS_nil ?_
  refine QS_then ?_
  refine TS_seq ?_
  refine TS_seq ?_
  refine TS_region ?_
  refine VS_pure (P_move rfl) rfl rfl rfl ?_
  refine VS_pure (P_len il40 rfl) rfl rfl rfl ?_
  refine VS_pure (P_move rfl) rfl rfl rfl ?_
  refine VS_nil ?_
  refine QS_then ?_
  refine TS_block ?_
  refine TS_nilOwn 9 1 ?_
  refine TS_loop4 (β := Unit) (fun i A' c' _ => [(2, .pointer (some ⟨b1, 0, none⟩)), (4, .slice A' i c'), (8, .slice A l.length c), (9, .int .i64 (l.length : Nat)), (10, .int .i64 (i : Nat))]) (fun i A' c' _ => [cel b1 [.slice A0 b.cards.length c0, .slice F0 b.fmts.length k0] 25, own 9 1 A' i c' (((l.take i).map (nam b)).map sV)]) (fun i _ => i ≤ l.length ∧ ∀ j (hj : j < l.length), j < i → inBk b l[j] = true) (fun i => l.length - i) 0 none 0 () ⟨rfl, rfl, rfl, rfl, rfl, trivial⟩ (.cons (.there .here) (.cons .here (.nil _))) ⟨Nat.zero_le _, fun j hj h => by omega⟩ ?_
  rintro i A' c' - ⟨hi, hfd⟩
  by_cases hlt : i < l.length
  · have hA : A.isSome = true := hx.isSome (by simp; omega)
    have hat : mc m ((sa A).add i) = some (iV l[i]) := hx.at_ (by simp [hlt])
    have hnx : ((l.take (i + 1)).map (nam b)).map sV = ((l.take i).map (nam b)).map sV ++ [sV (nam b l[i])] := by rw [map_take1 hlt, List.map_append]; rfl
    have hbad : inBk b l[i] = false → namesP b l = ([], 150) := fun h => by
      unfold namesP
      rw [if_neg (fun ha => all_bad hlt (p := inBk b) h ha)]
    have hgood : inBk b l[i] = true → ∀ j (hj : j < l.length), j < i + 1 → inBk b l[j] = true := fun h j hj hji => by
      by_cases e : j = i
      · subst e; exact h
      · exact hfd j hj (by omega)
    generalize l[i] = n at hat hnx hbad hgood
    by_cases hneg : n < 0
    · rw [hbad (by unfold inBk; rw [decide_eq_false (by omega)]; rfl)]
      clear hbad hgood hnx
      refine TS_nilOwn 9 1 ?_
      unfold iV at hat
      refine TS_seq ?_
      refine TS_region ?_
      refine VS_pure (dt (P_lss rfl rfl) (by omega)) rfl rfl rfl ?_
      refine VS_nil ?_
      refine QS_then ?_
      refine TS_seq ?_
      refine TS_true rfl ?_
      refine TS_skip ?_
      refine QS_then ?_
      refine TS_seq ?_
      refine TS_block ?_
      refine TS_seq ?_
      refine TS_region ?_
      refine VS_pure (P_indexAddr1N ez40 rfl rfl hA (by omega)) rfl rfl rfl ?_
      refine VS_read (S_load sg3 rfl hat) rfl rfl rfl ?_
      refine VS_pure (P_assign rfl) rfl rfl rfl ?_
      refine VS_nil ?_
      refine QS_then ?_
      refine TS_seq ?_
      refine TS_seq ?_
      refine TS_region ?_
      refine VS_pure (P_move rfl) rfl rfl rfl ?_
      refine VS_pure (dt (P_lss rfl rfl) (by assumption)) rfl rfl rfl ?_
      refine VS_pure (P_move rfl) rfl rfl rfl ?_
      iterate 5 (refine VS_skip rfl rfl rfl ?_)
      refine VS_pure (P_pick_t rfl rfl) rfl rfl rfl ?_
      refine VS_nil ?_
      refine QS_then ?_
      refine TS_true rfl ?_
      refine TS_seq ?_
      refine TS_region ?_
      refine VS_pure (P_assign rfl) rfl rfl rfl ?_
      refine VS_pure (P_assign rfl) rfl rfl rfl ?_
      refine VS_nil ?_
      refine QS_then ?_
      refine TS_ret ?_
      refine QS_then_ret ?_
      refine QS_block_ret ?_
      refine QS_then_ret ?_
      refine QS_round4_ret ?_
      refine QS_block_ret ?_
      refine QS_then_ret ?_
      exact QS_ret [_, _] ⟨rfl, rfl, trivial⟩ [_] (.cons .here (.nil _)) ⟨none, 0, rfl, rfl⟩
    obtain ⟨k, rfl⟩ : ∃ k : Nat, n = k := ⟨n.toNat, by omega⟩
    unfold iV at hat
    by_cases hge : b.cards.length ≤ k
    · rw [hbad (by unfold inBk; rw [decide_eq_false (show ¬ ((k : Int) < (b.cards.length : Int)) by omega), Bool.and_false])]
      clear hbad hgood hnx
      refine TS_nilOwn 9 1 ?_
      refine TS_seq ?_
      refine TS_region ?_
      refine VS_pure (dt (P_lss rfl rfl) (by omega)) rfl rfl rfl ?_
      refine VS_nil ?_
      refine QS_then ?_
      refine TS_seq ?_
      refine TS_true rfl ?_
      refine TS_skip ?_
      refine QS_then ?_
      refine TS_seq ?_
      refine TS_block ?_
      refine TS_seq ?_
      refine TS_region ?_
      refine VS_pure (P_indexAddr1N ez40 rfl rfl hA (by omega)) rfl rfl rfl ?_
      refine VS_read (S_load sg3 rfl hat) rfl rfl rfl ?_
      refine VS_pure (P_assign rfl) rfl rfl rfl ?_
      refine VS_nil ?_
      refine QS_then ?_
      refine TS_seq ?_
      refine TS_seq ?_
      refine TS_region ?_
      refine VS_pure (P_move rfl) rfl rfl rfl ?_
      refine VS_pure (df (P_lss rfl rfl) (by assumption)) rfl rfl rfl ?_
      refine VS_pure (P_move rfl) rfl rfl rfl ?_
      refine VS_pure (P_move rfl) rfl rfl rfl ?_
      refine VS_pure (P_fieldAddr0 fo25_0 rfl) rfl rfl rfl ?_
      refine VS_read (S_loadB sg22 rfl (.there (.here)) rfl) rfl rfl rfl ?_
      refine VS_pure (P_len il22 rfl) rfl rfl rfl ?_
      refine VS_pure (dt (P_geq rfl rfl) (by omega)) rfl rfl rfl ?_
      refine VS_pure (P_pick_f rfl rfl) rfl rfl rfl ?_
      refine VS_nil ?_
      refine QS_then ?_
      refine TS_true rfl ?_
      refine TS_seq ?_
      refine TS_region ?_
      refine VS_pure (P_assign rfl) rfl rfl rfl ?_
      refine VS_pure (P_assign rfl) rfl rfl rfl ?_
      refine VS_nil ?_
      refine QS_then ?_
      refine TS_ret ?_
      refine QS_then_ret ?_
      refine QS_block_ret ?_
      refine QS_then_ret ?_
      refine QS_round4_ret ?_
      refine QS_block_ret ?_
      refine QS_then_ret ?_
      exact QS_ret [_, _] ⟨rfl, rfl, trivial⟩ [_] (.cons .here (.nil _)) ⟨none, 0, rfl, rfl⟩
    have hk : k < b.cards.length := by omega
    have hA0 : A0.isSome = true := r3.isSome (by omega)
    obtain ⟨u, a1, a2, a3, a4, a5, a6, AA, la, ca, B, lb, cb, D, ld, cd, z, hc⟩ := CardR.form (r5 k hk)
    have hat2 := r3.elem (k * 12) 12
    rw [hc] at hat2
    have hcn : mc m (((sa A0).add (k * 12)).add 0) = some (sV (nam b k)) := by
      have := hat2.at_ (o := 0) rfl
      rw [this]
      unfold nam names
      simp [hk]
    replace hgood := hgood (by unfold inBk; rw [decide_eq_true (by omega), decide_eq_true (by omega)]; rfl)
    clear hbad hat2 hc
    refine TS_seq ?_
    refine TS_region ?_
    refine VS_pure (dt (P_lss rfl rfl) (by omega)) rfl rfl rfl ?_
    refine VS_nil ?_
    refine QS_then ?_
    refine TS_seq ?_
    refine TS_true rfl ?_
    refine TS_skip ?_
    refine QS_then ?_
    refine TS_seq ?_
    refine TS_block ?_
    refine TS_seq ?_
    refine TS_region ?_
    refine VS_pure (P_indexAddr1N ez40 rfl rfl hA (by omega)) rfl rfl rfl ?_
    refine VS_read (S_load sg3 rfl hat) rfl rfl rfl ?_
    refine VS_pure (P_assign rfl) rfl rfl rfl ?_
    refine VS_nil ?_
    refine QS_then ?_
    refine TS_seq ?_
    refine TS_seq ?_
    refine TS_region ?_
    refine VS_pure (P_move rfl) rfl rfl rfl ?_
    refine VS_pure (df (P_lss rfl rfl) (by assumption)) rfl rfl rfl ?_
    refine VS_pure (P_move rfl) rfl rfl rfl ?_
    refine VS_pure (P_move rfl) rfl rfl rfl ?_
    refine VS_pure (P_fieldAddr0 fo25_0 rfl) rfl rfl rfl ?_
    refine VS_read (S_loadB sg22 rfl (.here) rfl) rfl rfl rfl ?_
    refine VS_pure (P_len il22 rfl) rfl rfl rfl ?_
    refine VS_pure (df (P_geq rfl rfl) (by omega)) rfl rfl rfl ?_
    refine VS_pure (P_pick_f rfl rfl) rfl rfl rfl ?_
    refine VS_nil ?_
    refine QS_then ?_
    refine TS_false rfl ?_
    refine TS_skip ?_
    refine QS_then ?_
    refine TS_region ?_
    refine VS_pure (P_move rfl) rfl rfl rfl ?_
    refine VS_pure (P_fieldAddr0 fo25_0 rfl) rfl rfl rfl ?_
    refine VS_read (S_loadB sg22 rfl (.here) rfl) rfl rfl rfl ?_
    refine VS_pure (P_move rfl) rfl rfl rfl ?_
    refine VS_pure (P_indexAddrN ez22 rfl rfl hA0 (by omega)) rfl rfl rfl ?_
    refine VS_pure (P_fieldAddr fo69_0 rfl) rfl rfl rfl ?_
    refine VS_read (S_load sg9 rfl hcn) rfl rfl rfl ?_
    refine VS_step (S_buildSlice sl26 rfl rfl rfl rfl (fun b2 => ?_)) rfl
    refine VS_step (S_append sl26 rfl rfl rfl rfl (.here) (fun _ _ => (.there (.there (.here)))) rfl rfl (by first | omega | (simp only [maxLen]; omega)) (by omega) rfl (fun A1 c1 => ?_)) rfl
    refine VS_pure (P_assign rfl) rfl rfl rfl ?_
    refine VS_nil ?_
    refine QS_block ?_
    refine QS_then ?_
    refine TS_region ?_
    refine VS_pure (P_add rfl rfl (w64 (by omega) (by omega))) rfl rfl rfl ?_
    refine VS_pure (P_move rfl) rfl rfl rfl ?_
    refine VS_nil ?_
    refine QS_round4 (Le.refl _) (i + 1) A1 c1 () ⟨rfl, rfl, rfl, rfl, rfl, trivial⟩ ?_ ⟨hlt, hgood⟩ (by omega)
    rw [hnx]
    exact .cons (.there .here) (.cons (.there .here) (.nil _))
  · have hi2 : i = l.length := by omega
    subst hi2
    have hp : namesP b l = (l.map (nam b), 0) := by
      unfold namesP
      rw [if_pos (all_good fun j hj => hfd j hj (by omega))]
    rw [hp, List.take_length]
    refine TS_seq ?_
    refine TS_region ?_
    refine VS_pure (df (P_lss rfl rfl) (by omega)) rfl rfl rfl ?_
    refine VS_nil ?_
    refine QS_then ?_
    refine TS_seq ?_
    refine TS_false rfl ?_
    refine TS_exit ?_
    refine QS_then_exit ?_
    refine QS_round4_exit ?_
    refine QS_block_here ?_
    refine QS_then ?_
    refine TS_seq ?_
    refine TS_region ?_
    refine VS_pure (P_move rfl) rfl rfl rfl ?_
    refine VS_pure (P_assign rfl) rfl rfl rfl ?_
    refine VS_pure (P_assign rfl) rfl rfl rfl ?_
    refine VS_nil ?_
    refine QS_then ?_
    refine TS_ret ?_
    exact QS_ret [_, _] ⟨rfl, rfl, trivial⟩ [_] (.cons (.there .here) (.nil _)) ⟨A', c', by dsimp only; rw [List.length_map]; rfl, by dsimp only; rw [List.length_map]⟩
set_option maxHeartbeats 8000000 in
theorem Names17 {m : Mp} {bv : List Value} {b : BkT} (hb : BkR m bv b) {A : Option Addr} {c : Nat} {l : List Int} (hx : Rd m A (l.map iV)) (hl : l.length ≤ 300) : CS Tryd.prog 17 [.agg bv.toArray, .slice A l.length c] m [] (NmPost (namesP b l)) := by
  obtain ⟨A0, c0, F0, k0, rfl, ⟨_, hcl, vs, r3, r4, r5⟩, _⟩ := hb
  have hcl : b.cards.length ≤ 9223372036854775807 := hcl
  refine CS_of [.tmp 4, .tmp 5] Tryd.func17 rfl rfl rfl ?_
  refine TS_seq ?_
  refine TS_region ?_
  refine VS_step (S_box rfl rfl (fun b1 => ?_)) rfl
  refine VS_pure (P_assign rfl) rfl rfl rfl ?_
  refine VS_pure (P_assign rfl) rfl rfl rfl ?_
  refine VS_nil ?_
  refine QS_then ?_
  refine TS_seq ?_
  refine TS_region ?_
  refine VS_pure (P_assign rfl) rfl rfl rfl ?_
  refine VS_nil ?_
  refine QS_then ?_
  refine TS_seq ?_
  refine TS_seq ?_
  refine TS_region ?_
  refine VS_pure (P_assign rfl) rfl rfl rfl ?_
  refine VS_nil ?_
  refine QS_then ?_
  refine TS_block ?_
  refine TS_nilOwn 9 1 ?_
  refine TS_loop4 (β := Unit) (fun i A' c' _ => [(1, .slice A l.length c), (2, .pointer (some ⟨b1, 0, none⟩)), (6, .slice A' i c'), (7, .int .i64 (i : Nat))]) (fun i A' c' _ => [cel b1 [.slice A0 b.cards.length c0, .slice F0 b.fmts.length k0] 25, own 9 1 A' i c' (((l.take i).map (nam b)).map sV)]) (fun i _ => i ≤ l.length ∧ ∀ j (hj : j < l.length), j < i → inBk b l[j] = true) (fun i => l.length - i) 0 none 0 () ⟨rfl, rfl, rfl, rfl, trivial⟩ (.cons (.there .here) (.cons .here (.nil _))) ⟨Nat.zero_le _, fun j hj h => by omega⟩ ?_
  rintro i A' c' - ⟨hi, hfd⟩
  by_cases hlt : i < l.length
  · have hA : A.isSome = true := hx.isSome (by simp; omega)
    have hat : mc m ((sa A).add i) = some (iV l[i]) := hx.at_ (by simp [hlt])
    have hnx : ((l.take (i + 1)).map (nam b)).map sV = ((l.take i).map (nam b)).map sV ++ [sV (nam b l[i])] := by rw [map_take1 hlt, List.map_append]; rfl
    have hbad : inBk b l[i] = false → namesP b l = ([], 150) := fun h => by
      unfold namesP
      rw [if_neg (fun ha => all_bad hlt (p := inBk b) h ha)]
    have hgood : inBk b l[i] = true → ∀ j (hj : j < l.length), j < i + 1 → inBk b l[j] = true := fun h j hj hji => by
      by_cases e : j = i
      · subst e; exact h
      · exact hfd j hj (by omega)
    generalize l[i] = n at hat hnx hbad hgood
    by_cases hneg : n < 0
    · rw [hbad (by unfold inBk; rw [decide_eq_false (by omega)]; rfl)]
      clear hbad hgood hnx
      refine TS_nilOwn 9 1 ?_
      unfold iV at hat
      refine TS_seq ?_
      refine TS_seq ?_
      refine TS_region ?_
      refine VS_pure (P_move rfl) rfl rfl rfl ?_
      refine VS_pure (P_move rfl) rfl rfl rfl ?_
      refine VS_pure (P_len il40 rfl) rfl rfl rfl ?_
      refine VS_pure (dt (P_lss rfl rfl) (by omega)) rfl rfl rfl ?_
      refine VS_nil ?_
      refine QS_then ?_
      refine TS_true rfl ?_
      refine TS_skip ?_
      refine QS_then ?_
      refine TS_seq ?_
      refine TS_block ?_
      refine TS_seq ?_
      refine TS_seq ?_
      refine TS_draw (.step 0 .pure (.step 1 .pure (.step 2 .pure (.step 3 .read (.step 4 .pure (.step 5 .pure (.step 6 .pure (.step 7 .pure (.step 8 .pure (.step 10 .pure (.step 9 .read (.step 11 .read (.step 12 .pure (.step 13 .pure (.step 14 .pure (.done)))))))))))))))) mixed (by kernel_rfl) (fun _ _ _ _ hq => hq) ?_
      refine VTS_pure rfl (P_move rfl) rfl rfl rfl ?_
      refine VTS_pure rfl (P_move rfl) rfl rfl rfl ?_
      refine VTS_pure rfl (P_indexAddr1N ez40 rfl rfl hA (by omega)) rfl rfl rfl ?_
      refine VTS_read rfl (S_load sg3 rfl hat) rfl rfl rfl ?_
      refine VTS_pure rfl (dt (P_lss rfl rfl) (by assumption)) rfl rfl rfl ?_
      refine VTS_pure rfl (P_move rfl) rfl rfl rfl ?_
      iterate 8 (refine VTS_skip rfl rfl rfl rfl rfl ?_)
      refine VTS_pure rfl (P_pick_t rfl rfl) rfl rfl rfl ?_
      refine VTS_nil ?_
      refine QS_then ?_
      refine TS_true rfl ?_
      refine TS_seq ?_
      refine TS_region ?_
      refine VS_pure (P_assign rfl) rfl rfl rfl ?_
      refine VS_pure (P_assign rfl) rfl rfl rfl ?_
      refine VS_nil ?_
      refine QS_then ?_
      refine TS_ret ?_
      refine QS_then_ret ?_
      refine QS_block_ret ?_
      refine QS_then_ret ?_
      refine QS_round4_ret ?_
      refine QS_block_ret ?_
      refine QS_then_ret ?_
      exact QS_ret [_, _] ⟨rfl, rfl, trivial⟩ [_] (.cons .here (.nil _)) ⟨none, 0, rfl, rfl⟩
    obtain ⟨k, rfl⟩ : ∃ k : Nat, n = k := ⟨n.toNat, by omega⟩
    unfold iV at hat
    by_cases hge : b.cards.length ≤ k
    · rw [hbad (by unfold inBk; rw [decide_eq_false (show ¬ ((k : Int) < (b.cards.length : Int)) by omega), Bool.and_false])]
      clear hbad hgood hnx
      refine TS_nilOwn 9 1 ?_
      refine TS_seq ?_
      refine TS_seq ?_
      refine TS_region ?_
      refine VS_pure (P_move rfl) rfl rfl rfl ?_
      refine VS_pure (P_move rfl) rfl rfl rfl ?_
      refine VS_pure (P_len il40 rfl) rfl rfl rfl ?_
      refine VS_pure (dt (P_lss rfl rfl) (by omega)) rfl rfl rfl ?_
      refine VS_nil ?_
      refine QS_then ?_
      refine TS_true rfl ?_
      refine TS_skip ?_
      refine QS_then ?_
      refine TS_seq ?_
      refine TS_block ?_
      refine TS_seq ?_
      refine TS_seq ?_
      refine TS_draw (.step 0 .pure (.step 1 .pure (.step 2 .pure (.step 3 .read (.step 4 .pure (.step 5 .pure (.step 6 .pure (.step 7 .pure (.step 8 .pure (.step 10 .pure (.step 9 .read (.step 11 .read (.step 12 .pure (.step 13 .pure (.step 14 .pure (.done)))))))))))))))) mixed (by kernel_rfl) (fun _ _ _ _ hq => hq) ?_
      refine VTS_pure rfl (P_move rfl) rfl rfl rfl ?_
      refine VTS_pure rfl (P_move rfl) rfl rfl rfl ?_
      refine VTS_pure rfl (P_indexAddr1N ez40 rfl rfl hA (by omega)) rfl rfl rfl ?_
      refine VTS_read rfl (S_load sg3 rfl hat) rfl rfl rfl ?_
      refine VTS_pure rfl (df (P_lss rfl rfl) (by assumption)) rfl rfl rfl ?_
      iterate 3 (refine VTS_pure rfl (P_move rfl) rfl rfl rfl ?_)
      refine VTS_pure rfl (P_indexAddr1N ez40 rfl rfl hA (by omega)) rfl rfl rfl ?_
      refine VTS_pure rfl (P_fieldAddr0 fo25_0 rfl) rfl rfl rfl ?_
      refine VTS_read rfl (S_load sg3 rfl hat) rfl rfl rfl ?_
      refine VTS_read rfl (S_loadB sg22 rfl (.there (.here)) rfl) rfl rfl rfl ?_
      refine VTS_pure rfl (P_len il22 rfl) rfl rfl rfl ?_
      refine VTS_pure rfl (dt (P_geq rfl rfl) (by omega)) rfl rfl rfl ?_
      refine VTS_pure rfl (P_pick_f rfl rfl) rfl rfl rfl ?_
      refine VTS_nil ?_
      refine QS_then ?_
      refine TS_true rfl ?_
      refine TS_seq ?_
      refine TS_region ?_
      refine VS_pure (P_assign rfl) rfl rfl rfl ?_
      refine VS_pure (P_assign rfl) rfl rfl rfl ?_
      refine VS_nil ?_
      refine QS_then ?_
      refine TS_ret ?_
      refine QS_then_ret ?_
      refine QS_block_ret ?_
      refine QS_then_ret ?_
      refine QS_round4_ret ?_
      refine QS_block_ret ?_
      refine QS_then_ret ?_
      exact QS_ret [_, _] ⟨rfl, rfl, trivial⟩ [_] (.cons .here (.nil _)) ⟨none, 0, rfl, rfl⟩
    have hk : k < b.cards.length := by omega
    have hA0 : A0.isSome = true := r3.isSome (by omega)
    obtain ⟨u, a1, a2, a3, a4, a5, a6, AA, la, ca, B, lb, cb, D, ld, cd, z, hc⟩ := CardR.form (r5 k hk)
    have hat2 := r3.elem (k * 12) 12
    rw [hc] at hat2
    have hcn : mc m (((sa A0).add (k * 12)).add 0) = some (sV (nam b k)) := by
      have := hat2.at_ (o := 0) rfl
      rw [this]
      unfold nam names
      simp [hk]
    replace hgood := hgood (by unfold inBk; rw [decide_eq_true (by omega), decide_eq_true (by omega)]; rfl)
    clear hbad hat2 hc
    refine TS_seq ?_
    refine TS_seq ?_
    refine TS_region ?_
    refine VS_pure (P_move rfl) rfl rfl rfl ?_
    refine VS_pure (P_move rfl) rfl rfl rfl ?_
    refine VS_pure (P_len il40 rfl) rfl rfl rfl ?_
    refine VS_pure (dt (P_lss rfl rfl) (by omega)) rfl rfl rfl ?_
    refine VS_nil ?_
    refine QS_then ?_
    refine TS_true rfl ?_
    refine TS_skip ?_
    refine QS_then ?_
    refine TS_seq ?_
    refine TS_block ?_
    refine TS_seq ?_
    refine TS_seq ?_
    refine TS_draw (.step 0 .pure (.step 1 .pure (.step 2 .pure (.step 3 .read (.step 4 .pure (.step 5 .pure (.step 6 .pure (.step 7 .pure (.step 8 .pure (.step 10 .pure (.step 9 .read (.step 11 .read (.step 12 .pure (.step 13 .pure (.step 14 .pure (.done)))))))))))))))) mixed (by kernel_rfl) (fun _ _ _ _ hq => hq) ?_
    refine VTS_pure rfl (P_move rfl) rfl rfl rfl ?_
    refine VTS_pure rfl (P_move rfl) rfl rfl rfl ?_
    refine VTS_pure rfl (P_indexAddr1N ez40 rfl rfl hA (by omega)) rfl rfl rfl ?_
    refine VTS_read rfl (S_load sg3 rfl hat) rfl rfl rfl ?_
    refine VTS_pure rfl (df (P_lss rfl rfl) (by assumption)) rfl rfl rfl ?_
    iterate 3 (refine VTS_pure rfl (P_move rfl) rfl rfl rfl ?_)
    refine VTS_pure rfl (P_indexAddr1N ez40 rfl rfl hA (by omega)) rfl rfl rfl ?_
    refine VTS_pure rfl (P_fieldAddr0 fo25_0 rfl) rfl rfl rfl ?_
    refine VTS_read rfl (S_load sg3 rfl hat) rfl rfl rfl ?_
    refine VTS_read rfl (S_loadB sg22 rfl (.here) rfl) rfl rfl rfl ?_
    refine VTS_pure rfl (P_len il22 rfl) rfl rfl rfl ?_
    refine VTS_pure rfl (df (P_geq rfl rfl) (by omega)) rfl rfl rfl ?_
    refine VTS_pure rfl (P_pick_f rfl rfl) rfl rfl rfl ?_
    refine VTS_nil ?_
    refine QS_then ?_
    refine TS_false rfl ?_
    refine TS_skip ?_
    refine QS_then ?_
    refine TS_draw (.step 0 .pure (.step 1 .pure (.step 3 .pure (.step 4 .pure (.step 5 .pure (.step 2 .read (.step 6 .read (.step 7 .pure (.step 8 .pure (.step 9 .read (.step 10 .kept (.step 11 .wild (.step 12 .pure (.done)))))))))))))) mixed (by kernel_rfl) (fun _ _ _ _ hq => hq) ?_
    refine VTS_pure rfl (P_move rfl) rfl rfl rfl ?_
    refine VTS_pure rfl (P_fieldAddr0 fo25_0 rfl) rfl rfl rfl ?_
    refine VTS_pure rfl (P_move rfl) rfl rfl rfl ?_
    refine VTS_pure rfl (P_move rfl) rfl rfl rfl ?_
    refine VTS_pure rfl (P_indexAddr1N ez40 rfl rfl hA (by omega)) rfl rfl rfl ?_
    refine VTS_read rfl (S_loadB sg22 rfl (.here) rfl) rfl rfl rfl ?_
    refine VTS_read rfl (S_load sg3 rfl hat) rfl rfl rfl ?_
    refine VTS_pure rfl (P_indexAddrN ez22 rfl rfl hA0 (by omega)) rfl rfl rfl ?_
    refine VTS_pure rfl (P_fieldAddr fo69_0 rfl) rfl rfl rfl ?_
    refine VTS_read rfl (S_load sg9 rfl hcn) rfl rfl rfl ?_
    refine VTS_kept rfl (S_buildSlice sl26 rfl rfl rfl rfl (fun b2 => ?_)) rfl
    refine VTS_wild rfl rfl (S_append sl26 rfl rfl rfl rfl (.here) (fun _ _ => (.there (.there (.here)))) rfl rfl (by first | omega | (simp only [maxLen]; omega)) (by omega) rfl (fun A1 c1 => ?_)) rfl
    refine VTS_pure rfl (P_assign rfl) rfl rfl rfl ?_
    refine VTS_nil ?_
    refine QS_block ?_
    refine QS_then ?_
    refine TS_region ?_
    refine VS_pure (P_move rfl) rfl rfl rfl ?_
    refine VS_pure (P_add rfl rfl (w64 (by omega) (by omega))) rfl rfl rfl ?_
    refine VS_pure (P_assign rfl) rfl rfl rfl ?_
    refine VS_nil ?_
    refine QS_round4 (Le.refl _) (i + 1) A1 c1 () ⟨rfl, rfl, rfl, rfl, trivial⟩ ?_ ⟨hlt, hgood⟩ (by omega)
    rw [hnx]
    exact .cons (.there .here) (.cons (.there .here) (.nil _))
  · have hi2 : i = l.length := by omega
    subst hi2
    have hp : namesP b l = (l.map (nam b), 0) := by
      unfold namesP
      rw [if_pos (all_good fun j hj => hfd j hj (by omega))]
    rw [hp, List.take_length]
    refine TS_seq ?_
    refine TS_seq ?_
    refine TS_region ?_
    refine VS_pure (P_move rfl) rfl rfl rfl ?_
    refine VS_pure (P_move rfl) rfl rfl rfl ?_
    refine VS_pure (P_len il40 rfl) rfl rfl rfl ?_
    refine VS_pure (df (P_lss rfl rfl) (by omega)) rfl rfl rfl ?_
    refine VS_nil ?_
    refine QS_then ?_
    refine TS_false rfl ?_
    refine TS_exit ?_
    refine QS_then_exit ?_
    refine QS_round4_exit ?_
    refine QS_block_here ?_
    refine QS_then ?_
    refine TS_seq ?_
    refine TS_region ?_
    refine VS_pure (P_move rfl) rfl rfl rfl ?_
    refine VS_pure (P_assign rfl) rfl rfl rfl ?_
    refine VS_pure (P_assign rfl) rfl rfl rfl ?_
    refine VS_nil ?_
    refine QS_then ?_
    refine TS_ret ?_
    exact QS_ret [_, _] ⟨rfl, rfl, trivial⟩ [_] (.cons (.there .here) (.nil _)) ⟨A', c', by dsimp only; rw [List.length_map]; rfl, by dsimp only; rw [List.length_map]⟩
set_option maxHeartbeats 8000000 in
theorem same18 {m : Mp} {A B : Option Addr} {c c2 : Nat} {xs ys : List Int} (hx : Rd m A (xs.map iV)) (hy : Rd m B (ys.map iV)) (hxl : xs.length ≤ 4000) (hyl : ys.length ≤ 9223372036854775807) : CS Tryd.prog 18 [.slice A xs.length c, .slice B ys.length c2] m [] (Gives (.bool (decide (xs = ys)))) := by
  refine CS_of [.tmp 4] Tryd.func18 rfl rfl rfl ?_
  by_cases hl : xs.length = ys.length
  · refine TS_seq ?_
    refine TS_region ?_
    refine VS_pure (P_assign rfl) rfl rfl rfl ?_
    refine VS_nil ?_
    refine QS_then ?_
    refine TS_seq ?_
    refine TS_seq ?_
    refine TS_region ?_
    refine VS_pure (P_move rfl) rfl rfl rfl ?_
    refine VS_pure (P_len il40 rfl) rfl rfl rfl ?_
    refine VS_pure (P_move rfl) rfl rfl rfl ?_
    refine VS_pure (P_len il40 rfl) rfl rfl rfl ?_
    refine VS_pure (df (P_neq rfl rfl) (by omega)) rfl rfl rfl ?_
    refine VS_nil ?_
    refine QS_then ?_
    refine TS_false rfl ?_
    refine TS_skip ?_
    refine QS_then ?_
    refine TS_seq ?_
    refine TS_seq ?_
    refine TS_region ?_
    refine VS_pure (P_assign rfl) rfl rfl rfl ?_
    refine VS_nil ?_
    refine QS_then ?_
    refine TS_block ?_
    refine TS_loop (α := Nat) (fun i => [(0, .slice A xs.length c), (1, .slice B ys.length c2), (5, .int .i64 (i : Nat))]) (fun _ => []) (fun i => i ≤ xs.length ∧ xs.take i = ys.take i) (fun i => xs.length - i) 0 ⟨rfl, rfl, rfl, trivial⟩ (Pick.refl _) ⟨Nat.zero_le _, rfl⟩ ?_
    rintro i ⟨hi, ht⟩
    by_cases hlt : i < xs.length
    · have hA : A.isSome = true := hx.isSome (by simp; omega)
      have hB : B.isSome = true := hy.isSome (by simp; omega)
      have ha : mc m ((sa A).add i) = some (iV xs[i]) := hx.at_ (by simp [hlt])
      have hb : mc m ((sa B).add i) = some (iV (ys[i]'(by omega))) := hy.at_ (by simp [show i < ys.length by omega])
      by_cases he : xs[i] = ys[i]'(by omega)
      · refine TS_seq ?_
        refine TS_seq ?_
        refine TS_region ?_
        refine VS_pure (P_move rfl) rfl rfl rfl ?_
        refine VS_pure (P_move rfl) rfl rfl rfl ?_
        refine VS_pure (P_len il40 rfl) rfl rfl rfl ?_
        refine VS_pure (dt (P_lss rfl rfl) (by omega)) rfl rfl rfl ?_
        refine VS_nil ?_
        refine QS_then ?_
        refine TS_true rfl ?_
        refine TS_skip ?_
        refine QS_then ?_
        refine TS_seq ?_
        refine TS_block ?_
        refine TS_seq ?_
        refine TS_draw (.step 0 .pure (.step 1 .pure (.step 2 .pure (.step 4 .pure (.step 5 .pure (.step 6 .pure (.step 3 .read (.step 7 .read (.step 8 .pure (.done)))))))))) mixed (by kernel_rfl) (fun _ _ _ _ hq => hq) ?_
        refine VTS_pure rfl (P_move rfl) rfl rfl rfl ?_
        refine VTS_pure rfl (P_move rfl) rfl rfl rfl ?_
        refine VTS_pure rfl (P_indexAddr1N ez40 rfl rfl hA (by omega)) rfl rfl rfl ?_
        refine VTS_pure rfl (P_move rfl) rfl rfl rfl ?_
        refine VTS_pure rfl (P_move rfl) rfl rfl rfl ?_
        refine VTS_pure rfl (P_indexAddr1N ez40 rfl rfl hB (by omega)) rfl rfl rfl ?_
        refine VTS_read rfl (S_load sg3 rfl ha) rfl rfl rfl ?_
        refine VTS_read rfl (S_load sg3 rfl hb) rfl rfl rfl ?_
        refine VTS_pure rfl (df (P_neq rfl rfl) (by omega)) rfl rfl rfl ?_
        refine VTS_nil ?_
        refine QS_then ?_
        refine TS_false rfl ?_
        refine TS_skip ?_
        refine QS_block ?_
        refine QS_then ?_
        refine TS_region ?_
        refine VS_pure (P_move rfl) rfl rfl rfl ?_
        refine VS_pure (P_add rfl rfl (w64 (by omega) (by omega))) rfl rfl rfl ?_
        refine VS_pure (P_assign rfl) rfl rfl rfl ?_
        refine VS_nil ?_
        exact QS_round (i + 1) ⟨rfl, rfl, rfl, trivial⟩ (Pick.refl _) ⟨hlt, take_step ht hlt (by omega) he⟩ (by omega)
      · have hne : ¬ xs = ys := fun e => he (by subst e; rfl)
        rw [decide_eq_false hne]
        refine TS_seq ?_
        refine TS_seq ?_
        refine TS_region ?_
        refine VS_pure (P_move rfl) rfl rfl rfl ?_
        refine VS_pure (P_move rfl) rfl rfl rfl ?_
        refine VS_pure (P_len il40 rfl) rfl rfl rfl ?_
        refine VS_pure (dt (P_lss rfl rfl) (by omega)) rfl rfl rfl ?_
        refine VS_nil ?_
        refine QS_then ?_
        refine TS_true rfl ?_
        refine TS_skip ?_
        refine QS_then ?_
        refine TS_seq ?_
        refine TS_block ?_
        refine TS_seq ?_
        refine TS_draw (.step 0 .pure (.step 1 .pure (.step 2 .pure (.step 4 .pure (.step 5 .pure (.step 6 .pure (.step 3 .read (.step 7 .read (.step 8 .pure (.done)))))))))) mixed (by kernel_rfl) (fun _ _ _ _ hq => hq) ?_
        refine VTS_pure rfl (P_move rfl) rfl rfl rfl ?_
        refine VTS_pure rfl (P_move rfl) rfl rfl rfl ?_
        refine VTS_pure rfl (P_indexAddr1N ez40 rfl rfl hA (by omega)) rfl rfl rfl ?_
        refine VTS_pure rfl (P_move rfl) rfl rfl rfl ?_
        refine VTS_pure rfl (P_move rfl) rfl rfl rfl ?_
        refine VTS_pure rfl (P_indexAddr1N ez40 rfl rfl hB (by omega)) rfl rfl rfl ?_
        refine VTS_read rfl (S_load sg3 rfl ha) rfl rfl rfl ?_
        refine VTS_read rfl (S_load sg3 rfl hb) rfl rfl rfl ?_
        refine VTS_pure rfl (dt (P_neq rfl rfl) (by assumption)) rfl rfl rfl ?_
        refine VTS_nil ?_
        refine QS_then ?_
        refine TS_true rfl ?_
        refine TS_seq ?_
        refine TS_region ?_
        refine VS_pure (P_assign rfl) rfl rfl rfl ?_
        refine VS_nil ?_
        refine QS_then ?_
        refine TS_ret ?_
        refine QS_block_ret ?_
        refine QS_then_ret ?_
        refine QS_round_ret ?_
        refine QS_block_ret ?_
        refine QS_then_ret ?_
        exact QS_ret [_] ⟨rfl, trivial⟩ [] (Pick.nil _) ⟨rfl, rfl⟩
    · have he : xs = ys := take_all ht (by omega) hl
      rw [decide_eq_true he]
      refine TS_seq ?_
      refine TS_seq ?_
      refine TS_region ?_
      refine VS_pure (P_move rfl) rfl rfl rfl ?_
      refine VS_pure (P_move rfl) rfl rfl rfl ?_
      refine VS_pure (P_len il40 rfl) rfl rfl rfl ?_
      refine VS_pure (df (P_lss rfl rfl) (by omega)) rfl rfl rfl ?_
      refine VS_nil ?_
      refine QS_then ?_
      refine TS_false rfl ?_
      refine TS_exit ?_
      refine QS_then_exit ?_
      refine QS_round_exit ?_
      refine QS_block_here ?_
      refine QS_then ?_
      refine TS_seq ?_
      refine TS_region ?_
      refine VS_pure (P_assign rfl) rfl rfl rfl ?_
      refine VS_nil ?_
      refine QS_then ?_
      refine TS_ret ?_
      exact QS_ret [_] ⟨rfl, trivial⟩ [] (Pick.nil _) ⟨rfl, rfl⟩
  · have hne : ¬ xs = ys := fun e => hl (by rw [e])
    rw [decide_eq_false hne]
    refine TS_seq ?_
    refine TS_region ?_
    refine VS_pure (P_assign rfl) rfl rfl rfl ?_
    refine VS_nil ?_
    refine QS_then ?_
    refine TS_seq ?_
    refine TS_seq ?_
    refine TS_region ?_
    refine VS_pure (P_move rfl) rfl rfl rfl ?_
    refine VS_pure (P_len il40 rfl) rfl rfl rfl ?_
    refine VS_pure (P_move rfl) rfl rfl rfl ?_
    refine VS_pure (P_len il40 rfl) rfl rfl rfl ?_
    refine VS_pure (dt (P_neq rfl rfl) (by omega)) rfl rfl rfl ?_
    refine VS_nil ?_
    refine QS_then ?_
    refine TS_true rfl ?_
    refine TS_seq ?_
    refine TS_region ?_
    refine VS_pure (P_assign rfl) rfl rfl rfl ?_
    refine VS_nil ?_
    refine QS_then ?_
    refine TS_ret ?_
    refine QS_then_ret ?_
    exact QS_ret [_] ⟨rfl, trivial⟩ [] (Pick.nil _) ⟨rfl, rfl⟩
set_option maxHeartbeats 8000000 in
theorem same33 {m : Mp} {A B : Option Addr} {c c2 : Nat} {xs ys : List (List UInt8)} (hx : Rd m A (xs.map sV)) (hy : Rd m B (ys.map sV)) (hxl : xs.length ≤ 4000) (hyl : ys.length ≤ 9223372036854775807) : CS Tryd.prog 33 [.slice A xs.length c, .slice B ys.length c2] m [] (Gives (.bool (decide (xs = ys)))) := by
  refine CS_of [.tmp 4] Tryd.func33 rfl rfl rfl ?_
  by_cases hl : xs.length = ys.length
  · refine TS_seq ?_
    refine TS_region ?_
    refine VS_pure (P_assign rfl) rfl rfl rfl ?_
    refine VS_nil ?_
    refine QS_then ?_
    refine TS_seq ?_
    refine TS_seq ?_
    refine TS_region ?_
    refine VS_pure (P_move rfl) rfl rfl rfl ?_
    refine VS_pure (P_len il26 rfl) rfl rfl rfl ?_
    refine VS_pure (P_move rfl) rfl rfl rfl ?_
    refine VS_pure (P_len il26 rfl) rfl rfl rfl ?_
    refine VS_pure (df (P_neq rfl rfl) (by omega)) rfl rfl rfl ?_
    refine VS_nil ?_
    refine QS_then ?_
    refine TS_false rfl ?_
    refine TS_skip ?_
    refine QS_then ?_
    refine TS_seq ?_
    refine TS_seq ?_
    refine TS_region ?_
    refine VS_pure (P_assign rfl) rfl rfl rfl ?_
    refine VS_nil ?_
    refine QS_then ?_
    refine TS_block ?_
    refine TS_loop (α := Nat) (fun i => [(0, .slice A xs.length c), (1, .slice B ys.length c2), (5, .int .i64 (i : Nat))]) (fun _ => []) (fun i => i ≤ xs.length ∧ xs.take i = ys.take i) (fun i => xs.length - i) 0 ⟨rfl, rfl, rfl, trivial⟩ (Pick.refl _) ⟨Nat.zero_le _, rfl⟩ ?_
    rintro i ⟨hi, ht⟩
    by_cases hlt : i < xs.length
    · have hA : A.isSome = true := hx.isSome (by simp; omega)
      have hB : B.isSome = true := hy.isSome (by simp; omega)
      have ha : mc m ((sa A).add i) = some (sV xs[i]) := hx.at_ (by simp [hlt])
      have hb : mc m ((sa B).add i) = some (sV (ys[i]'(by omega))) := hy.at_ (by simp [show i < ys.length by omega])
      by_cases he : xs[i] = ys[i]'(by omega)
      · refine TS_seq ?_
        refine TS_seq ?_
        refine TS_region ?_
        refine VS_pure (P_move rfl) rfl rfl rfl ?_
        refine VS_pure (P_move rfl) rfl rfl rfl ?_
        refine VS_pure (P_len il26 rfl) rfl rfl rfl ?_
        refine VS_pure (dt (P_lss rfl rfl) (by omega)) rfl rfl rfl ?_
        refine VS_nil ?_
        refine QS_then ?_
        refine TS_true rfl ?_
        refine TS_skip ?_
        refine QS_then ?_
        refine TS_seq ?_
        refine TS_block ?_
        refine TS_seq ?_
        refine TS_draw (.step 0 .pure (.step 1 .pure (.step 2 .pure (.step 4 .pure (.step 5 .pure (.step 6 .pure (.step 3 .read (.step 7 .read (.step 8 .pure (.done)))))))))) mixed (by kernel_rfl) (fun _ _ _ _ hq => hq) ?_
        refine VTS_pure rfl (P_move rfl) rfl rfl rfl ?_
        refine VTS_pure rfl (P_move rfl) rfl rfl rfl ?_
        refine VTS_pure rfl (P_indexAddr1N ez26 rfl rfl hA (by omega)) rfl rfl rfl ?_
        refine VTS_pure rfl (P_move rfl) rfl rfl rfl ?_
        refine VTS_pure rfl (P_move rfl) rfl rfl rfl ?_
        refine VTS_pure rfl (P_indexAddr1N ez26 rfl rfl hB (by omega)) rfl rfl rfl ?_
        refine VTS_read rfl (S_load sg9 rfl ha) rfl rfl rfl ?_
        refine VTS_read rfl (S_load sg9 rfl hb) rfl rfl rfl ?_
        refine VTS_pure rfl (df (P_sneq rfl rfl) (fun hx => hx (by assumption))) rfl rfl rfl ?_
        refine VTS_nil ?_
        refine QS_then ?_
        refine TS_false rfl ?_
        refine TS_skip ?_
        refine QS_block ?_
        refine QS_then ?_
        refine TS_region ?_
        refine VS_pure (P_move rfl) rfl rfl rfl ?_
        refine VS_pure (P_add rfl rfl (w64 (by omega) (by omega))) rfl rfl rfl ?_
        refine VS_pure (P_assign rfl) rfl rfl rfl ?_
        refine VS_nil ?_
        exact QS_round (i + 1) ⟨rfl, rfl, rfl, trivial⟩ (Pick.refl _) ⟨hlt, take_step ht hlt (by omega) he⟩ (by omega)
      · have hne : ¬ xs = ys := fun e => he (by subst e; rfl)
        rw [decide_eq_false hne]
        refine TS_seq ?_
        refine TS_seq ?_
        refine TS_region ?_
        refine VS_pure (P_move rfl) rfl rfl rfl ?_
        refine VS_pure (P_move rfl) rfl rfl rfl ?_
        refine VS_pure (P_len il26 rfl) rfl rfl rfl ?_
        refine VS_pure (dt (P_lss rfl rfl) (by omega)) rfl rfl rfl ?_
        refine VS_nil ?_
        refine QS_then ?_
        refine TS_true rfl ?_
        refine TS_skip ?_
        refine QS_then ?_
        refine TS_seq ?_
        refine TS_block ?_
        refine TS_seq ?_
        refine TS_draw (.step 0 .pure (.step 1 .pure (.step 2 .pure (.step 4 .pure (.step 5 .pure (.step 6 .pure (.step 3 .read (.step 7 .read (.step 8 .pure (.done)))))))))) mixed (by kernel_rfl) (fun _ _ _ _ hq => hq) ?_
        refine VTS_pure rfl (P_move rfl) rfl rfl rfl ?_
        refine VTS_pure rfl (P_move rfl) rfl rfl rfl ?_
        refine VTS_pure rfl (P_indexAddr1N ez26 rfl rfl hA (by omega)) rfl rfl rfl ?_
        refine VTS_pure rfl (P_move rfl) rfl rfl rfl ?_
        refine VTS_pure rfl (P_move rfl) rfl rfl rfl ?_
        refine VTS_pure rfl (P_indexAddr1N ez26 rfl rfl hB (by omega)) rfl rfl rfl ?_
        refine VTS_read rfl (S_load sg9 rfl ha) rfl rfl rfl ?_
        refine VTS_read rfl (S_load sg9 rfl hb) rfl rfl rfl ?_
        refine VTS_pure rfl (dt (P_sneq rfl rfl) (by assumption)) rfl rfl rfl ?_
        refine VTS_nil ?_
        refine QS_then ?_
        refine TS_true rfl ?_
        refine TS_seq ?_
        refine TS_region ?_
        refine VS_pure (P_assign rfl) rfl rfl rfl ?_
        refine VS_nil ?_
        refine QS_then ?_
        refine TS_ret ?_
        refine QS_block_ret ?_
        refine QS_then_ret ?_
        refine QS_round_ret ?_
        refine QS_block_ret ?_
        refine QS_then_ret ?_
        exact QS_ret [_] ⟨rfl, trivial⟩ [] (Pick.nil _) ⟨rfl, rfl⟩
    · have he : xs = ys := take_all ht (by omega) hl
      rw [decide_eq_true he]
      refine TS_seq ?_
      refine TS_seq ?_
      refine TS_region ?_
      refine VS_pure (P_move rfl) rfl rfl rfl ?_
      refine VS_pure (P_move rfl) rfl rfl rfl ?_
      refine VS_pure (P_len il26 rfl) rfl rfl rfl ?_
      refine VS_pure (df (P_lss rfl rfl) (by omega)) rfl rfl rfl ?_
      refine VS_nil ?_
      refine QS_then ?_
      refine TS_false rfl ?_
      refine TS_exit ?_
      refine QS_then_exit ?_
      refine QS_round_exit ?_
      refine QS_block_here ?_
      refine QS_then ?_
      refine TS_seq ?_
      refine TS_region ?_
      refine VS_pure (P_assign rfl) rfl rfl rfl ?_
      refine VS_nil ?_
      refine QS_then ?_
      refine TS_ret ?_
      exact QS_ret [_] ⟨rfl, trivial⟩ [] (Pick.nil _) ⟨rfl, rfl⟩
  · have hne : ¬ xs = ys := fun e => hl (by rw [e])
    rw [decide_eq_false hne]
    refine TS_seq ?_
    refine TS_region ?_
    refine VS_pure (P_assign rfl) rfl rfl rfl ?_
    refine VS_nil ?_
    refine QS_then ?_
    refine TS_seq ?_
    refine TS_seq ?_
    refine TS_region ?_
    refine VS_pure (P_move rfl) rfl rfl rfl ?_
    refine VS_pure (P_len il26 rfl) rfl rfl rfl ?_
    refine VS_pure (P_move rfl) rfl rfl rfl ?_
    refine VS_pure (P_len il26 rfl) rfl rfl rfl ?_
    refine VS_pure (dt (P_neq rfl rfl) (by omega)) rfl rfl rfl ?_
    refine VS_nil ?_
    refine QS_then ?_
    refine TS_true rfl ?_
    refine TS_seq ?_
    refine TS_region ?_
    refine VS_pure (P_assign rfl) rfl rfl rfl ?_
    refine VS_nil ?_
    refine QS_then ?_
    refine TS_ret ?_
    refine QS_then_ret ?_
    exact QS_ret [_] ⟨rfl, trivial⟩ [] (Pick.nil _) ⟨rfl, rfl⟩
set_option maxHeartbeats 4000000 in
theorem same19 {m : Mp} {A B : Option Addr} {c c2 : Nat} {xs ys : List (List UInt8)} (hx : Rd m A (xs.map sV)) (hy : Rd m B (ys.map sV)) (hxl : xs.length ≤ 4000) (hyl : ys.length ≤ 9223372036854775807) : CS Tryd.prog 19 [.slice A xs.length c, .slice B ys.length c2] m [] (Gives (.bool (decide (xs = ys)))) := by
  refine CS_of [.tmp 4] Tryd.func19 rfl rfl rfl ?_
  refine TS_seq ?_
  refine TS_region ?_
  refine VS_pure (P_assign rfl) rfl rfl rfl ?_
  refine VS_nil ?_
  refine QS_then ?_
  refine TS_seq ?_
  refine TS_region ?_
  refine VS_pure (P_move rfl) rfl rfl rfl ?_
  refine VS_pure (P_move rfl) rfl rfl rfl ?_
  refine VS_step (S_callR cl33 rfl (fun m' hm he => (same33 (c := c) (c2 := c2) (hx.mono hm) (hy.mono hm) hxl hyl)) rfl ?_) rfl
  rintro _ rfl
  refine VS_pure (P_assign rfl) rfl rfl rfl ?_
  refine VS_nil ?_
  refine QS_then ?_
  refine TS_ret ?_
  exact QS_ret [_] ⟨rfl, trivial⟩ [] (Pick.nil _) ⟨rfl, rfl⟩
end Go.Proofs.YtccleakfgmcjpaaDoor
