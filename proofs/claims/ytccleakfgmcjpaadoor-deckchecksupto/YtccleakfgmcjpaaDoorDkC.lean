/- A part of the proof: contracts of functions of the program. No condition. -/
import Derived.Test.YtccleakfgmcjpaaDoorDkA
import Derived.Test.YtccleakfgmcjpaaDoorDkP
import Derived.Test.YtccleakfgmcjpaaDoorEng2
namespace Go.Proofs.YtccleakfgmcjpaaDoor
open Go.Eng Dk
set_option maxRecDepth 100000
theorem CardR.form {m : Mp} {vs : List Value} {x : CardT} (h : CardR m vs x) : ∃ u a1 a2 a3 a4 a5 a6 A la ca B lb cb D ld cd z, vs = [sV x.name, .bool u, iV a1, iV a2, iV a3, iV a4, iV a5, iV a6, .slice A la ca, .slice B lb cb, .slice D ld cd, iV z] := by
  obtain ⟨A, la, ca, B, lb, cb, D, ld, cd, rfl, _⟩ := h
  exact ⟨_, _, _, _, _, _, _, _, _, _, _, _, _, _, _, _, _, rfl⟩
theorem FmtR.form {m : Mp} {vs : List Value} {x : FmtT} (h : FmtR m vs x) : ∃ A ca B cb, vs = [sV x.name, iV x.least, iV x.most, iV x.copies, .slice A x.banned.length ca, .slice B x.single.length cb, iV x.at_] := by
  obtain ⟨A, ca, B, cb, h, _⟩ := h
  exact ⟨A, ca, B, cb, h⟩
set_option maxHeartbeats 4000000 in
theorem isName39 {m : Mp} {cs : List Value} {x : CardT} {m0 : Mp} (hx : CardR m0 cs x) {s : List UInt8} {b : Nat} (hb : mc m ⟨b, 0, none⟩ = some (sV s)) : CS Tryd.prog 39 [.agg cs.toArray, .pointer (some ⟨b, 0, none⟩)] m [] (Gives (.bool (decide (x.name = s)))) := by
  obtain ⟨u, a1, a2, a3, a4, a5, a6, A1, la, ca, B, lb, cb, D, ld, cd, z, rfl⟩ := CardR.form hx
  refine CS_of [.tmp 3] Tryd.func39 rfl rfl rfl ?_
  by_cases he : x.name = s
  · rw [decide_eq_true he]
    refine TS_seq ?_
    refine TS_region ?_
    refine VS_step (S_box rfl rfl (fun b1 => ?_)) rfl
    refine VS_pure (P_assign rfl) rfl rfl rfl ?_
    refine VS_nil ?_
    refine QS_then ?_
    refine TS_seq ?_
    refine TS_region ?_
    refine VS_pure (P_fieldAddr0 fo69_0 rfl) rfl rfl rfl ?_
    refine VS_read (S_loadB sg9 rfl (.here) rfl) rfl rfl rfl ?_
    refine VS_read (S_load sg9 rfl hb) rfl rfl rfl ?_
    refine VS_pure (dt (P_seql rfl rfl) (by assumption)) rfl rfl rfl ?_
    refine VS_pure (P_assign rfl) rfl rfl rfl ?_
    refine VS_nil ?_
    refine QS_then ?_
    refine TS_ret ?_
    exact QS_ret [_] ⟨rfl, trivial⟩ [] (Pick.nil _) ⟨rfl, rfl⟩
  · rw [decide_eq_false he]
    refine TS_seq ?_
    refine TS_region ?_
    refine VS_step (S_box rfl rfl (fun b1 => ?_)) rfl
    refine VS_pure (P_assign rfl) rfl rfl rfl ?_
    refine VS_nil ?_
    refine QS_then ?_
    refine TS_seq ?_
    refine TS_region ?_
    refine VS_pure (P_fieldAddr0 fo69_0 rfl) rfl rfl rfl ?_
    refine VS_read (S_loadB sg9 rfl (.here) rfl) rfl rfl rfl ?_
    refine VS_read (S_load sg9 rfl hb) rfl rfl rfl ?_
    refine VS_pure (df (P_seql rfl rfl) (by assumption)) rfl rfl rfl ?_
    refine VS_pure (P_assign rfl) rfl rfl rfl ?_
    refine VS_nil ?_
    refine QS_then ?_
    refine TS_ret ?_
    exact QS_ret [_] ⟨rfl, trivial⟩ [] (Pick.nil _) ⟨rfl, rfl⟩
set_option maxHeartbeats 4000000 in
theorem idx49 {m : Mp} {A : Option Addr} {c : Nat} {l : List CardT} (hl : CardsR m A l.length l) {s : List UInt8} {b : Nat} (hb : mc m ⟨b, 0, none⟩ = some (sV s)) :
    CS Tryd.prog 49 [.slice A l.length c, .func (.func 39) [].toArray [.pointer (some ⟨b, 0, none⟩)].toArray] m [] (Gives (.int .i64 (ixI (ix s (l.map (·.name)))))) := by
  obtain ⟨_, q2, vs, q3, q4, q5⟩ := hl
  have q2 : l.length ≤ 9223372036854775807 := q2
  refine CS_of [.tmp 4] Tryd.func49 rfl rfl rfl ?_
  refine TS_seq ?_
  refine TS_region ?_
  refine VS_pure (P_assign rfl) rfl rfl rfl ?_
  refine VS_nil ?_
  refine QS_then ?_
  refine TS_seq ?_
  refine TS_seq ?_
  refine TS_region ?_
  refine VS_pure (P_move rfl) rfl rfl rfl ?_
  refine VS_pure (P_len il22 rfl) rfl rfl rfl ?_
  refine VS_pure (P_move rfl) rfl rfl rfl ?_
  refine VS_nil ?_
  refine QS_then ?_
  refine TS_block ?_
  refine TS_loop (α := Nat) (fun i => [(0, .slice A l.length c), (1, .func (.func 39) [].toArray [.pointer (some ⟨b, 0, none⟩)].toArray), (7, .int .i64 (l.length : Nat)), (8, .int .i64 (i : Nat))]) (fun _ => []) (fun i => i ≤ l.length ∧ ∀ j (hj : j < l.length), j < i → l[j].name ≠ s) (fun i => l.length - i) 0 ⟨rfl, rfl, rfl, rfl, trivial⟩ (Pick.refl _) ⟨Nat.zero_le _, fun j hj h => by omega⟩ ?_
  rintro i ⟨hi, hn⟩
  by_cases hlt : i < l.length
  · have hA : A.isSome = true := q3.isSome (by omega)
    have hat := q3.elem (i * 12) 12
    have hcard := q5 i hlt
    obtain ⟨u, a1, a2, a3, a4, a5, a6, A1, la, ca, B, lb, cb, D, ld, cd, z, hc⟩ := CardR.form hcard
    rw [hc] at hat hcard
    refine TS_seq ?_
    refine TS_region ?_
    refine VS_pure (dt (P_lss rfl rfl) (by omega)) rfl rfl rfl ?_
    refine VS_nil ?_
    refine QS_then ?_
    refine TS_seq ?_
    refine TS_true rfl ?_
    refine TS_skip ?_
    refine QS_then ?_
    refine TS_seq ?_
    refine TS_block ?_
    refine TS_seq ?_
    refine TS_region ?_
    refine VS_pure (P_move rfl) rfl rfl rfl ?_
    refine VS_pure (P_assign rfl) rfl rfl rfl ?_
    refine VS_nil ?_
    refine QS_then ?_
    refine TS_seq ?_
    refine TS_region ?_
    iterate 3 (refine VS_pure (P_move rfl) rfl rfl rfl ?_)
    refine VS_pure (P_indexAddrN ez22 rfl rfl hA (by omega)) rfl rfl rfl ?_
    refine VS_read (S_loadAt ag69 rfl rfl hat) rfl rfl rfl ?_
    refine VS_step ((S_callV (p := []) (q := [.pointer (some ⟨b, 0, none⟩)]) cl39 rfl rfl (fun m' hm he => isName39 hcard (mc_mono hm hb)) rfl ?_)) rfl
    rintro _ _ ⟨rfl, rfl⟩
    by_cases he : l[i].name = s
    · rw [decide_eq_true he]
      refine VS_nil ?_
      refine QS_then ?_
      refine TS_true rfl ?_
      refine TS_seq ?_
      refine TS_region ?_
      refine VS_pure (P_move rfl) rfl rfl rfl ?_
      refine VS_pure (P_assign rfl) rfl rfl rfl ?_
      refine VS_nil ?_
      refine QS_then ?_
      refine TS_ret ?_
      refine QS_block_ret ?_
      refine QS_then_ret ?_
      refine QS_round_ret ?_
      refine QS_block_ret ?_
      refine QS_then_ret ?_
      exact QS_ret [_] ⟨rfl, trivial⟩ [] (Pick.nil _) ⟨by rw [ix_some (i := i) (by simpa using hlt) (by rw [List.getElem_map]; exact he) (fun j hj => by rw [List.getElem_map]; exact hn j (by omega) hj)]; rfl, rfl⟩
    · rw [decide_eq_false he]
      refine VS_nil ?_
      refine QS_then ?_
      refine TS_false rfl ?_
      refine TS_skip ?_
      refine QS_block ?_
      refine QS_then ?_
      refine TS_region ?_
      refine VS_pure (P_add rfl rfl (w64 (by omega) (by omega))) rfl rfl rfl ?_
      refine VS_pure (P_move rfl) rfl rfl rfl ?_
      refine VS_nil ?_
      exact QS_round (i + 1) ⟨rfl, rfl, rfl, rfl, trivial⟩ (Pick.refl _) ⟨hlt, fun j hj h => by
        by_cases hji : j = i
        · subst hji; exact he
        · exact hn j hj (by omega)⟩ (by omega)
  · refine TS_seq ?_
    refine TS_region ?_
    refine VS_pure (df (P_lss rfl rfl) (by omega)) rfl rfl rfl ?_
    refine VS_nil ?_
    refine QS_then ?_
    refine TS_seq ?_
    refine TS_false rfl ?_
    refine TS_exit ?_
    refine QS_then_exit ?_
    refine QS_round_exit ?_
    refine QS_block_here ?_
    refine QS_then ?_
    refine TS_seq ?_
    refine TS_region ?_
    refine VS_pure (P_assign rfl) rfl rfl rfl ?_
    refine VS_nil ?_
    refine QS_then ?_
    refine TS_ret ?_
    exact QS_ret [_] ⟨rfl, trivial⟩ [] (Pick.nil _) ⟨by rw [ix_none (fun j hj => by rw [List.getElem_map]; exact hn j (by simpa using hj) (by simp at hj; omega))]; rfl, rfl⟩
set_option maxHeartbeats 4000000 in
theorem first38 {m0 m : Mp} (h0 : Le m0 m) {A : Option Addr} {c : Nat} {l : List CardT} (hl : CardsR m0 A l.length l) {s : List UInt8} {b : Nat} (hb : mc m ⟨b, 0, none⟩ = some (sV s)) :
    CS Tryd.prog 38 [.slice A l.length c, .func (.func 39) [].toArray [.pointer (some ⟨b, 0, none⟩)].toArray] m [] (fun v L' => L' = [] ∧ ((ix s (l.map (·.name)) = none ∧ v = .tuple [.agg ([sV [], .bool false, iV 0, iV 0, iV 0, iV 0, iV 0, iV 0, .slice none 0 0, .slice none 0 0, .slice none 0 0, iV 0] : List Value).toArray, .int .i64 0, .bool false].toArray) ∨ (∃ (i : Nat) (hi : i < l.length) (cs : List Value), ix s (l.map (·.name)) = some i ∧ CardR m0 cs l[i] ∧ v = .tuple [.agg cs.toArray, .int .i64 (i : Nat), .bool true].toArray))) := by
  have hl2 := hl
  obtain ⟨_, q2, vs, q3, q4, q5⟩ := hl2
  have q2 : l.length ≤ 9223372036854775807 := q2
  have IX := fun m' (hm : Le m m') => idx49 (c := c) (hl.mono (h0.trans hm)) (mc_mono hm hb)
  refine CS_of [.cell 4 69, .tmp 5, .tmp 6] Tryd.func38 rfl rfl rfl ?_
  cases hix : ix s (l.map (·.name)) with
  | none =>
    rw [hix] at IX
    refine TS_seq ?_
    refine TS_region ?_
    refine VS_step (S_alloc zl69 rfl (fun b1 => ?_)) rfl
    refine VS_pure (P_assign rfl) rfl rfl rfl ?_
    refine VS_pure (P_assign rfl) rfl rfl rfl ?_
    refine VS_nil ?_
    refine QS_then ?_
    refine TS_seq ?_
    refine TS_region ?_
    refine VS_pure (P_move rfl) rfl rfl rfl ?_
    refine VS_pure (P_move rfl) rfl rfl rfl ?_
    refine VS_step (S_callR cl49 rfl (fun m' hm he => (IX m' hm)) rfl ?_) rfl
    rintro _ rfl
    dsimp only [ixI]
    refine VS_pure (P_assign rfl) rfl rfl rfl ?_
    refine VS_nil ?_
    refine QS_then ?_
    refine TS_seq ?_
    refine TS_seq ?_
    refine TS_region ?_
    refine VS_pure (P_move rfl) rfl rfl rfl ?_
    refine VS_pure (dt (P_lss rfl rfl) (by omega)) rfl rfl rfl ?_
    refine VS_nil ?_
    refine QS_then ?_
    refine TS_true rfl ?_
    refine TS_seq ?_
    refine TS_region ?_
    refine VS_read (S_loadBA ag69 rfl (.here) rfl) rfl rfl rfl ?_
    refine VS_step (S_storeAgg ag69 rfl rfl rfl (.here) rfl rfl ?_) rfl
    refine VS_pure (P_assign rfl) rfl rfl rfl ?_
    refine VS_pure (P_assign rfl) rfl rfl rfl ?_
    refine VS_nil ?_
    refine QS_then ?_
    refine TS_ret ?_
    refine QS_then_ret ?_
    exact QS_ret [_, _, _] ⟨⟨_, _, _, _, rfl, .here, .inr ⟨ag69, rfl⟩⟩, rfl, rfl, trivial⟩ [] (Pick.nil _) ⟨rfl, .inl ⟨rfl, rfl⟩⟩
  | some i =>
    rw [hix] at IX
    obtain ⟨hi0, _, _⟩ := ix_lt hix
    have hi : i < l.length := by simpa using hi0
    have hA : A.isSome = true := q3.isSome (by omega)
    have hat := (q3.elem (i * 12) 12).mono h0
    have hcard := q5 i hi
    obtain ⟨u, a1, a2, a3, a4, a5, a6, A1, la, ca, B, lb, cb, D, ld, cd, z, hc⟩ := CardR.form hcard
    rw [hc] at hat hcard
    refine TS_seq ?_
    refine TS_region ?_
    refine VS_step (S_alloc zl69 rfl (fun b1 => ?_)) rfl
    refine VS_pure (P_assign rfl) rfl rfl rfl ?_
    refine VS_pure (P_assign rfl) rfl rfl rfl ?_
    refine VS_nil ?_
    refine QS_then ?_
    refine TS_seq ?_
    refine TS_region ?_
    refine VS_pure (P_move rfl) rfl rfl rfl ?_
    refine VS_pure (P_move rfl) rfl rfl rfl ?_
    refine VS_step (S_callR cl49 rfl (fun m' hm he => (IX m' hm)) rfl ?_) rfl
    rintro _ rfl
    dsimp only [ixI]
    refine VS_pure (P_assign rfl) rfl rfl rfl ?_
    refine VS_nil ?_
    refine QS_then ?_
    refine TS_seq ?_
    refine TS_seq ?_
    refine TS_region ?_
    refine VS_pure (P_move rfl) rfl rfl rfl ?_
    refine VS_pure (df (P_lss rfl rfl) (by omega)) rfl rfl rfl ?_
    refine VS_nil ?_
    refine QS_then ?_
    refine TS_false rfl ?_
    refine TS_skip ?_
    refine QS_then ?_
    refine TS_seq ?_
    refine TS_region ?_
    refine VS_pure (P_move rfl) rfl rfl rfl ?_
    refine VS_pure (P_move rfl) rfl rfl rfl ?_
    refine VS_pure (P_indexAddrN ez22 rfl rfl hA (by omega)) rfl rfl rfl ?_
    refine VS_read (S_loadAt ag69 rfl rfl hat) rfl rfl rfl ?_
    refine VS_pure (P_move rfl) rfl rfl rfl ?_
    refine VS_step (S_storeAgg ag69 rfl rfl rfl (.here) rfl rfl ?_) rfl
    refine VS_pure (P_assign rfl) rfl rfl rfl ?_
    refine VS_pure (P_assign rfl) rfl rfl rfl ?_
    refine VS_nil ?_
    refine QS_then ?_
    refine TS_ret ?_
    exact QS_ret [_, _, _] ⟨⟨_, _, _, _, rfl, .here, .inr ⟨ag69, rfl⟩⟩, rfl, rfl, trivial⟩ [] (Pick.nil _) ⟨rfl, .inr ⟨i, hi, _, rfl, hcard, rfl⟩⟩
set_option maxHeartbeats 4000000 in
theorem isName36 {m : Mp} {cs : List Value} {x : FmtT} {m0 : Mp} (hx : FmtR m0 cs x) {s : List UInt8} {b : Nat} (hb : mc m ⟨b, 0, none⟩ = some (sV s)) : CS Tryd.prog 36 [.agg cs.toArray, .pointer (some ⟨b, 0, none⟩)] m [] (Gives (.bool (decide (x.name = s)))) := by
  obtain ⟨A1, ca, B, cb, rfl⟩ := FmtR.form hx
  refine CS_of [.tmp 3] Tryd.func36 rfl rfl rfl ?_
  by_cases he : x.name = s
  · rw [decide_eq_true he]
    refine TS_seq ?_
    refine TS_region ?_
    refine VS_step (S_box rfl rfl (fun b1 => ?_)) rfl
    refine VS_pure (P_assign rfl) rfl rfl rfl ?_
    refine VS_nil ?_
    refine QS_then ?_
    refine TS_seq ?_
    refine TS_region ?_
    refine VS_pure (P_fieldAddr0 fo51_0 rfl) rfl rfl rfl ?_
    refine VS_read (S_loadB sg9 rfl (.here) rfl) rfl rfl rfl ?_
    refine VS_read (S_load sg9 rfl hb) rfl rfl rfl ?_
    refine VS_pure (dt (P_seql rfl rfl) (by assumption)) rfl rfl rfl ?_
    refine VS_pure (P_assign rfl) rfl rfl rfl ?_
    refine VS_nil ?_
    refine QS_then ?_
    refine TS_ret ?_
    exact QS_ret [_] ⟨rfl, trivial⟩ [] (Pick.nil _) ⟨rfl, rfl⟩
  · rw [decide_eq_false he]
    refine TS_seq ?_
    refine TS_region ?_
    refine VS_step (S_box rfl rfl (fun b1 => ?_)) rfl
    refine VS_pure (P_assign rfl) rfl rfl rfl ?_
    refine VS_nil ?_
    refine QS_then ?_
    refine TS_seq ?_
    refine TS_region ?_
    refine VS_pure (P_fieldAddr0 fo51_0 rfl) rfl rfl rfl ?_
    refine VS_read (S_loadB sg9 rfl (.here) rfl) rfl rfl rfl ?_
    refine VS_read (S_load sg9 rfl hb) rfl rfl rfl ?_
    refine VS_pure (df (P_seql rfl rfl) (by assumption)) rfl rfl rfl ?_
    refine VS_pure (P_assign rfl) rfl rfl rfl ?_
    refine VS_nil ?_
    refine QS_then ?_
    refine TS_ret ?_
    exact QS_ret [_] ⟨rfl, trivial⟩ [] (Pick.nil _) ⟨rfl, rfl⟩
set_option maxHeartbeats 4000000 in
theorem idx48 {m : Mp} {A : Option Addr} {c : Nat} {l : List FmtT} (hl : FmtsR m A l) {s : List UInt8} {b : Nat} (hb : mc m ⟨b, 0, none⟩ = some (sV s)) :
    CS Tryd.prog 48 [.slice A l.length c, .func (.func 36) [].toArray [.pointer (some ⟨b, 0, none⟩)].toArray] m [] (Gives (.int .i64 (ixI (ix s (l.map (·.name)))))) := by
  obtain ⟨q2, vs, q3, q4, q5⟩ := hl
  
  refine CS_of [.tmp 4] Tryd.func48 rfl rfl rfl ?_
  refine TS_seq ?_
  refine TS_region ?_
  refine VS_pure (P_assign rfl) rfl rfl rfl ?_
  refine VS_nil ?_
  refine QS_then ?_
  refine TS_seq ?_
  refine TS_seq ?_
  refine TS_region ?_
  refine VS_pure (P_move rfl) rfl rfl rfl ?_
  refine VS_pure (P_len il23 rfl) rfl rfl rfl ?_
  refine VS_pure (P_move rfl) rfl rfl rfl ?_
  refine VS_nil ?_
  refine QS_then ?_
  refine TS_block ?_
  refine TS_loop (α := Nat) (fun i => [(0, .slice A l.length c), (1, .func (.func 36) [].toArray [.pointer (some ⟨b, 0, none⟩)].toArray), (7, .int .i64 (l.length : Nat)), (8, .int .i64 (i : Nat))]) (fun _ => []) (fun i => i ≤ l.length ∧ ∀ j (hj : j < l.length), j < i → l[j].name ≠ s) (fun i => l.length - i) 0 ⟨rfl, rfl, rfl, rfl, trivial⟩ (Pick.refl _) ⟨Nat.zero_le _, fun j hj h => by omega⟩ ?_
  rintro i ⟨hi, hn⟩
  by_cases hlt : i < l.length
  · have hA : A.isSome = true := q3.isSome (by omega)
    have hat := q3.elem (i * 7) 7
    have hcard := q5 i hlt
    obtain ⟨A1, ca, B, cb, hc⟩ := FmtR.form hcard
    rw [hc] at hat hcard
    refine TS_seq ?_
    refine TS_region ?_
    refine VS_pure (dt (P_lss rfl rfl) (by omega)) rfl rfl rfl ?_
    refine VS_nil ?_
    refine QS_then ?_
    refine TS_seq ?_
    refine TS_true rfl ?_
    refine TS_skip ?_
    refine QS_then ?_
    refine TS_seq ?_
    refine TS_block ?_
    refine TS_seq ?_
    refine TS_region ?_
    refine VS_pure (P_move rfl) rfl rfl rfl ?_
    refine VS_pure (P_assign rfl) rfl rfl rfl ?_
    refine VS_nil ?_
    refine QS_then ?_
    refine TS_seq ?_
    refine TS_region ?_
    iterate 3 (refine VS_pure (P_move rfl) rfl rfl rfl ?_)
    refine VS_pure (P_indexAddrN ez23 rfl rfl hA (by omega)) rfl rfl rfl ?_
    refine VS_read (S_loadAt ag51 rfl rfl hat) rfl rfl rfl ?_
    refine VS_step ((S_callV (p := []) (q := [.pointer (some ⟨b, 0, none⟩)]) cl36 rfl rfl (fun m' hm he => isName36 hcard (mc_mono hm hb)) rfl ?_)) rfl
    rintro _ _ ⟨rfl, rfl⟩
    by_cases he : l[i].name = s
    · rw [decide_eq_true he]
      refine VS_nil ?_
      refine QS_then ?_
      refine TS_true rfl ?_
      refine TS_seq ?_
      refine TS_region ?_
      refine VS_pure (P_move rfl) rfl rfl rfl ?_
      refine VS_pure (P_assign rfl) rfl rfl rfl ?_
      refine VS_nil ?_
      refine QS_then ?_
      refine TS_ret ?_
      refine QS_block_ret ?_
      refine QS_then_ret ?_
      refine QS_round_ret ?_
      refine QS_block_ret ?_
      refine QS_then_ret ?_
      exact QS_ret [_] ⟨rfl, trivial⟩ [] (Pick.nil _) ⟨by rw [ix_some (i := i) (by simpa using hlt) (by rw [List.getElem_map]; exact he) (fun j hj => by rw [List.getElem_map]; exact hn j (by omega) hj)]; rfl, rfl⟩
    · rw [decide_eq_false he]
      refine VS_nil ?_
      refine QS_then ?_
      refine TS_false rfl ?_
      refine TS_skip ?_
      refine QS_block ?_
      refine QS_then ?_
      refine TS_region ?_
      refine VS_pure (P_add rfl rfl (w64 (by omega) (by omega))) rfl rfl rfl ?_
      refine VS_pure (P_move rfl) rfl rfl rfl ?_
      refine VS_nil ?_
      exact QS_round (i + 1) ⟨rfl, rfl, rfl, rfl, trivial⟩ (Pick.refl _) ⟨hlt, fun j hj h => by
        by_cases hji : j = i
        · subst hji; exact he
        · exact hn j hj (by omega)⟩ (by omega)
  · refine TS_seq ?_
    refine TS_region ?_
    refine VS_pure (df (P_lss rfl rfl) (by omega)) rfl rfl rfl ?_
    refine VS_nil ?_
    refine QS_then ?_
    refine TS_seq ?_
    refine TS_false rfl ?_
    refine TS_exit ?_
    refine QS_then_exit ?_
    refine QS_round_exit ?_
    refine QS_block_here ?_
    refine QS_then ?_
    refine TS_seq ?_
    refine TS_region ?_
    refine VS_pure (P_assign rfl) rfl rfl rfl ?_
    refine VS_nil ?_
    refine QS_then ?_
    refine TS_ret ?_
    exact QS_ret [_] ⟨rfl, trivial⟩ [] (Pick.nil _) ⟨by rw [ix_none (fun j hj => by rw [List.getElem_map]; exact hn j (by simpa using hj) (by simp at hj; omega))]; rfl, rfl⟩
set_option maxHeartbeats 4000000 in
theorem first35 {m0 m : Mp} (h0 : Le m0 m) {A : Option Addr} {c : Nat} {l : List FmtT} (hl : FmtsR m0 A l) {s : List UInt8} {b : Nat} (hb : mc m ⟨b, 0, none⟩ = some (sV s)) :
    CS Tryd.prog 35 [.slice A l.length c, .func (.func 36) [].toArray [.pointer (some ⟨b, 0, none⟩)].toArray] m [] (fun v L' => L' = [] ∧ ((ix s (l.map (·.name)) = none ∧ v = .tuple [.agg ([sV [], iV 0, iV 0, iV 0, .slice none 0 0, .slice none 0 0, iV 0] : List Value).toArray, .int .i64 0, .bool false].toArray) ∨ (∃ (i : Nat) (hi : i < l.length) (cs : List Value), ix s (l.map (·.name)) = some i ∧ FmtR m0 cs l[i] ∧ v = .tuple [.agg cs.toArray, .int .i64 (i : Nat), .bool true].toArray))) := by
  have hl2 := hl
  obtain ⟨q2, vs, q3, q4, q5⟩ := hl2
  
  have IX := fun m' (hm : Le m m') => idx48 (c := c) (hl.mono (h0.trans hm)) (mc_mono hm hb)
  refine CS_of [.cell 4 51, .tmp 5, .tmp 6] Tryd.func35 rfl rfl rfl ?_
  cases hix : ix s (l.map (·.name)) with
  | none =>
    rw [hix] at IX
    refine TS_seq ?_
    refine TS_region ?_
    refine VS_step (S_alloc zl51 rfl (fun b1 => ?_)) rfl
    refine VS_pure (P_assign rfl) rfl rfl rfl ?_
    refine VS_pure (P_assign rfl) rfl rfl rfl ?_
    refine VS_nil ?_
    refine QS_then ?_
    refine TS_seq ?_
    refine TS_region ?_
    refine VS_pure (P_move rfl) rfl rfl rfl ?_
    refine VS_pure (P_move rfl) rfl rfl rfl ?_
    refine VS_step (S_callR cl48 rfl (fun m' hm he => (IX m' hm)) rfl ?_) rfl
    rintro _ rfl
    dsimp only [ixI]
    refine VS_pure (P_assign rfl) rfl rfl rfl ?_
    refine VS_nil ?_
    refine QS_then ?_
    refine TS_seq ?_
    refine TS_seq ?_
    refine TS_region ?_
    refine VS_pure (P_move rfl) rfl rfl rfl ?_
    refine VS_pure (dt (P_lss rfl rfl) (by omega)) rfl rfl rfl ?_
    refine VS_nil ?_
    refine QS_then ?_
    refine TS_true rfl ?_
    refine TS_seq ?_
    refine TS_region ?_
    refine VS_read (S_loadBA ag51 rfl (.here) rfl) rfl rfl rfl ?_
    refine VS_step (S_storeAgg ag51 rfl rfl rfl (.here) rfl rfl ?_) rfl
    refine VS_pure (P_assign rfl) rfl rfl rfl ?_
    refine VS_pure (P_assign rfl) rfl rfl rfl ?_
    refine VS_nil ?_
    refine QS_then ?_
    refine TS_ret ?_
    refine QS_then_ret ?_
    exact QS_ret [_, _, _] ⟨⟨_, _, _, _, rfl, .here, .inr ⟨ag51, rfl⟩⟩, rfl, rfl, trivial⟩ [] (Pick.nil _) ⟨rfl, .inl ⟨rfl, rfl⟩⟩
  | some i =>
    rw [hix] at IX
    obtain ⟨hi0, _, _⟩ := ix_lt hix
    have hi : i < l.length := by simpa using hi0
    have hA : A.isSome = true := q3.isSome (by omega)
    have hat := (q3.elem (i * 7) 7).mono h0
    have hcard := q5 i hi
    obtain ⟨A1, ca, B, cb, hc⟩ := FmtR.form hcard
    rw [hc] at hat hcard
    refine TS_seq ?_
    refine TS_region ?_
    refine VS_step (S_alloc zl51 rfl (fun b1 => ?_)) rfl
    refine VS_pure (P_assign rfl) rfl rfl rfl ?_
    refine VS_pure (P_assign rfl) rfl rfl rfl ?_
    refine VS_nil ?_
    refine QS_then ?_
    refine TS_seq ?_
    refine TS_region ?_
    refine VS_pure (P_move rfl) rfl rfl rfl ?_
    refine VS_pure (P_move rfl) rfl rfl rfl ?_
    refine VS_step (S_callR cl48 rfl (fun m' hm he => (IX m' hm)) rfl ?_) rfl
    rintro _ rfl
    dsimp only [ixI]
    refine VS_pure (P_assign rfl) rfl rfl rfl ?_
    refine VS_nil ?_
    refine QS_then ?_
    refine TS_seq ?_
    refine TS_seq ?_
    refine TS_region ?_
    refine VS_pure (P_move rfl) rfl rfl rfl ?_
    refine VS_pure (df (P_lss rfl rfl) (by omega)) rfl rfl rfl ?_
    refine VS_nil ?_
    refine QS_then ?_
    refine TS_false rfl ?_
    refine TS_skip ?_
    refine QS_then ?_
    refine TS_seq ?_
    refine TS_region ?_
    refine VS_pure (P_move rfl) rfl rfl rfl ?_
    refine VS_pure (P_move rfl) rfl rfl rfl ?_
    refine VS_pure (P_indexAddrN ez23 rfl rfl hA (by omega)) rfl rfl rfl ?_
    refine VS_read (S_loadAt ag51 rfl rfl hat) rfl rfl rfl ?_
    refine VS_pure (P_move rfl) rfl rfl rfl ?_
    refine VS_step (S_storeAgg ag51 rfl rfl rfl (.here) rfl rfl ?_) rfl
    refine VS_pure (P_assign rfl) rfl rfl rfl ?_
    refine VS_pure (P_assign rfl) rfl rfl rfl ?_
    refine VS_nil ?_
    refine QS_then ?_
    refine TS_ret ?_
    exact QS_ret [_, _, _] ⟨⟨_, _, _, _, rfl, .here, .inr ⟨ag51, rfl⟩⟩, rfl, rfl, trivial⟩ [] (Pick.nil _) ⟨rfl, .inr ⟨i, hi, _, rfl, hcard, rfl⟩⟩
end Go.Proofs.YtccleakfgmcjpaaDoor
