/- A part of the proof: contracts of functions of the program. No condition. -/
import Derived.Test.YtccleakfgmcjpaaDoorDkD
import Derived.Test.YtccleakfgmcjpaaDoorEng2
namespace Go.Proofs.YtccleakfgmcjpaaDoor
open Go.Eng Dk
set_option maxRecDepth 100000
set_option maxHeartbeats 4000000 in
theorem Clone_ok {m : Mp} {A : Option Addr} {c : Nat} {xs : List (List UInt8)} (hx : StrsR m A xs) : CS Tryd.prog 37 [.slice A xs.length c] m [] (fun v L' => ∃ A2 c2, v = .slice A2 xs.length c2 ∧ L' = [own 9 1 A2 xs.length c2 (xs.map sV)]) := by
  obtain ⟨q3, q2⟩ := hx
  refine CS_of [.tmp 2] Tryd.func37 rfl rfl rfl ?_
  cases A with
  | none =>
    have h0 : xs = [] := by
      cases xs with
      | nil => rfl
      | cons x r => have := q3.isSome (by simp); cases this
    subst h0
    refine TS_nilOwn 9 1 ?_
    refine TS_seq ?_
    refine TS_region ?_
    refine VS_pure (P_assign rfl) rfl rfl rfl ?_
    refine VS_nil ?_
    refine QS_then ?_
    refine TS_seq ?_
    refine TS_seq ?_
    refine TS_region ?_
    refine VS_pure (P_move rfl) rfl rfl rfl ?_
    refine VS_pure ((P_slnil il26 rfl)) rfl rfl rfl ?_
    refine VS_nil ?_
    refine QS_then ?_
    refine TS_true rfl ?_
    refine TS_seq ?_
    refine TS_region ?_
    refine VS_pure (P_assign rfl) rfl rfl rfl ?_
    refine VS_nil ?_
    refine QS_then ?_
    refine TS_ret ?_
    refine QS_then_ret ?_
    exact QS_ret [_] ⟨rfl, trivial⟩ [_] (.cons .here (.nil _)) ⟨none, 0, rfl, rfl⟩
  | some a =>
    refine TS_seq ?_
    refine TS_region ?_
    refine VS_pure (P_assign rfl) rfl rfl rfl ?_
    refine VS_nil ?_
    refine QS_then ?_
    refine TS_seq ?_
    refine TS_seq ?_
    refine TS_region ?_
    refine VS_pure (P_move rfl) rfl rfl rfl ?_
    refine VS_pure ((P_slnil il26 rfl)) rfl rfl rfl ?_
    refine VS_nil ?_
    refine QS_then ?_
    refine TS_false rfl ?_
    refine TS_skip ?_
    refine QS_then ?_
    refine TS_seq ?_
    refine TS_region ?_
    refine VS_step (S_buildSlice sl26 rfl rfl rfl rfl (fun b1 => ?_)) rfl
    refine VS_pure (P_move rfl) rfl rfl rfl ?_
    refine VS_celOwn (cs := []) (k := 0) (e := 9) (sz := 1) .here rfl (by decide) ?_
    refine VS_step (S_appendR sl26 rfl rfl rfl rfl (fun _ _ => .here) (fun h hs => q3.mono hs.base) (by simp) (fun u hu => by obtain ⟨x, _, rfl⟩ := List.mem_map.1 hu; rfl) (by simp only [maxLen]; omega) (by omega) rfl (fun A1 c1 => ?_)) rfl
    refine VS_pure (P_assign rfl) rfl rfl rfl ?_
    refine VS_nil ?_
    refine QS_then ?_
    refine TS_ret ?_
    exact QS_ret [_] ⟨rfl, trivial⟩ [_] (.cons .here (.nil _)) ⟨A1, c1, by rw [Nat.zero_add]; rfl, by rw [Nat.zero_add]; rfl⟩
set_option maxHeartbeats 4000000 in
theorem Format_ok {m : Mp} {bv : List Value} {b : BkT} (hb : BkR m bv b) (s : List UInt8) : CS Tryd.prog 22 [.agg bv.toArray, sV s] m [] (fun v L' => (fmtOf s b = none ∧ L' = [] ∧ ∃ A ca B cb, v = .tuple [.agg ([sV [], iV 0, iV 0, iV 0, .slice A 0 ca, .slice B 0 cb, iV 0] : List Value).toArray, .bool false].toArray) ∨ (∃ x A ca B cb, fmtOf s b = some x ∧ x ∈ b.fmts ∧ v = .tuple [.agg ([sV x.name, iV x.least, iV x.most, iV x.copies, .slice A x.banned.length ca, .slice B x.single.length cb, iV x.at_] : List Value).toArray, .bool true].toArray ∧ L' = [own 9 1 A x.banned.length ca (x.banned.map sV), own 9 1 B x.single.length cb (x.single.map sV)])) := by
  obtain ⟨A, c, F, k, rfl, hc, hf⟩ := hb
  have FI := fun m' (hm : Le m m') b1 hb1 => first35 (c := k) (m := m') (s := s) (b := b1) hm hf hb1
  refine CS_of [.cell 4 51, .tmp 5] Tryd.func22 rfl rfl rfl ?_
  refine TS_seq ?_
  refine TS_region ?_
  refine VS_step (S_box rfl rfl (fun b1 => ?_)) rfl
  refine VS_step (S_box rfl rfl (fun b2 => ?_)) rfl
  refine VS_step (S_alloc zl51 rfl (fun b3 => ?_)) rfl
  refine VS_pure (P_assign rfl) rfl rfl rfl ?_
  refine VS_nil ?_
  refine QS_then ?_
  refine TS_seq ?_
  refine TS_region ?_
  refine VS_pure (P_fieldAddr0 fo25_1 rfl) rfl rfl rfl ?_
  refine VS_read (S_loadB sg23 rfl (.there (.there (.here))) rfl) rfl rfl rfl ?_
  refine VS_pure (P_makeFunc rfl rfl) rfl rfl rfl ?_
  refine VS_step ((S_call cl35 rfl (fun m' hm he => FI m' hm b2 (mc_blk (he _ (List.mem_cons_of_mem _ List.mem_cons_self)) rfl)) rfl ?_)) rfl
  rintro _ _ ⟨rfl, ⟨hi, rfl⟩ | ⟨i, hi, cs, hx, hr, rfl⟩⟩
  · have C0 := fun m' => Clone_ok (m := m') (A := none) (c := 0) (xs := []) ⟨Rd.nil _ _, by decide⟩
    refine VS_pure (P_move rfl) rfl rfl rfl ?_
    iterate 3 (refine VS_pure (P_extract rfl rfl) rfl rfl rfl ?_)
    refine VS_step (S_alloc zl51 rfl (fun b4 => ?_)) rfl
    refine VS_step (S_storeAgg ag51 rfl rfl rfl (.here) rfl rfl ?_) rfl
    refine VS_pure (P_assign rfl) rfl rfl rfl ?_
    refine VS_pure (P_assign rfl) rfl rfl rfl ?_
    refine VS_nil ?_
    refine QS_then ?_
    refine TS_seq ?_
    refine TS_draw (.step 0 .pure (.step 3 .pure (.step 1 .read (.step 4 .read (.step 2 .kept (.step 6 .pure (.step 5 .kept (.step 7 .wild (.step 8 .pure (.step 9 .wild (.done))))))))))) mixed (by kernel_rfl) (fun _ _ _ _ hq => hq) ?_
    refine VTS_pure rfl (P_fieldAddr0 fo51_4 rfl) rfl rfl rfl ?_
    refine VTS_pure rfl (P_fieldAddr0 fo51_5 rfl) rfl rfl rfl ?_
    refine VTS_read rfl (S_loadB sg26 rfl (.here) rfl) rfl rfl rfl ?_
    refine VTS_read rfl (S_loadB sg26 rfl (.here) rfl) rfl rfl rfl ?_
    refine VTS_kept rfl ((S_call cl37 rfl (fun m' hm he => C0 m') rfl ?_)) rfl
    rintro _ _ ⟨A2, c2, rfl, rfl⟩
    refine VTS_pure rfl (P_fieldAddr0 fo51_4 rfl) rfl rfl rfl ?_
    refine VTS_kept rfl ((S_call cl37 rfl (fun m' hm he => C0 m') rfl ?_)) rfl
    rintro _ _ ⟨A3, c3, rfl, rfl⟩
    refine VTS_wild rfl rfl (S_store co26 rfl rfl rfl (.there (.there (.here))) (.there (.there (.there (.there (.here))))) ?_) rfl
    refine VTS_pure rfl (P_fieldAddr0 fo51_5 rfl) rfl rfl rfl ?_
    refine VTS_wild rfl rfl (S_store co26 rfl rfl rfl (.there (.there (.here))) (.there (.there (.there (.there (.there (.here)))))) ?_) rfl
    refine VTS_nil ?_
    refine QS_then ?_
    refine TS_seq ?_
    refine TS_region ?_
    refine VS_read (S_loadBA ag51 rfl (.there (.there (.here))) rfl) rfl rfl rfl ?_
    refine VS_pure (P_move rfl) rfl rfl rfl ?_
    refine VS_step (S_storeAgg ag51 rfl rfl rfl (.there (.there (.there (.here)))) rfl rfl ?_) rfl
    refine VS_pure (P_assign rfl) rfl rfl rfl ?_
    refine VS_nil ?_
    refine QS_then ?_
    refine TS_ret ?_
    exact QS_ret [_, _] ⟨⟨_, _, _, _, rfl, .there (.there (.there .here)), .inr ⟨ag51, rfl⟩⟩, rfl, trivial⟩ [] (Pick.nil _) (.inl ⟨by unfold fmtOf; rw [hi]; rfl, rfl, A2, c2, A3, c3, rfl⟩)
  · obtain ⟨A1, ca, B1, cb, rfl, hA1, hB1⟩ := hr
    have CA := fun m' (hm : Le m m') => Clone_ok (c := ca) (hA1.mono hm)
    have CB := fun m' (hm : Le m m') => Clone_ok (c := cb) (hB1.mono hm)
    refine VS_pure (P_move rfl) rfl rfl rfl ?_
    iterate 3 (refine VS_pure (P_extract rfl rfl) rfl rfl rfl ?_)
    refine VS_step (S_alloc zl51 rfl (fun b4 => ?_)) rfl
    refine VS_step (S_storeAgg ag51 rfl rfl rfl (.here) rfl rfl ?_) rfl
    refine VS_pure (P_assign rfl) rfl rfl rfl ?_
    refine VS_pure (P_assign rfl) rfl rfl rfl ?_
    refine VS_nil ?_
    refine QS_then ?_
    refine TS_seq ?_
    refine TS_draw (.step 0 .pure (.step 3 .pure (.step 1 .read (.step 4 .read (.step 2 .kept (.step 6 .pure (.step 5 .kept (.step 7 .wild (.step 8 .pure (.step 9 .wild (.done))))))))))) mixed (by kernel_rfl) (fun _ _ _ _ hq => hq) ?_
    refine VTS_pure rfl (P_fieldAddr0 fo51_4 rfl) rfl rfl rfl ?_
    refine VTS_pure rfl (P_fieldAddr0 fo51_5 rfl) rfl rfl rfl ?_
    refine VTS_read rfl (S_loadB sg26 rfl (.here) rfl) rfl rfl rfl ?_
    refine VTS_read rfl (S_loadB sg26 rfl (.here) rfl) rfl rfl rfl ?_
    refine VTS_kept rfl ((S_call cl37 rfl (fun m' hm he => CA m' hm) rfl ?_)) rfl
    rintro _ _ ⟨A2, c2, rfl, rfl⟩
    refine VTS_pure rfl (P_fieldAddr0 fo51_4 rfl) rfl rfl rfl ?_
    refine VTS_kept rfl ((S_call cl37 rfl (fun m' hm he => CB m' hm) rfl ?_)) rfl
    rintro _ _ ⟨A3, c3, rfl, rfl⟩
    refine VTS_wild rfl rfl (S_store co26 rfl rfl rfl (.there (.there (.here))) (.there (.there (.there (.there (.here))))) ?_) rfl
    refine VTS_pure rfl (P_fieldAddr0 fo51_5 rfl) rfl rfl rfl ?_
    refine VTS_wild rfl rfl (S_store co26 rfl rfl rfl (.there (.there (.here))) (.there (.there (.there (.there (.there (.here)))))) ?_) rfl
    refine VTS_nil ?_
    refine QS_then ?_
    refine TS_seq ?_
    refine TS_region ?_
    refine VS_read (S_loadBA ag51 rfl (.there (.there (.here))) rfl) rfl rfl rfl ?_
    refine VS_pure (P_move rfl) rfl rfl rfl ?_
    refine VS_step (S_storeAgg ag51 rfl rfl rfl (.there (.there (.there (.here)))) rfl rfl ?_) rfl
    refine VS_pure (P_assign rfl) rfl rfl rfl ?_
    refine VS_nil ?_
    refine QS_then ?_
    refine TS_ret ?_
    exact QS_ret [_, _] ⟨⟨_, _, _, _, rfl, .there (.there (.there .here)), .inr ⟨ag51, rfl⟩⟩, rfl, trivial⟩ [_, _] (.cons (.there .here) (.cons .here (.nil _))) (.inr ⟨b.fmts[i], A2, c2, A3, c3, by unfold fmtOf; rw [hx]; exact List.getElem?_eq_getElem hi, List.getElem_mem hi, rfl, rfl⟩)
set_option maxHeartbeats 4000000 in
theorem rFormat_ok {m0 m : Mp} (h0 : Le m0 m) {bv : List Value} {b : BkT} (hb : BkR m0 bv b) (s : List UInt8) : CS Tryd.prog 27 [.agg bv.toArray, sV s] m [] (fun v L' => L' = [] ∧ ((fmtOf s b = none ∧ v = .tuple [.agg ([sV [], iV 0, iV 0, iV 0, .slice none 0 0, .slice none 0 0, iV 0] : List Value).toArray, .bool false].toArray) ∨ (∃ x cs, fmtOf s b = some x ∧ FmtR m0 cs x ∧ v = .tuple [.agg cs.toArray, .bool true].toArray))) := by
  obtain ⟨A, c, F, k, rfl, hc, hl⟩ := hb
  obtain ⟨q2, vs, q3, q4, q5⟩ := hl
  refine CS_of [.cell 4 51, .tmp 5] Tryd.func27 rfl rfl rfl ?_
  refine TS_seq ?_
  refine TS_region ?_
  refine VS_step (S_box rfl rfl (fun b1 => ?_)) rfl
  refine VS_step (S_alloc zl51 rfl (fun b2 => ?_)) rfl
  refine VS_pure (P_assign rfl) rfl rfl rfl ?_
  refine VS_nil ?_
  refine QS_then ?_
  refine TS_seq ?_
  refine TS_seq ?_
  refine TS_region ?_
  refine VS_pure (P_assign rfl) rfl rfl rfl ?_
  refine VS_nil ?_
  refine QS_then ?_
  refine TS_block ?_
  refine TS_loop (α := Nat) (fun i => [(1, sV s), (2, .pointer (some ⟨b1, 0, none⟩)), (4, .pointer (some ⟨b2, 0, none⟩)), (6, .int .i64 (i : Nat))]) (fun _ => [cel b2 [sV [], iV 0, iV 0, iV 0, .slice none 0 0, .slice none 0 0, iV 0] 51, cel b1 [.slice A b.cards.length c, .slice F b.fmts.length k] 25]) (fun i => i ≤ b.fmts.length ∧ ∀ j (hj : j < b.fmts.length), j < i → b.fmts[j].name ≠ s) (fun i => b.fmts.length - i) 0 ⟨rfl, rfl, rfl, rfl, trivial⟩ (Pick.refl _) ⟨Nat.zero_le _, fun j hj h => by omega⟩ ?_
  rintro i ⟨hi, hn⟩
  by_cases hlt : i < b.fmts.length
  · have hA : F.isSome = true := q3.isSome (by omega)
    have hcard := q5 i hlt
    have hat := (q3.elem (i * 7) 7).mono h0
    obtain ⟨A1, ca, B1, cb, hc1⟩ := FmtR.form hcard
    rw [hc1] at hat hcard
    have hat0 : mc m ((((sa F).add (i * 7)).add 0)) = some (sV b.fmts[i].name) := hat.at_ rfl
    by_cases he : b.fmts[i].name = s
    · have hat0' := hat0
      rw [he] at hat0'
      refine TS_seq ?_
      refine TS_seq ?_
      refine TS_region ?_
      refine VS_pure (P_move rfl) rfl rfl rfl ?_
      refine VS_pure (P_fieldAddr0 fo25_1 rfl) rfl rfl rfl ?_
      refine VS_read (S_loadB sg23 rfl (.there (.here)) rfl) rfl rfl rfl ?_
      refine VS_pure (P_len il23 rfl) rfl rfl rfl ?_
      refine VS_pure (dt (P_lss rfl rfl) (by omega)) rfl rfl rfl ?_
      refine VS_nil ?_
      refine QS_then ?_
      refine TS_true rfl ?_
      refine TS_skip ?_
      refine QS_then ?_
      refine TS_seq ?_
      refine TS_block ?_
      refine TS_seq ?_
      refine TS_region ?_
      refine VS_pure (P_fieldAddr0 fo25_1 rfl) rfl rfl rfl ?_
      refine VS_read (S_loadB sg23 rfl (.there (.here)) rfl) rfl rfl rfl ?_
      refine VS_pure (P_move rfl) rfl rfl rfl ?_
      refine VS_pure (P_indexAddrN ez23 rfl rfl hA (by omega)) rfl rfl rfl ?_
      refine VS_pure (P_fieldAddr fo51_0 rfl) rfl rfl rfl ?_
      refine VS_read (S_load sg9 rfl hat0') rfl rfl rfl ?_
      refine VS_pure (P_move rfl) rfl rfl rfl ?_
      refine VS_pure (dt (P_seql rfl rfl) rfl) rfl rfl rfl ?_
      refine VS_nil ?_
      refine QS_then ?_
      refine TS_true rfl ?_
      refine TS_seq ?_
      refine TS_region ?_
      refine VS_pure (P_fieldAddr0 fo25_1 rfl) rfl rfl rfl ?_
      refine VS_read (S_loadB sg23 rfl (.there (.here)) rfl) rfl rfl rfl ?_
      refine VS_pure (P_move rfl) rfl rfl rfl ?_
      refine VS_pure (P_indexAddrN ez23 rfl rfl hA (by omega)) rfl rfl rfl ?_
      refine VS_read (S_loadAt ag51 rfl rfl hat) rfl rfl rfl ?_
      refine VS_step (S_storeAgg ag51 rfl rfl rfl (.here) rfl rfl ?_) rfl
      refine VS_pure (P_assign rfl) rfl rfl rfl ?_
      refine VS_nil ?_
      refine QS_then ?_
      refine TS_ret ?_
      refine QS_block_ret ?_
      refine QS_then_ret ?_
      refine QS_round_ret ?_
      refine QS_block_ret ?_
      refine QS_then_ret ?_
      exact QS_ret [_, _] ⟨⟨_, _, _, _, rfl, .here, .inr ⟨ag51, rfl⟩⟩, rfl, trivial⟩ [] (Pick.nil _) ⟨rfl, .inr ⟨b.fmts[i], _, by unfold fmtOf; rw [ix_some (i := i) (by simpa using hlt) (by simpa using he) (fun j hj => by simpa using hn j (by omega) hj)]; exact List.getElem?_eq_getElem hlt, hcard, rfl⟩⟩
    · refine TS_seq ?_
      refine TS_seq ?_
      refine TS_region ?_
      refine VS_pure (P_move rfl) rfl rfl rfl ?_
      refine VS_pure (P_fieldAddr0 fo25_1 rfl) rfl rfl rfl ?_
      refine VS_read (S_loadB sg23 rfl (.there (.here)) rfl) rfl rfl rfl ?_
      refine VS_pure (P_len il23 rfl) rfl rfl rfl ?_
      refine VS_pure (dt (P_lss rfl rfl) (by omega)) rfl rfl rfl ?_
      refine VS_nil ?_
      refine QS_then ?_
      refine TS_true rfl ?_
      refine TS_skip ?_
      refine QS_then ?_
      refine TS_seq ?_
      refine TS_block ?_
      refine TS_seq ?_
      refine TS_region ?_
      refine VS_pure (P_fieldAddr0 fo25_1 rfl) rfl rfl rfl ?_
      refine VS_read (S_loadB sg23 rfl (.there (.here)) rfl) rfl rfl rfl ?_
      refine VS_pure (P_move rfl) rfl rfl rfl ?_
      refine VS_pure (P_indexAddrN ez23 rfl rfl hA (by omega)) rfl rfl rfl ?_
      refine VS_pure (P_fieldAddr fo51_0 rfl) rfl rfl rfl ?_
      refine VS_read (S_load sg9 rfl hat0) rfl rfl rfl ?_
      refine VS_pure (P_move rfl) rfl rfl rfl ?_
      refine VS_pure (df (P_seql rfl rfl) (by assumption)) rfl rfl rfl ?_
      refine VS_nil ?_
      refine QS_then ?_
      refine TS_false rfl ?_
      refine TS_skip ?_
      refine QS_block ?_
      refine QS_then ?_
      refine TS_region ?_
      refine VS_pure (P_move rfl) rfl rfl rfl ?_
      refine VS_pure (P_add rfl rfl (w64 (by omega) (by omega))) rfl rfl rfl ?_
      refine VS_pure (P_assign rfl) rfl rfl rfl ?_
      refine VS_nil ?_
      exact QS_round (i + 1) ⟨rfl, rfl, rfl, rfl, trivial⟩ (Pick.refl _) ⟨hlt, fun j hj h => by
        by_cases hji : j = i
        · subst hji; exact he
        · exact hn j hj (by omega)⟩ (by omega)
  · refine TS_seq ?_
    refine TS_seq ?_
    refine TS_region ?_
    refine VS_pure (P_move rfl) rfl rfl rfl ?_
    refine VS_pure (P_fieldAddr0 fo25_1 rfl) rfl rfl rfl ?_
    refine VS_read (S_loadB sg23 rfl (.there (.here)) rfl) rfl rfl rfl ?_
    refine VS_pure (P_len il23 rfl) rfl rfl rfl ?_
    refine VS_pure (df (P_lss rfl rfl) (by omega)) rfl rfl rfl ?_
    refine VS_nil ?_
    refine QS_then ?_
    refine TS_false rfl ?_
    refine TS_exit ?_
    refine QS_then_exit ?_
    refine QS_round_exit ?_
    refine QS_block_here ?_
    refine QS_then ?_
    refine TS_seq ?_
    refine TS_region ?_
    refine VS_pure (P_build zl51 pl51 rfl rfl) rfl rfl rfl ?_
    refine VS_step (S_storeAgg ag51 rfl rfl rfl (.here) rfl rfl ?_) rfl
    refine VS_pure (P_assign rfl) rfl rfl rfl ?_
    refine VS_nil ?_
    refine QS_then ?_
    refine TS_ret ?_
    exact QS_ret [_, _] ⟨⟨_, _, _, _, rfl, .here, .inr ⟨ag51, rfl⟩⟩, rfl, trivial⟩ [] (Pick.nil _) ⟨rfl, .inl ⟨by unfold fmtOf; rw [ix_none (fun j hj => by simpa using hn j (by simpa using hj) (by simp at hj; omega))]; rfl, rfl⟩⟩
/-- a reason's cells -/
def reaC (r : Rea) : List Value := [.int .i8 r.why, sV r.name, iV r.n]
set_option maxHeartbeats 4000000 in
theorem tell_ok {m : Mp} {b c : Nat} {A : Option Addr} {rs : List Rea} (hk : rs.length ≤ 4000) (r : Rea) (so : Bool) :
    CS Tryd.prog 23 [.int .i8 r.why, sV r.name, iV r.n, .bool so, .pointer (some ⟨b, 0, none⟩)] m [cel b [.slice A rs.length c] 27, own 38 3 A rs.length c (rs.flatMap reaC)] (fun v L' => v = U0 ∧ ∃ A2 c2, L' = [cel b [.slice A2 (addR rs r so).length c2] 27, own 38 3 A2 (addR rs r so).length c2 ((addR rs r so).flatMap reaC)]) := by
  have hfl : (rs.flatMap reaC).length = rs.length * 3 := by
    induction rs with
    | nil => rfl
    | cons x l ih => rw [List.flatMap_cons, List.length_append, ih (by simp at hk; omega), List.length_cons]; show 3 + _ = _; omega
  refine CS_of [] Tryd.func23 rfl rfl rfl ?_
  cases so with
  | false =>
    refine TS_seq ?_
    refine TS_region ?_
    refine VS_pure (P_move rfl) rfl rfl rfl ?_
    refine VS_nil ?_
    refine QS_then ?_
    refine TS_false rfl ?_
    refine TS_skip ?_
    exact QS_retN [] trivial [_, _] (Pick.refl _) ⟨rfl, A, c, rfl⟩
  | true =>
    refine TS_seq ?_
    refine TS_region ?_
    refine VS_pure (P_move rfl) rfl rfl rfl ?_
    refine VS_nil ?_
    refine QS_then ?_
    refine TS_true rfl ?_
    refine TS_region ?_
    refine VS_read (S_loadB sg27 rfl (.here) rfl) rfl rfl rfl ?_
    iterate 3 (refine VS_pure (P_move rfl) rfl rfl rfl ?_)
    refine VS_pure (P_build zl38 pl38 rfl rfl) rfl rfl rfl ?_
    refine VS_step (S_buildSlice sl27 rfl rfl rfl rfl (fun b1 => ?_)) rfl
    refine VS_step (S_append sl27 rfl rfl rfl rfl (.here) (fun _ _ => (.there (.there (.here)))) rfl rfl (by first | omega | (simp only [maxLen]; omega)) (by omega) rfl (fun A1 c1 => ?_)) rfl
    refine VS_step (S_store co27 rfl rfl rfl (.there (.here)) (.here) ?_) rfl
    refine VS_nil ?_
    refine QS_retN [] trivial [cel b [.slice A1 (rs.length + 1) c1] 27, own 38 3 A1 (rs.length + 1) c1 (rs.flatMap reaC ++ reaC r)] (.cons (.there .here) (.cons (.there .here) (.nil _))) ⟨rfl, A1, c1, ?_⟩
    rw [show addR rs r true = rs ++ [r] from rfl, List.length_append, List.length_singleton, List.flatMap_append, List.flatMap_cons, List.flatMap_nil, List.append_nil]
end Go.Proofs.YtccleakfgmcjpaaDoor
