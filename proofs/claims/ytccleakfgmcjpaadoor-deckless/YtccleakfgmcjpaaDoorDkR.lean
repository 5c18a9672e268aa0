/- A part of the proof: contracts of functions of the program. No condition. -/
import Derived.Test.YtccleakfgmcjpaaDoorDkM
import Derived.Test.YtccleakfgmcjpaaDoorDkQ
namespace Go.Proofs.YtccleakfgmcjpaaDoor
open Go.Eng Dk
set_option maxRecDepth 100000
theorem rem_at {a : Int} {n : Nat} (h0 : 0 < n) : ∃ k : Nat, k < n ∧ Int.tmod (Int.tmod a n + n) n = (k : Nat) ∧ -(n : Int) < Int.tmod a n ∧ Int.tmod a n < n := by
  have h1 : -(n : Int) < Int.tmod a n := by
    have := Int.lt_tmod_of_pos a (b := (n : Int)) (by omega)
    omega
  have h2 : Int.tmod a n < n := Int.tmod_lt_of_pos a (by omega)
  have h3 : 0 ≤ Int.tmod (Int.tmod a n + n) n := Int.tmod_nonneg _ (by omega)
  have h4 : Int.tmod (Int.tmod a n + n) n < n := Int.tmod_lt_of_pos _ (by omega)
  exact ⟨(Int.tmod (Int.tmod a n + n) n).toNat, by omega, by omega, h1, h2⟩
set_option maxHeartbeats 16000000 in
theorem DeckLess_ok {m : Mp} (hT : Tabs m) {bv : List Value} {b : BkT} (hb : BkR m bv b) (fm : List UInt8) {A : Option Addr} {c : Nat} {l : List (List UInt8)} (hl : StrsR m A l) (hcap : l.length ≤ c) {at_ by_ : Int} (ha : -9223372036854775808 ≤ at_ ∧ at_ ≤ 9223372036854775807) (hy : -9223372036854775808 ≤ by_ ∧ by_ ≤ 9223372036854775807) :
    CS Tryd.prog 4 [.agg bv.toArray, sV fm, .slice A l.length c, iV at_, iV by_] m [] (Gives (.bool true)) := by
  have hb0 := hb
  obtain ⟨hk1, hk2⟩ := bk_lens hb
  have hln := hl.2
  obtain ⟨A0, c0, F0, k0, rfl, _⟩ := hb
  refine CS_of [.tmp 10] Tryd.func4 rfl rfl rfl ?_
  refine TS_seq ?_
  refine TS_region ?_
  refine VS_step (S_box rfl rfl (fun b1 => ?_)) rfl
  refine VS_pure (P_assign rfl) rfl rfl rfl ?_
  refine VS_nil ?_
  refine QS_then ?_
  refine TS_seq ?_
  refine TS_seq ?_
  refine TS_region ?_
  refine VS_read (S_loadBA ag25 rfl (.here) rfl) rfl rfl rfl ?_
  refine VS_pure (P_move rfl) rfl rfl rfl ?_
  refine VS_step ((S_call cl7 rfl (fun m' hm he => great_ok (hb0.mono hm) (by omega) hk1 hk2) rfl ?_)) rfl
  rintro _ _ ⟨rfl, g, rfl, hg⟩
  cases g with
  | true =>
    refine VS_pure (P_move rfl) rfl rfl rfl ?_
    iterate 3 (refine VS_skip rfl rfl rfl ?_)
    refine VS_pure (P_pick_t rfl rfl) rfl rfl rfl ?_
    refine VS_nil ?_
    refine QS_then ?_
    refine TS_true rfl ?_
    refine TS_seq ?_
    refine TS_region ?_
    refine VS_step (S_callR cl8 rfl (fun m' hm he => (wakes_ok (hT.mono hm))) rfl ?_) rfl
    rintro _ rfl
    refine VS_pure (P_assign rfl) rfl rfl rfl ?_
    refine VS_nil ?_
    refine QS_then ?_
    refine TS_ret ?_
    refine QS_then_ret ?_
    exact QS_ret [_] ⟨rfl, trivial⟩ [] (Pick.nil _) ⟨rfl, rfl⟩
  | false =>
    have hl3 : l.length ≤ 300 := hg rfl
    by_cases hz : l.length = 0
    · refine VS_pure (P_move rfl) rfl rfl rfl ?_
      refine VS_pure (P_move rfl) rfl rfl rfl ?_
      refine VS_pure (P_len il26 rfl) rfl rfl rfl ?_
      refine VS_pure (dt (P_eql rfl rfl) (by omega)) rfl rfl rfl ?_
      refine VS_pure (P_pick_f rfl rfl) rfl rfl rfl ?_
      refine VS_nil ?_
      refine QS_then ?_
      refine TS_true rfl ?_
      refine TS_seq ?_
      refine TS_region ?_
      refine VS_step (S_callR cl8 rfl (fun m' hm he => (wakes_ok (hT.mono hm))) rfl ?_) rfl
      rintro _ rfl
      refine VS_pure (P_assign rfl) rfl rfl rfl ?_
      refine VS_nil ?_
      refine QS_then ?_
      refine TS_ret ?_
      refine QS_then_ret ?_
      exact QS_ret [_] ⟨rfl, trivial⟩ [] (Pick.nil _) ⟨rfl, rfl⟩
    obtain ⟨i, hi, ei, ha1, ha2⟩ := rem_at (a := at_) (n := l.length) (by omega)
    obtain ⟨j, hj, ej, hy1, hy2⟩ := rem_at (a := by_) (n := l.length) (by omega)
    have C1 := fun m' (hm : Le m m') => Check_ok (c := c) (hb0.mono hm) fm (hl.mono hm) hl3
    refine VS_pure (P_move rfl) rfl rfl rfl ?_
    refine VS_pure (P_move rfl) rfl rfl rfl ?_
    refine VS_pure (P_len il26 rfl) rfl rfl rfl ?_
    refine VS_pure (df (P_eql rfl rfl) (by omega)) rfl rfl rfl ?_
    refine VS_pure (P_pick_f rfl rfl) rfl rfl rfl ?_
    refine VS_nil ?_
    refine QS_then ?_
    refine TS_false rfl ?_
    refine TS_skip ?_
    refine QS_then ?_
    refine TS_seq ?_
    refine TS_region ?_
    refine VS_pure (P_move rfl) rfl rfl rfl ?_
    refine VS_pure (P_move rfl) rfl rfl rfl ?_
    refine VS_pure (P_len il26 rfl) rfl rfl rfl ?_
    refine VS_pure (P_rem rfl rfl (by omega) rfl) rfl rfl rfl ?_
    refine VS_pure (P_move rfl) rfl rfl rfl ?_
    refine VS_pure (P_len il26 rfl) rfl rfl rfl ?_
    refine VS_pure (P_add rfl rfl (w64 (by omega) (by omega))) rfl rfl rfl ?_
    refine VS_pure (P_move rfl) rfl rfl rfl ?_
    refine VS_pure (P_len il26 rfl) rfl rfl rfl ?_
    refine VS_pure (P_rem rfl rfl (by omega) rfl) rfl rfl rfl ?_
    refine VS_pure (P_assign rfl) rfl rfl rfl ?_
    refine VS_nil ?_
    refine QS_then ?_
    refine TS_seq ?_
    refine TS_region ?_
    refine VS_pure (P_move rfl) rfl rfl rfl ?_
    refine VS_pure (P_move rfl) rfl rfl rfl ?_
    refine VS_pure (P_len il26 rfl) rfl rfl rfl ?_
    refine VS_pure (P_rem rfl rfl (by omega) rfl) rfl rfl rfl ?_
    refine VS_pure (P_move rfl) rfl rfl rfl ?_
    refine VS_pure (P_len il26 rfl) rfl rfl rfl ?_
    refine VS_pure (P_add rfl rfl (w64 (by omega) (by omega))) rfl rfl rfl ?_
    refine VS_pure (P_move rfl) rfl rfl rfl ?_
    refine VS_pure (P_len il26 rfl) rfl rfl rfl ?_
    refine VS_pure (P_rem rfl rfl (by omega) rfl) rfl rfl rfl ?_
    refine VS_pure (P_assign rfl) rfl rfl rfl ?_
    refine VS_nil ?_
    refine QS_then ?_
    refine TS_seq ?_
    refine TS_region ?_
    refine VS_read (S_loadBA ag25 rfl (.here) rfl) rfl rfl rfl ?_
    refine VS_pure (P_move rfl) rfl rfl rfl ?_
    refine VS_pure (P_move rfl) rfl rfl rfl ?_
    rw [ei, ej]
    refine VS_nilOwn 9 1 (VS_nilOwn 9 1 ?_)
    refine VS_step ((S_call cl9 rfl (fun m' hm he => C1 m' hm) rfl ?_)) rfl
    rintro _ _ ⟨A1, c1, rfl, rfl⟩
    have hd1 : ∀ q, q ≤ l.length → ∀ m', Le m m' → Rd m' (cutA A q c 1) ((l.drop q).map sV) := fun q hq m' hm => by
      have := (hl.1.mono hm).cut (l := q) (mm := c) (sz := 1) (l.length - q) (by omega)
      rwa [Nat.mul_one, Nat.mul_one, ← List.map_drop, List.take_of_length_le (by simp)] at this
    have hd2 : ∀ q, q ≤ l.length → ∀ m', Le m m' → Rd m' (cutA A 0 c 1) ((l.take q).map sV) := fun q hq m' hm => by
      have := (hl.1.mono hm).cut (l := 0) (mm := c) (sz := 1) q (by omega)
      rwa [Nat.mul_one, Nat.zero_mul, List.drop_zero, ← List.map_take] at this
    refine VS_pure (P_move rfl) rfl rfl rfl ?_
    refine VS_pure (P_extract rfl rfl) rfl rfl rfl ?_
    refine VS_pure (P_extract rfl rfl) rfl rfl rfl ?_
    refine VS_pure (P_assign rfl) rfl rfl rfl ?_
    refine VS_pure (P_assign rfl) rfl rfl rfl ?_
    refine VS_nil ?_
    refine QS_then ?_
    refine TS_seq ?_
    refine TS_region ?_
    refine VS_pure (P_assign rfl) rfl rfl rfl ?_
    refine VS_pure (P_assign rfl) rfl rfl rfl ?_
    refine VS_nil ?_
    refine QS_then ?_
    refine TS_seq ?_
    refine TS_draw (.step 0 .pure (.step 1 .pure (.step 2 .pure (.step 3 .pure (.step 5 .pure (.step 6 .pure (.step 7 .pure (.step 4 .wild (.step 8 .wild (.step 9 .pure (.done))))))))))) mixed (by kernel_rfl) (fun _ _ _ _ hq => hq) ?_
    iterate 3 (refine VTS_pure rfl (P_move rfl) rfl rfl rfl ?_)
    refine VTS_pure rfl (P_slice_l _ ez26 rfl rfl rfl (by omega)) rfl rfl rfl ?_
    refine VTS_pure rfl (P_move rfl) rfl rfl rfl ?_
    refine VTS_pure rfl (P_move rfl) rfl rfl rfl ?_
    refine VTS_pure rfl (P_slice_h _ ez26 rfl rfl rfl (by omega)) rfl rfl rfl ?_
    refine VTS_wild rfl rfl (S_appendR (A2 := cutA A j c 1) (j := l.length - j) (c2 := c - j) (news := (l.drop j).map sV) sl26 rfl rfl rfl rfl (fun _ _ => .there .here) (fun h hs => hd1 j (by omega) _ hs.base) (by rw [List.length_map, Nat.mul_one]; simp; try omega) (fun u hu => by obtain ⟨x, _, rfl⟩ := List.mem_map.1 hu; rfl) (by simp only [maxLen]; omega) (by omega) rfl (fun A2 c2 => ?_)) rfl
    skip
    refine VTS_wild rfl rfl (S_appendR (A2 := cutA A 0 c 1) (j := j) (c2 := c) (news := (l.take j).map sV) sl26 rfl rfl rfl rfl (fun _ _ => .there .here) (fun h hs => hd2 j (by omega) _ hs.base) (by rw [List.length_map, Nat.mul_one]; simp; try omega) (fun u hu => by obtain ⟨x, _, rfl⟩ := List.mem_map.1 hu; rfl) (by simp only [maxLen]; omega) (by omega) rfl (fun A3 c3 => ?_)) rfl
    have hu1 : (l.drop j ++ l.take j).length = l.length := by simp; omega
    rw [show 0 + (l.length - j) + j = (l.drop j ++ l.take j).length by omega, show ([] ++ (l.drop j).map sV ++ (l.take j).map sV : List Value) = (l.drop j ++ l.take j).map sV by simp]
    refine VTS_pure rfl (P_assign rfl) rfl rfl rfl ?_
    refine VTS_nil ?_
    refine QS_then ?_
    refine TS_seq ?_
    refine TS_region ?_
    refine VS_read (S_loadBA ag25 rfl (.there (.there (.there (.here)))) rfl) rfl rfl rfl ?_
    refine VS_pure (P_move rfl) rfl rfl rfl ?_
    refine VS_pure (P_move rfl) rfl rfl rfl ?_
    have K2 := check_turned (b := b) (fm := fm) hu1 (fun s => turned_count (s := s) (l := l) (i := j))
    generalize l.drop j ++ l.take j = d2 at hu1 K2 ⊢
    have C2 := fun m' (hm : Le m m') A c (h : (own 9 1 A d2.length c (d2.map sV)).inv m') => Check_ok (c := c) (hb0.mono hm) fm ⟨Eng.Own.rd h, by omega⟩ (by omega)
    refine VS_step ((S_call cl9 rfl (fun m' hm he => C2 m' hm A3 c3 (he _ (List.mem_cons_of_mem _ List.mem_cons_self))) rfl ?_)) rfl
    rintro _ _ ⟨A4, c4, rfl, rfl⟩
    refine VS_pure (P_move rfl) rfl rfl rfl ?_
    refine VS_pure (P_extract rfl rfl) rfl rfl rfl ?_
    refine VS_pure (P_extract rfl rfl) rfl rfl rfl ?_
    refine VS_pure (P_assign rfl) rfl rfl rfl ?_
    refine VS_pure (P_assign rfl) rfl rfl rfl ?_
    refine VS_nil ?_
    refine QS_then ?_
    refine TS_seq ?_
    refine TS_draw (.step 0 .pure (.step 1 .pure (.step 2 .pure (.step 3 .pure (.step 5 .pure (.step 6 .pure (.step 7 .pure (.step 8 .pure (.step 4 .wild (.step 9 .wild (.step 10 .pure (.done)))))))))))) mixed (by kernel_rfl) (fun _ _ _ _ hq => hq) ?_
    iterate 3 (refine VTS_pure rfl (P_move rfl) rfl rfl rfl ?_)
    refine VTS_pure rfl (P_slice_h _ ez26 rfl rfl rfl (by omega)) rfl rfl rfl ?_
    refine VTS_pure rfl (P_move rfl) rfl rfl rfl ?_
    refine VTS_pure rfl (P_move rfl) rfl rfl rfl ?_
    refine VTS_pure rfl (P_add rfl rfl (w64 (by omega) (by omega))) rfl rfl rfl ?_
    refine VTS_pure rfl ((P_slice_l (i + 1) ez26 rfl rfl (by omega) (by omega))) rfl rfl rfl ?_
    skip
    refine VTS_wild rfl rfl (S_appendR (A2 := cutA A 0 c 1) (j := i) (c2 := c) (news := (l.take i).map sV) sl26 rfl rfl rfl rfl (fun _ _ => .there (.there (.there .here))) (fun h hs => hd2 i (by omega) _ hs.base) (by rw [List.length_map, Nat.mul_one]; simp; try omega) (fun u hu => by obtain ⟨x, _, rfl⟩ := List.mem_map.1 hu; rfl) (by simp only [maxLen]; omega) (by omega) rfl (fun A5 c5 => ?_)) rfl
    skip
    refine VTS_wild rfl rfl (S_appendR (A2 := cutA A (i + 1) c 1) (j := l.length - (i + 1)) (c2 := c - (i + 1)) (news := (l.drop (i + 1)).map sV) sl26 rfl rfl rfl rfl (fun _ _ => .there (.there (.there .here))) (fun h hs => hd1 (i + 1) (by omega) _ hs.base) (by rw [List.length_map, Nat.mul_one]; simp; try omega) (fun u hu => by obtain ⟨x, _, rfl⟩ := List.mem_map.1 hu; rfl) (by simp only [maxLen]; omega) (by omega) rfl (fun A6 c6 => ?_)) rfl
    have hu2 : (l.take i ++ l.drop (i + 1)).length + 1 = l.length := by simp; omega
    rw [show 0 + i + (l.length - (i + 1)) = (l.take i ++ l.drop (i + 1)).length by omega, show ([] ++ (l.take i).map sV ++ (l.drop (i + 1)).map sV : List Value) = (l.take i ++ l.drop (i + 1)).map sV by simp]
    have K3 := fun h => check_less (b := b) (fm := fm) h hu2 (fun s => less_count (s := s) (l := l) (i := i))
    have K4 := check_some (b := b) (fm := fm) (d := d2)
    generalize l.take i ++ l.drop (i + 1) = d3 at hu2 K3 ⊢
    have C3 := fun m' (hm : Le m m') A c (h : (own 9 1 A d3.length c (d3.map sV)).inv m') => Check_ok (c := c) (hb0.mono hm) fm ⟨Eng.Own.rd h, by omega⟩ (by omega)
    refine VTS_pure rfl (P_assign rfl) rfl rfl rfl ?_
    refine VTS_nil ?_
    refine QS_then ?_
    refine TS_seq ?_
    refine TS_region ?_
    refine VS_read (S_loadBA ag25 rfl (.there (.there (.there (.there (.here))))) rfl) rfl rfl rfl ?_
    refine VS_pure (P_move rfl) rfl rfl rfl ?_
    refine VS_pure (P_move rfl) rfl rfl rfl ?_
    refine VS_step ((S_call cl9 rfl (fun m' hm he => C3 m' hm A6 c6 (he _ (List.mem_cons_of_mem _ (List.mem_cons_of_mem _ (List.mem_cons_of_mem _ List.mem_cons_self))))) rfl ?_)) rfl
    rintro _ _ ⟨A7, c7, rfl, rfl⟩
    clear C1 C2 C3 hd1 hd2
    generalize checkP b fm l = r1 at K2 K3 ⊢
    generalize checkP b fm d2 = r2 at K2 K4 ⊢
    generalize checkP b fm d3 = r3 at K3 ⊢
    obtain ⟨rs1, e1⟩ := r1
    obtain ⟨rs2, e2⟩ := r2
    obtain ⟨rs3, e3⟩ := r3
    dsimp only at K2 K3 K4 ⊢
    subst K2
    by_cases he0 : e2 = 0
    · subst he0
      have hr2 : rs2.length = 0 := Classical.byContradiction fun h => by have := K4 h; omega
      rcases K3 rfl with he3 | he3
      · subst he3
        refine VS_pure (P_move rfl) rfl rfl rfl ?_
        refine VS_pure (P_extract rfl rfl) rfl rfl rfl ?_
        refine VS_pure (P_extract rfl rfl) rfl rfl rfl ?_
        refine VS_pure (P_assign rfl) rfl rfl rfl ?_
        refine VS_pure (P_assign rfl) rfl rfl rfl ?_
        refine VS_nil ?_
        refine QS_then ?_
        refine TS_seq ?_
        refine TS_seq ?_
        refine TS_region ?_
        refine VS_pure (P_move rfl) rfl rfl rfl ?_
        refine VS_pure (P_move rfl) rfl rfl rfl ?_
        refine VS_pure (df (P_neq rfl rfl) (by omega)) rfl rfl rfl ?_
        refine VS_pure (P_move rfl) rfl rfl rfl ?_
        refine VS_pure (P_move rfl) rfl rfl rfl ?_
        refine VS_pure (P_len il27 rfl) rfl rfl rfl ?_
        refine VS_pure (df (P_gtr rfl rfl) (by omega)) rfl rfl rfl ?_
        refine VS_pure (P_move rfl) rfl rfl rfl ?_
        refine VS_skip rfl rfl rfl ?_
        refine VS_skip rfl rfl rfl ?_
        refine VS_pure (P_pick_f rfl rfl) rfl rfl rfl ?_
        refine VS_pure (P_pick_f rfl rfl) rfl rfl rfl ?_
        refine VS_nil ?_
        refine QS_then ?_
        refine TS_false rfl ?_
        refine TS_skip ?_
        refine QS_then ?_
        refine TS_seq ?_
        refine TS_seq ?_
        refine TS_region ?_
        refine VS_pure (P_move rfl) rfl rfl rfl ?_
        refine VS_pure (df (P_neq rfl rfl) (by omega)) rfl rfl rfl ?_
        refine VS_nil ?_
        refine QS_then ?_
        refine TS_false rfl ?_
        refine TS_skip ?_
        refine QS_then ?_
        refine TS_seq ?_
        refine TS_region ?_
        refine VS_pure (P_move rfl) rfl rfl rfl ?_
        refine VS_pure (dt (P_eql rfl rfl) rfl) rfl rfl rfl ?_
        refine VS_pure (P_move rfl) rfl rfl rfl ?_
        iterate 23 (refine VS_skip rfl rfl rfl ?_)
        refine VS_pure (P_pick_t rfl rfl) rfl rfl rfl ?_
        refine VS_pure (P_move rfl) rfl rfl rfl ?_
        refine VS_step (S_callR cl8 rfl (fun m' hm he => (wakes_ok (hT.mono hm))) rfl ?_) rfl
        rintro _ rfl
        refine VS_pure (P_pick_t rfl rfl) rfl rfl rfl ?_
        refine VS_pure (P_assign rfl) rfl rfl rfl ?_
        refine VS_nil ?_
        refine QS_then ?_
        refine TS_ret ?_
        exact QS_ret [_] ⟨rfl, trivial⟩ [] (Pick.nil _) ⟨rfl, rfl⟩
      · cases he3
        dsimp only [List.length_cons, List.length_nil]
        refine VS_fact (own_isSome (A := A7) .here (by show 0 < 3; decide)) (fun hA7 => ?_)
        have q0 : (([⟨1, [], d3.length⟩] : List Rea).flatMap reaC)[0 * 3 + 0]? = some (.int .i8 1) := rfl
        have q2 : (([⟨1, [], d3.length⟩] : List Rea).flatMap reaC)[0 * 3 + 2]? = some (.int .i64 (d3.length : Nat)) := rfl
        refine VS_pure (P_move rfl) rfl rfl rfl ?_
        refine VS_pure (P_extract rfl rfl) rfl rfl rfl ?_
        refine VS_pure (P_extract rfl rfl) rfl rfl rfl ?_
        refine VS_pure (P_assign rfl) rfl rfl rfl ?_
        refine VS_pure (P_assign rfl) rfl rfl rfl ?_
        refine VS_nil ?_
        refine QS_then ?_
        refine TS_seq ?_
        refine TS_seq ?_
        refine TS_region ?_
        refine VS_pure (P_move rfl) rfl rfl rfl ?_
        refine VS_pure (P_move rfl) rfl rfl rfl ?_
        refine VS_pure (df (P_neq rfl rfl) (by omega)) rfl rfl rfl ?_
        refine VS_pure (P_move rfl) rfl rfl rfl ?_
        refine VS_pure (P_move rfl) rfl rfl rfl ?_
        refine VS_pure (P_len il27 rfl) rfl rfl rfl ?_
        refine VS_pure (df (P_gtr rfl rfl) (by omega)) rfl rfl rfl ?_
        refine VS_pure (P_move rfl) rfl rfl rfl ?_
        refine VS_skip rfl rfl rfl ?_
        refine VS_skip rfl rfl rfl ?_
        refine VS_pure (P_pick_f rfl rfl) rfl rfl rfl ?_
        refine VS_pure (P_pick_f rfl rfl) rfl rfl rfl ?_
        refine VS_nil ?_
        refine QS_then ?_
        refine TS_false rfl ?_
        refine TS_skip ?_
        refine QS_then ?_
        refine TS_seq ?_
        refine TS_seq ?_
        refine TS_region ?_
        refine VS_pure (P_move rfl) rfl rfl rfl ?_
        refine VS_pure (df (P_neq rfl rfl) (by omega)) rfl rfl rfl ?_
        refine VS_nil ?_
        refine QS_then ?_
        refine TS_false rfl ?_
        refine TS_skip ?_
        refine QS_then ?_
        refine TS_seq ?_
        refine TS_region ?_
        refine VS_pure (P_move rfl) rfl rfl rfl ?_
        refine VS_pure (df (P_eql rfl rfl) (by omega)) rfl rfl rfl ?_
        refine VS_pure (P_move rfl) rfl rfl rfl ?_
        refine VS_pure (P_move rfl) rfl rfl rfl ?_
        refine VS_pure (dt (P_eql rfl rfl) rfl) rfl rfl rfl ?_
        refine VS_pure (P_move rfl) rfl rfl rfl ?_
        refine VS_pure (P_move rfl) rfl rfl rfl ?_
        refine VS_pure (P_len il27 rfl) rfl rfl rfl ?_
        refine VS_pure (dt (P_eql rfl rfl) rfl) rfl rfl rfl ?_
        refine VS_pure (P_pick_t rfl rfl) rfl rfl rfl ?_
        refine VS_pure (P_move rfl) rfl rfl rfl ?_
        refine VS_pure (P_move rfl) rfl rfl rfl ?_
        refine VS_pure (P_indexAddr ez27 rfl rfl hA7 (by omega) (by omega)) rfl rfl rfl ?_
        refine VS_pure (P_fieldAddr fo38_0 rfl) rfl rfl rfl ?_
        refine VS_read (S_loadOF sg36 rfl (.here) q0) rfl rfl rfl ?_
        refine VS_pure (dt (P_eql rfl rfl) rfl) rfl rfl rfl ?_
        refine VS_pure (P_pick_t rfl rfl) rfl rfl rfl ?_
        refine VS_pure (P_move rfl) rfl rfl rfl ?_
        refine VS_pure (P_move rfl) rfl rfl rfl ?_
        refine VS_pure (P_indexAddr ez27 rfl rfl hA7 (by omega) (by omega)) rfl rfl rfl ?_
        refine VS_pure (P_fieldAddr fo38_2 rfl) rfl rfl rfl ?_
        refine VS_read (S_loadOF sg3 rfl (.here) q2) rfl rfl rfl ?_
        refine VS_pure (P_move rfl) rfl rfl rfl ?_
        refine VS_pure (P_len il26 rfl) rfl rfl rfl ?_
        refine VS_pure (dt (P_eql rfl rfl) rfl) rfl rfl rfl ?_
        refine VS_pure (P_pick_t rfl rfl) rfl rfl rfl ?_
        refine VS_pure (P_pick_f rfl rfl) rfl rfl rfl ?_
        refine VS_pure (P_move rfl) rfl rfl rfl ?_
        refine VS_step (S_callR cl8 rfl (fun m' hm he => (wakes_ok (hT.mono hm))) rfl ?_) rfl
        rintro _ rfl
        refine VS_pure (P_pick_t rfl rfl) rfl rfl rfl ?_
        refine VS_pure (P_assign rfl) rfl rfl rfl ?_
        refine VS_nil ?_
        refine QS_then ?_
        refine TS_ret ?_
        exact QS_ret [_] ⟨rfl, trivial⟩ [] (Pick.nil _) ⟨rfl, rfl⟩
    · by_cases hr2 : rs2.length = 0
      · refine VS_pure (P_move rfl) rfl rfl rfl ?_
        refine VS_pure (P_extract rfl rfl) rfl rfl rfl ?_
        refine VS_pure (P_extract rfl rfl) rfl rfl rfl ?_
        refine VS_pure (P_assign rfl) rfl rfl rfl ?_
        refine VS_pure (P_assign rfl) rfl rfl rfl ?_
        refine VS_nil ?_
        refine QS_then ?_
        refine TS_seq ?_
        refine TS_seq ?_
        refine TS_region ?_
        refine VS_pure (P_move rfl) rfl rfl rfl ?_
        refine VS_pure (P_move rfl) rfl rfl rfl ?_
        refine VS_pure (df (P_neq rfl rfl) (by omega)) rfl rfl rfl ?_
        refine VS_pure (P_move rfl) rfl rfl rfl ?_
        refine VS_pure (P_move rfl) rfl rfl rfl ?_
        refine VS_pure (P_len il27 rfl) rfl rfl rfl ?_
        refine VS_pure (df (P_gtr rfl rfl) (by omega)) rfl rfl rfl ?_
        refine VS_pure (P_move rfl) rfl rfl rfl ?_
        refine VS_skip rfl rfl rfl ?_
        refine VS_skip rfl rfl rfl ?_
        refine VS_pure (P_pick_f rfl rfl) rfl rfl rfl ?_
        refine VS_pure (P_pick_f rfl rfl) rfl rfl rfl ?_
        refine VS_nil ?_
        refine QS_then ?_
        refine TS_false rfl ?_
        refine TS_skip ?_
        refine QS_then ?_
        refine TS_seq ?_
        refine TS_seq ?_
        refine TS_region ?_
        refine VS_pure (P_move rfl) rfl rfl rfl ?_
        refine VS_pure (dt (P_neq rfl rfl) (by assumption)) rfl rfl rfl ?_
        refine VS_nil ?_
        refine QS_then ?_
        refine TS_true rfl ?_
        refine TS_seq ?_
        refine TS_region ?_
        refine VS_step (S_callR cl8 rfl (fun m' hm he => (wakes_ok (hT.mono hm))) rfl ?_) rfl
        rintro _ rfl
        refine VS_pure (P_assign rfl) rfl rfl rfl ?_
        refine VS_nil ?_
        refine QS_then ?_
        refine TS_ret ?_
        refine QS_then_ret ?_
        exact QS_ret [_] ⟨rfl, trivial⟩ [] (Pick.nil _) ⟨rfl, rfl⟩
      · have he2 := K4 hr2
        subst he2
        refine VS_pure (P_move rfl) rfl rfl rfl ?_
        refine VS_pure (P_extract rfl rfl) rfl rfl rfl ?_
        refine VS_pure (P_extract rfl rfl) rfl rfl rfl ?_
        refine VS_pure (P_assign rfl) rfl rfl rfl ?_
        refine VS_pure (P_assign rfl) rfl rfl rfl ?_
        refine VS_nil ?_
        refine QS_then ?_
        refine TS_seq ?_
        refine TS_seq ?_
        refine TS_region ?_
        refine VS_pure (P_move rfl) rfl rfl rfl ?_
        refine VS_pure (P_move rfl) rfl rfl rfl ?_
        refine VS_pure (df (P_neq rfl rfl) (by omega)) rfl rfl rfl ?_
        refine VS_pure (P_move rfl) rfl rfl rfl ?_
        refine VS_pure (P_move rfl) rfl rfl rfl ?_
        refine VS_pure (P_len il27 rfl) rfl rfl rfl ?_
        refine VS_pure (dt (P_gtr rfl rfl) (by omega)) rfl rfl rfl ?_
        refine VS_pure (P_move rfl) rfl rfl rfl ?_
        refine VS_pure (P_move rfl) rfl rfl rfl ?_
        refine VS_pure (df (P_neq rfl rfl) (by omega)) rfl rfl rfl ?_
        refine VS_pure (P_pick_t rfl rfl) rfl rfl rfl ?_
        refine VS_pure (P_pick_f rfl rfl) rfl rfl rfl ?_
        refine VS_nil ?_
        refine QS_then ?_
        refine TS_false rfl ?_
        refine TS_skip ?_
        refine QS_then ?_
        refine TS_seq ?_
        refine TS_seq ?_
        refine TS_region ?_
        refine VS_pure (P_move rfl) rfl rfl rfl ?_
        refine VS_pure (dt (P_neq rfl rfl) (by assumption)) rfl rfl rfl ?_
        refine VS_nil ?_
        refine QS_then ?_
        refine TS_true rfl ?_
        refine TS_seq ?_
        refine TS_region ?_
        refine VS_step (S_callR cl8 rfl (fun m' hm he => (wakes_ok (hT.mono hm))) rfl ?_) rfl
        rintro _ rfl
        refine VS_pure (P_assign rfl) rfl rfl rfl ?_
        refine VS_nil ?_
        refine QS_then ?_
        refine TS_ret ?_
        refine QS_then_ret ?_
        exact QS_ret [_] ⟨rfl, trivial⟩ [] (Pick.nil _) ⟨rfl, rfl⟩
end Go.Proofs.YtccleakfgmcjpaaDoor
