/- A part of the proof: contracts of functions of the program. No condition. -/
import Derived.Test.YtccleakfgmcjpaaDoorDkJ
namespace Go.Proofs.YtccleakfgmcjpaaDoor
open Go.Eng Dk
set_option maxRecDepth 100000
theorem SizeS {m0 m : Mp} (h0 : Le m0 m) {A : Option Addr} {len c : Nat} {l : List EffT} (h : EffsR m0 A len l) : CS Tryd.prog 34 [.slice A len c] m [] (fun v L' => (∃ z : Int, v = .int .i64 z ∧ 0 ≤ z ∧ z ≤ 100000) ∧ L' = []) :=
  CS.ofLe fun g hg => (Size_ok (c := c) h g (h0.trans hg)).mono fun _ _ ⟨z, h1, h2, h3, _, h5⟩ => ⟨⟨z, h1, h2, h3⟩, h5⟩
theorem CardR.parts {m : Mp} {vs : List Value} {x : CardT} (h : CardR m vs x) : ∃ A la ca B lb cb D ld cd, vs = [.string (bs x.name), .bool x.unit, .int .i64 x.cost, .int .i64 x.power, .int .i64 x.health, .int .i64 x.shield, .int .i64 x.apow, .int .i64 x.aheal, .slice A la ca, .slice B lb cb, .slice D ld cd, .int .i64 x.at_] ∧ EffsR m A la x.played ∧ EffsR m B lb x.dead ∧ EffsR m D ld x.dawn := by
  obtain ⟨A, la, ca, B, lb, cb, D, ld, cd, h1, _, h3, h4, h5, _⟩ := h
  exact ⟨A, la, ca, B, lb, cb, D, ld, cd, h1, h3, h4, h5⟩
set_option maxHeartbeats 16000000 in
theorem Great_ok {m : Mp} {bv : List Value} {b : BkT} (hb : BkR m bv b) (hc : b.cards.length ≤ 300) (hf : b.fmts.length ≤ 100) : CS Tryd.prog 20 [.agg bv.toArray] m [] (fun v L' => L' = [] ∧ ∃ g, v = .bool g) := by
  obtain ⟨A, c, F, k, rfl, hcs, hfs⟩ := hb
  obtain ⟨_, _, vs, q3, q4, q5⟩ := hcs
  obtain ⟨_, us, r3, r4, r5⟩ := hfs
  refine CS_of [.tmp 2] Tryd.func20 rfl rfl rfl ?_
  refine TS_seq ?_
  refine TS_region ?_
  refine VS_step (S_box rfl rfl (fun b1 => ?_)) rfl
  refine VS_pure (P_assign rfl) rfl rfl rfl ?_
  refine VS_nil ?_
  refine QS_then ?_
  refine TS_seq ?_
  refine TS_region ?_
  refine VS_pure (P_fieldAddr0 fo25_0 rfl) rfl rfl rfl ?_
  refine VS_read (S_loadB sg22 rfl (.here) rfl) rfl rfl rfl ?_
  refine VS_pure (P_len il22 rfl) rfl rfl rfl ?_
  refine VS_pure (P_fieldAddr0 fo25_1 rfl) rfl rfl rfl ?_
  refine VS_read (S_loadB sg23 rfl (.here) rfl) rfl rfl rfl ?_
  refine VS_pure (P_len il23 rfl) rfl rfl rfl ?_
  refine VS_pure (P_addN rfl rfl (by omega)) rfl rfl rfl ?_
  refine VS_pure (P_assign rfl) rfl rfl rfl ?_
  refine VS_nil ?_
  refine QS_then ?_
  refine TS_seq ?_
  refine TS_seq ?_
  refine TS_cut3 (α := Int) (fun z => [(1, .pointer (some ⟨b1, 0, none⟩)), (3, .int .i64 z)]) (fun _ => [cel b1 [.slice A b.cards.length c, .slice F b.fmts.length k] 25]) (fun z => 0 ≤ z ∧ z ≤ 400000) ?_ ?_
  · refine TS_region ?_
    refine VS_pure (P_assign rfl) rfl rfl rfl ?_
    refine VS_nil ?_
    refine QS_then ?_
    refine TS_block ?_
    refine TS_loop (α := Nat × Int) (fun y => [(1, .pointer (some ⟨b1, 0, none⟩)), (3, .int .i64 y.2), (4, .int .i64 (y.1 : Nat))]) (fun _ => [cel b1 [.slice A b.cards.length c, .slice F b.fmts.length k] 25]) (fun y => y.1 ≤ b.cards.length ∧ 0 ≤ y.2 ∧ y.2 ≤ 400000) (fun y => b.cards.length - y.1) (0, (b.cards.length : Int) + (b.fmts.length : Int)) ⟨rfl, rfl, rfl, trivial⟩ (Pick.refl _) ⟨Nat.zero_le _, by dsimp only; omega, by dsimp only; omega⟩ ?_
    rintro ⟨i, z⟩ ⟨hi, hz0, hz1⟩
    dsimp only at hi hz0 hz1 ⊢
    by_cases hlt : i < b.cards.length
    · by_cases hz : z ≤ 6000
      · have hA : A.isSome = true := q3.isSome (by omega)
        have hat := q3.elem (i * 12) 12
        obtain ⟨A1, la, ca, B, lb, cb, D, ld, cd, hcc, e1, e2, e3⟩ := CardR.parts (q5 i hlt)
        rw [hcc] at hat
        have s1 := fun m' (hm : Le m m') => SizeS (c := ca) hm e1
        have s2 := fun m' (hm : Le m m') => SizeS (c := cb) hm e2
        have s3 := fun m' (hm : Le m m') => SizeS (c := cd) hm e3
        clear e1 e2 e3 hcc q5 r5
        refine TS_seq ?_
        refine TS_seq ?_
        refine TS_region ?_
        refine VS_pure (P_move rfl) rfl rfl rfl ?_
        refine VS_pure (P_fieldAddr0 fo25_0 rfl) rfl rfl rfl ?_
        refine VS_read (S_loadB sg22 rfl (.here) rfl) rfl rfl rfl ?_
        refine VS_pure (P_len il22 rfl) rfl rfl rfl ?_
        refine VS_pure (dt (P_lss rfl rfl) (by omega)) rfl rfl rfl ?_
        refine VS_pure (P_move rfl) rfl rfl rfl ?_
        refine VS_pure (P_move rfl) rfl rfl rfl ?_
        refine VS_pure (dt (P_leq rfl rfl) (by assumption)) rfl rfl rfl ?_
        refine VS_pure (P_pick_t rfl rfl) rfl rfl rfl ?_
        refine VS_nil ?_
        refine QS_then ?_
        refine TS_true rfl ?_
        refine TS_skip ?_
        refine QS_then ?_
        refine TS_seq ?_
        refine TS_block ?_
        refine TS_seq ?_
        refine TS_region ?_
        refine VS_pure (P_fieldAddr0 fo25_0 rfl) rfl rfl rfl ?_
        refine VS_read (S_loadB sg22 rfl (.here) rfl) rfl rfl rfl ?_
        refine VS_pure (P_move rfl) rfl rfl rfl ?_
        refine VS_pure (P_indexAddrN ez22 rfl rfl hA (by omega)) rfl rfl rfl ?_
        refine VS_read (S_loadAt ag69 rfl rfl hat) rfl rfl rfl ?_
        refine VS_step (S_alloc zl69 rfl (fun b2 => ?_)) rfl
        refine VS_step (S_storeAgg ag69 rfl rfl rfl (.here) rfl rfl ?_) rfl
        refine VS_nil ?_
        refine QS_then ?_
        refine TS_draw (.step 0 .pure (.step 1 .pure (.step 5 .pure (.step 9 .pure (.step 2 .read (.step 6 .read (.step 10 .read (.step 3 .kept (.step 4 .pure (.step 7 .kept (.step 8 .pure (.step 11 .kept (.step 12 .pure (.step 13 .pure (.done))))))))))))))) mixed (by kernel_rfl) (fun _ _ _ _ hq => hq) ?_
        refine VTS_pure rfl (P_move rfl) rfl rfl rfl ?_
        refine VTS_pure rfl (P_fieldAddr0 fo69_8 rfl) rfl rfl rfl ?_
        refine VTS_pure rfl (P_fieldAddr0 fo69_9 rfl) rfl rfl rfl ?_
        refine VTS_pure rfl (P_fieldAddr0 fo69_10 rfl) rfl rfl rfl ?_
        iterate 3 (refine VTS_read rfl (S_loadB sg67 rfl (.here) rfl) rfl rfl rfl ?_)
        refine VTS_kept rfl (S_callR cl34 rfl (fun m' hm he => (s1 m' hm)) rfl ?_) rfl
        rintro _ ⟨z1, rfl, hz10, hz11⟩
        refine VTS_pure rfl (P_add rfl rfl (w64 (by omega) (by omega))) rfl rfl rfl ?_
        refine VTS_kept rfl (S_callR cl34 rfl (fun m' hm he => (s2 m' hm)) rfl ?_) rfl
        rintro _ ⟨z2, rfl, hz20, hz21⟩
        refine VTS_pure rfl (P_add rfl rfl (w64 (by omega) (by omega))) rfl rfl rfl ?_
        refine VTS_kept rfl (S_callR cl34 rfl (fun m' hm he => (s3 m' hm)) rfl ?_) rfl
        rintro _ ⟨z3, rfl, hz30, hz31⟩
        refine VTS_pure rfl (P_add rfl rfl (w64 (by omega) (by omega))) rfl rfl rfl ?_
        refine VTS_pure rfl (P_assign rfl) rfl rfl rfl ?_
        refine VTS_nil ?_
        refine QS_block ?_
        refine QS_then ?_
        refine TS_region ?_
        refine VS_pure (P_move rfl) rfl rfl rfl ?_
        refine VS_pure (P_add rfl rfl (w64 (by omega) (by omega))) rfl rfl rfl ?_
        refine VS_pure (P_assign rfl) rfl rfl rfl ?_
        refine VS_nil ?_
        exact QS_round (i + 1, z + z1 + z2 + z3) ⟨rfl, rfl, rfl, trivial⟩ (.cons (.there .here) (.nil _)) ⟨hlt, by dsimp only; omega, by dsimp only; omega⟩ (by dsimp only; omega)
      · refine TS_seq ?_
        refine TS_seq ?_
        refine TS_region ?_
        refine VS_pure (P_move rfl) rfl rfl rfl ?_
        refine VS_pure (P_fieldAddr0 fo25_0 rfl) rfl rfl rfl ?_
        refine VS_read (S_loadB sg22 rfl (.here) rfl) rfl rfl rfl ?_
        refine VS_pure (P_len il22 rfl) rfl rfl rfl ?_
        refine VS_pure (dt (P_lss rfl rfl) (by omega)) rfl rfl rfl ?_
        refine VS_pure (P_move rfl) rfl rfl rfl ?_
        refine VS_pure (P_move rfl) rfl rfl rfl ?_
        refine VS_pure (df (P_leq rfl rfl) (by assumption)) rfl rfl rfl ?_
        refine VS_pure (P_pick_t rfl rfl) rfl rfl rfl ?_
        refine VS_nil ?_
        refine QS_then ?_
        refine TS_false rfl ?_
        refine TS_exit ?_
        refine QS_then_exit ?_
        refine QS_round_exit ?_
        refine QS_block_here ?_
        exact QS_round z ⟨rfl, rfl, trivial⟩ (Pick.refl _) ⟨hz0, hz1⟩ (by decide)
    · refine TS_seq ?_
      refine TS_seq ?_
      refine TS_region ?_
      refine VS_pure (P_move rfl) rfl rfl rfl ?_
      refine VS_pure (P_fieldAddr0 fo25_0 rfl) rfl rfl rfl ?_
      refine VS_read (S_loadB sg22 rfl (.here) rfl) rfl rfl rfl ?_
      refine VS_pure (P_len il22 rfl) rfl rfl rfl ?_
      refine VS_pure (df (P_lss rfl rfl) (by omega)) rfl rfl rfl ?_
      refine VS_pure (P_move rfl) rfl rfl rfl ?_
      refine VS_skip rfl rfl rfl ?_
      refine VS_skip rfl rfl rfl ?_
      refine VS_pure (P_pick_f rfl rfl) rfl rfl rfl ?_
      refine VS_nil ?_
      refine QS_then ?_
      refine TS_false rfl ?_
      refine TS_exit ?_
      refine QS_then_exit ?_
      refine QS_round_exit ?_
      refine QS_block_here ?_
      exact QS_round z ⟨rfl, rfl, trivial⟩ (Pick.refl _) ⟨hz0, hz1⟩ (by decide)
  rintro z ⟨hz0, hz1⟩
  refine TS_seq ?_
  refine TS_seq ?_
  refine TS_region ?_
  refine VS_pure (P_assign rfl) rfl rfl rfl ?_
  refine VS_nil ?_
  refine QS_then ?_
  refine TS_block ?_
  refine TS_loop (α := Nat × Int) (fun y => [(1, .pointer (some ⟨b1, 0, none⟩)), (3, .int .i64 y.2), (6, .int .i64 (y.1 : Nat))]) (fun _ => [cel b1 [.slice A b.cards.length c, .slice F b.fmts.length k] 25]) (fun y => y.1 ≤ b.fmts.length ∧ 0 ≤ y.2 ∧ y.2 ≤ 35184372088832) (fun y => b.fmts.length - y.1) (0, z) ⟨rfl, rfl, rfl, trivial⟩ (Pick.refl _) ⟨Nat.zero_le _, by dsimp only; omega, by dsimp only; omega⟩ ?_
  rintro ⟨i, z⟩ ⟨hi, hz0, hz1⟩
  dsimp only at hi hz0 hz1 ⊢
  by_cases hlt : i < b.fmts.length
  · by_cases hz : z ≤ 6000
    · have hA : F.isSome = true := r3.isSome (by omega)
      have hat := r3.elem (i * 7) 7
      obtain ⟨A1, ca, B1, cb, hcc, ⟨_, e1⟩, ⟨_, e2⟩⟩ := r5 i hlt
      rw [hcc] at hat
      have h4 : mc m (((sa F).add (i * 7)).add 4) = some (.slice A1 b.fmts[i].banned.length ca) := hat.at_ (o := 4) rfl
      have h5 : mc m (((sa F).add (i * 7)).add 5) = some (.slice B1 b.fmts[i].single.length cb) := hat.at_ (o := 5) rfl
      generalize b.fmts[i].banned.length = n1 at h4 e1
      generalize b.fmts[i].single.length = n2 at h5 e2
      clear hat hcc r5 q5
      refine TS_seq ?_
      refine TS_seq ?_
      refine TS_region ?_
      refine VS_pure (P_move rfl) rfl rfl rfl ?_
      refine VS_pure (P_fieldAddr0 fo25_1 rfl) rfl rfl rfl ?_
      refine VS_read (S_loadB sg23 rfl (.here) rfl) rfl rfl rfl ?_
      refine VS_pure (P_len il23 rfl) rfl rfl rfl ?_
      refine VS_pure (dt (P_lss rfl rfl) (by omega)) rfl rfl rfl ?_
      refine VS_pure (P_move rfl) rfl rfl rfl ?_
      refine VS_pure (P_move rfl) rfl rfl rfl ?_
      refine VS_pure (dt (P_leq rfl rfl) (by assumption)) rfl rfl rfl ?_
      refine VS_pure (P_pick_t rfl rfl) rfl rfl rfl ?_
      refine VS_nil ?_
      refine QS_then ?_
      refine TS_true rfl ?_
      refine TS_skip ?_
      refine QS_then ?_
      refine TS_seq ?_
      refine TS_block ?_
      refine TS_draw (.step 0 .pure (.step 1 .pure (.step 3 .pure (.step 9 .pure (.step 11 .pure (.step 2 .read (.step 4 .pure (.step 5 .pure (.step 6 .read (.step 7 .pure (.step 8 .pure (.step 10 .read (.step 12 .pure (.step 13 .pure (.step 14 .read (.step 15 .pure (.step 16 .pure (.step 17 .pure (.done))))))))))))))))))) mixed (by kernel_rfl) (fun _ _ _ _ hq => hq) ?_
      refine VTS_pure rfl (P_move rfl) rfl rfl rfl ?_
      refine VTS_pure rfl (P_fieldAddr0 fo25_1 rfl) rfl rfl rfl ?_
      refine VTS_pure rfl (P_move rfl) rfl rfl rfl ?_
      refine VTS_pure rfl (P_fieldAddr0 fo25_1 rfl) rfl rfl rfl ?_
      refine VTS_pure rfl (P_move rfl) rfl rfl rfl ?_
      refine VTS_read rfl (S_loadB sg23 rfl (.here) rfl) rfl rfl rfl ?_
      refine VTS_pure rfl (P_indexAddrN ez23 rfl rfl hA (by omega)) rfl rfl rfl ?_
      refine VTS_pure rfl (P_fieldAddr fo51_4 rfl) rfl rfl rfl ?_
      refine VTS_read rfl (S_load sg26 rfl h4) rfl rfl rfl ?_
      refine VTS_pure rfl (P_len il26 rfl) rfl rfl rfl ?_
      refine VTS_pure rfl (P_add rfl rfl (w64 (by omega) (by omega))) rfl rfl rfl ?_
      refine VTS_read rfl (S_loadB sg23 rfl (.here) rfl) rfl rfl rfl ?_
      refine VTS_pure rfl (P_indexAddrN ez23 rfl rfl hA (by omega)) rfl rfl rfl ?_
      refine VTS_pure rfl (P_fieldAddr fo51_5 rfl) rfl rfl rfl ?_
      refine VTS_read rfl (S_load sg26 rfl h5) rfl rfl rfl ?_
      refine VTS_pure rfl (P_len il26 rfl) rfl rfl rfl ?_
      refine VTS_pure rfl (P_add rfl rfl (w64 (by omega) (by omega))) rfl rfl rfl ?_
      refine VTS_pure rfl (P_assign rfl) rfl rfl rfl ?_
      refine VTS_nil ?_
      refine QS_block ?_
      refine QS_then ?_
      refine TS_region ?_
      refine VS_pure (P_move rfl) rfl rfl rfl ?_
      refine VS_pure (P_add rfl rfl (w64 (by omega) (by omega))) rfl rfl rfl ?_
      refine VS_pure (P_assign rfl) rfl rfl rfl ?_
      refine VS_nil ?_
      exact QS_round (i + 1, z + n1 + n2) ⟨rfl, rfl, rfl, trivial⟩ (Pick.refl _) ⟨hlt, by dsimp only; omega, by dsimp only; omega⟩ (by dsimp only; omega)
    · refine TS_seq ?_
      refine TS_seq ?_
      refine TS_region ?_
      refine VS_pure (P_move rfl) rfl rfl rfl ?_
      refine VS_pure (P_fieldAddr0 fo25_1 rfl) rfl rfl rfl ?_
      refine VS_read (S_loadB sg23 rfl (.here) rfl) rfl rfl rfl ?_
      refine VS_pure (P_len il23 rfl) rfl rfl rfl ?_
      refine VS_pure (dt (P_lss rfl rfl) (by omega)) rfl rfl rfl ?_
      refine VS_pure (P_move rfl) rfl rfl rfl ?_
      refine VS_pure (P_move rfl) rfl rfl rfl ?_
      refine VS_pure (df (P_leq rfl rfl) (by assumption)) rfl rfl rfl ?_
      refine VS_pure (P_pick_t rfl rfl) rfl rfl rfl ?_
      refine VS_nil ?_
      refine QS_then ?_
      refine TS_false rfl ?_
      refine TS_exit ?_
      refine QS_then_exit ?_
      refine QS_round_exit ?_
      refine QS_block_here ?_
      refine QS_then ?_
      refine TS_seq ?_
      refine TS_region ?_
      refine VS_pure (P_move rfl) rfl rfl rfl ?_
      refine VS_pure (dt (P_gtr rfl rfl) (by omega)) rfl rfl rfl ?_
      refine VS_pure (P_assign rfl) rfl rfl rfl ?_
      refine VS_nil ?_
      refine QS_then ?_
      refine TS_ret ?_
      exact QS_ret [_] ⟨rfl, trivial⟩ [] (Pick.nil _) ⟨rfl, _, rfl⟩
  · by_cases hz : z ≤ 6000
    · refine TS_seq ?_
      refine TS_seq ?_
      refine TS_region ?_
      refine VS_pure (P_move rfl) rfl rfl rfl ?_
      refine VS_pure (P_fieldAddr0 fo25_1 rfl) rfl rfl rfl ?_
      refine VS_read (S_loadB sg23 rfl (.here) rfl) rfl rfl rfl ?_
      refine VS_pure (P_len il23 rfl) rfl rfl rfl ?_
      refine VS_pure (df (P_lss rfl rfl) (by omega)) rfl rfl rfl ?_
      refine VS_pure (P_move rfl) rfl rfl rfl ?_
      refine VS_skip rfl rfl rfl ?_
      refine VS_skip rfl rfl rfl ?_
      refine VS_pure (P_pick_f rfl rfl) rfl rfl rfl ?_
      refine VS_nil ?_
      refine QS_then ?_
      refine TS_false rfl ?_
      refine TS_exit ?_
      refine QS_then_exit ?_
      refine QS_round_exit ?_
      refine QS_block_here ?_
      refine QS_then ?_
      refine TS_seq ?_
      refine TS_region ?_
      refine VS_pure (P_move rfl) rfl rfl rfl ?_
      refine VS_pure (df (P_gtr rfl rfl) (by omega)) rfl rfl rfl ?_
      refine VS_pure (P_assign rfl) rfl rfl rfl ?_
      refine VS_nil ?_
      refine QS_then ?_
      refine TS_ret ?_
      exact QS_ret [_] ⟨rfl, trivial⟩ [] (Pick.nil _) ⟨rfl, _, rfl⟩
    · refine TS_seq ?_
      refine TS_seq ?_
      refine TS_region ?_
      refine VS_pure (P_move rfl) rfl rfl rfl ?_
      refine VS_pure (P_fieldAddr0 fo25_1 rfl) rfl rfl rfl ?_
      refine VS_read (S_loadB sg23 rfl (.here) rfl) rfl rfl rfl ?_
      refine VS_pure (P_len il23 rfl) rfl rfl rfl ?_
      refine VS_pure (df (P_lss rfl rfl) (by omega)) rfl rfl rfl ?_
      refine VS_pure (P_move rfl) rfl rfl rfl ?_
      refine VS_skip rfl rfl rfl ?_
      refine VS_skip rfl rfl rfl ?_
      refine VS_pure (P_pick_f rfl rfl) rfl rfl rfl ?_
      refine VS_nil ?_
      refine QS_then ?_
      refine TS_false rfl ?_
      refine TS_exit ?_
      refine QS_then_exit ?_
      refine QS_round_exit ?_
      refine QS_block_here ?_
      refine QS_then ?_
      refine TS_seq ?_
      refine TS_region ?_
      refine VS_pure (P_move rfl) rfl rfl rfl ?_
      refine VS_pure (dt (P_gtr rfl rfl) (by omega)) rfl rfl rfl ?_
      refine VS_pure (P_assign rfl) rfl rfl rfl ?_
      refine VS_nil ?_
      refine QS_then ?_
      refine TS_ret ?_
      exact QS_ret [_] ⟨rfl, trivial⟩ [] (Pick.nil _) ⟨rfl, _, rfl⟩
set_option maxHeartbeats 8000000 in
/-- too great to be asked: or it is not, and the numbers are small -/
theorem great_ok {m : Mp} {bv : List Value} {b : BkT} (hb : BkR m bv b) {A : Option Addr} {c n : Nat} (hn : n ≤ 9223372036854775807) (hf0 : b.fmts.length ≤ 140737488355328) (hc0 : b.cards.length ≤ 9223372036854775807) : CS Tryd.prog 7 [.agg bv.toArray, .slice A n c] m [] (fun v L' => L' = [] ∧ ∃ g, v = .bool g ∧ (g = false → n ≤ 300)) := by
  have hb0 := hb
  obtain ⟨A0, c0, F0, k0, rfl, _⟩ := hb
  refine CS_of [.tmp 4] Tryd.func7 rfl rfl rfl ?_
  by_cases h1 : (n : Int) > 300
  · refine TS_seq ?_
    refine TS_region ?_
    refine VS_step (S_box rfl rfl (fun b1 => ?_)) rfl
    refine VS_pure (P_assign rfl) rfl rfl rfl ?_
    refine VS_nil ?_
    refine QS_then ?_
    refine TS_seq ?_
    refine TS_region ?_
    refine VS_pure (P_move rfl) rfl rfl rfl ?_
    refine VS_pure (P_len il26 rfl) rfl rfl rfl ?_
    refine VS_pure (dt (P_gtr rfl rfl) (by assumption)) rfl rfl rfl ?_
    refine VS_pure (P_move rfl) rfl rfl rfl ?_
    iterate 4 (refine VS_skip rfl rfl rfl ?_)
    refine VS_pure (P_pick_t rfl rfl) rfl rfl rfl ?_
    refine VS_pure (P_move rfl) rfl rfl rfl ?_
    iterate 4 (refine VS_skip rfl rfl rfl ?_)
    refine VS_pure (P_pick_t rfl rfl) rfl rfl rfl ?_
    refine VS_pure (P_move rfl) rfl rfl rfl ?_
    refine VS_skip rfl rfl rfl ?_
    refine VS_skip rfl rfl rfl ?_
    refine VS_pure (P_pick_t rfl rfl) rfl rfl rfl ?_
    refine VS_pure (P_assign rfl) rfl rfl rfl ?_
    refine VS_nil ?_
    refine QS_then ?_
    refine TS_ret ?_
    exact QS_ret [_] ⟨rfl, trivial⟩ [] (Pick.nil _) ⟨rfl, true, rfl, fun h => by cases h⟩
  · by_cases h2 : (b.cards.length : Int) > 300
    · refine TS_seq ?_
      refine TS_region ?_
      refine VS_step (S_box rfl rfl (fun b1 => ?_)) rfl
      refine VS_pure (P_assign rfl) rfl rfl rfl ?_
      refine VS_nil ?_
      refine QS_then ?_
      refine TS_seq ?_
      refine TS_region ?_
      refine VS_pure (P_move rfl) rfl rfl rfl ?_
      refine VS_pure (P_len il26 rfl) rfl rfl rfl ?_
      refine VS_pure (df (P_gtr rfl rfl) (by assumption)) rfl rfl rfl ?_
      refine VS_pure (P_move rfl) rfl rfl rfl ?_
      refine VS_pure (P_fieldAddr0 fo25_0 rfl) rfl rfl rfl ?_
      refine VS_read (S_loadB sg22 rfl (.here) rfl) rfl rfl rfl ?_
      refine VS_pure (P_len il22 rfl) rfl rfl rfl ?_
      refine VS_pure (dt (P_gtr rfl rfl) (by assumption)) rfl rfl rfl ?_
      refine VS_pure (P_pick_f rfl rfl) rfl rfl rfl ?_
      refine VS_pure (P_move rfl) rfl rfl rfl ?_
      iterate 4 (refine VS_skip rfl rfl rfl ?_)
      refine VS_pure (P_pick_t rfl rfl) rfl rfl rfl ?_
      refine VS_pure (P_move rfl) rfl rfl rfl ?_
      refine VS_skip rfl rfl rfl ?_
      refine VS_skip rfl rfl rfl ?_
      refine VS_pure (P_pick_t rfl rfl) rfl rfl rfl ?_
      refine VS_pure (P_assign rfl) rfl rfl rfl ?_
      refine VS_nil ?_
      refine QS_then ?_
      refine TS_ret ?_
      exact QS_ret [_] ⟨rfl, trivial⟩ [] (Pick.nil _) ⟨rfl, true, rfl, fun h => by cases h⟩
    · by_cases h3 : (b.fmts.length : Int) > 100
      · refine TS_seq ?_
        refine TS_region ?_
        refine VS_step (S_box rfl rfl (fun b1 => ?_)) rfl
        refine VS_pure (P_assign rfl) rfl rfl rfl ?_
        refine VS_nil ?_
        refine QS_then ?_
        refine TS_seq ?_
        refine TS_region ?_
        refine VS_pure (P_move rfl) rfl rfl rfl ?_
        refine VS_pure (P_len il26 rfl) rfl rfl rfl ?_
        refine VS_pure (df (P_gtr rfl rfl) (by assumption)) rfl rfl rfl ?_
        refine VS_pure (P_move rfl) rfl rfl rfl ?_
        refine VS_pure (P_fieldAddr0 fo25_0 rfl) rfl rfl rfl ?_
        refine VS_read (S_loadB sg22 rfl (.here) rfl) rfl rfl rfl ?_
        refine VS_pure (P_len il22 rfl) rfl rfl rfl ?_
        refine VS_pure (df (P_gtr rfl rfl) (by assumption)) rfl rfl rfl ?_
        refine VS_pure (P_pick_f rfl rfl) rfl rfl rfl ?_
        refine VS_pure (P_move rfl) rfl rfl rfl ?_
        refine VS_pure (P_fieldAddr0 fo25_1 rfl) rfl rfl rfl ?_
        refine VS_read (S_loadB sg23 rfl (.here) rfl) rfl rfl rfl ?_
        refine VS_pure (P_len il23 rfl) rfl rfl rfl ?_
        refine VS_pure (dt (P_gtr rfl rfl) (by assumption)) rfl rfl rfl ?_
        refine VS_pure (P_pick_f rfl rfl) rfl rfl rfl ?_
        refine VS_pure (P_move rfl) rfl rfl rfl ?_
        refine VS_skip rfl rfl rfl ?_
        refine VS_skip rfl rfl rfl ?_
        refine VS_pure (P_pick_t rfl rfl) rfl rfl rfl ?_
        refine VS_pure (P_assign rfl) rfl rfl rfl ?_
        refine VS_nil ?_
        refine QS_then ?_
        refine TS_ret ?_
        exact QS_ret [_] ⟨rfl, trivial⟩ [] (Pick.nil _) ⟨rfl, true, rfl, fun h => by cases h⟩
      · have G := fun m' (hm : Le m m') => Great_ok (hb0.mono hm) (by omega) (by omega)
        refine TS_seq ?_
        refine TS_region ?_
        refine VS_step (S_box rfl rfl (fun b1 => ?_)) rfl
        refine VS_pure (P_assign rfl) rfl rfl rfl ?_
        refine VS_nil ?_
        refine QS_then ?_
        refine TS_seq ?_
        refine TS_region ?_
        refine VS_pure (P_move rfl) rfl rfl rfl ?_
        refine VS_pure (P_len il26 rfl) rfl rfl rfl ?_
        refine VS_pure (df (P_gtr rfl rfl) (by assumption)) rfl rfl rfl ?_
        refine VS_pure (P_move rfl) rfl rfl rfl ?_
        refine VS_pure (P_fieldAddr0 fo25_0 rfl) rfl rfl rfl ?_
        refine VS_read (S_loadB sg22 rfl (.here) rfl) rfl rfl rfl ?_
        refine VS_pure (P_len il22 rfl) rfl rfl rfl ?_
        refine VS_pure (df (P_gtr rfl rfl) (by assumption)) rfl rfl rfl ?_
        refine VS_pure (P_pick_f rfl rfl) rfl rfl rfl ?_
        refine VS_pure (P_move rfl) rfl rfl rfl ?_
        refine VS_pure (P_fieldAddr0 fo25_1 rfl) rfl rfl rfl ?_
        refine VS_read (S_loadB sg23 rfl (.here) rfl) rfl rfl rfl ?_
        refine VS_pure (P_len il23 rfl) rfl rfl rfl ?_
        refine VS_pure (df (P_gtr rfl rfl) (by assumption)) rfl rfl rfl ?_
        refine VS_pure (P_pick_f rfl rfl) rfl rfl rfl ?_
        refine VS_pure (P_move rfl) rfl rfl rfl ?_
        refine VS_read (S_loadBA ag25 rfl (.here) rfl) rfl rfl rfl ?_
        refine VS_step ((S_call cl20 rfl (fun m' hm he => G m' hm) rfl ?_)) rfl
        rintro _ _ ⟨rfl, g, rfl⟩
        refine VS_pure (P_pick_f rfl rfl) rfl rfl rfl ?_
        refine VS_pure (P_assign rfl) rfl rfl rfl ?_
        refine VS_nil ?_
        refine QS_then ?_
        refine TS_ret ?_
        exact QS_ret [_] ⟨rfl, trivial⟩ [] (Pick.nil _) ⟨rfl, g, rfl, fun _ => by omega⟩
end Go.Proofs.YtccleakfgmcjpaaDoor
