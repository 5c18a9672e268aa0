/- A part of the proof: contracts of functions of the program. No condition. -/
import Derived.Test.YtigfdclopkagmaaDoorWdG
import Derived.Test.YtigfdclopkagmaaDoorWdI
namespace Go.Proofs.YtigfdclopkagmaaDoor
open Go.Eng Wd Go.RowKit

def wF (w : Wrd) : List Dt := [.i .i8 w.kind, .s w.text, .i .i64 w.n, .i .i64 w.at_]
theorem wF_v (w : Wrd) : (wF w).map Dt.v = wV w := rfl
theorem wsV_at : ∀ {ws : List Wrd} {i : Nat} (h : i < ws.length), ((wsV ws).drop (i * 4)).take 4 = wV ws[i]
  | w :: r, 0, _ => by simp [wsV, wV]
  | w :: r, i + 1, h => by
    have ih := wsV_at (ws := r) (i := i) (by simpa using h)
    have : (wsV (w :: r)).drop ((i + 1) * 4) = (wsV r).drop (i * 4) := by
      simp only [wsV, List.flatMap_cons]
      rw [show (i + 1) * 4 = (wV w).length + i * 4 by simp [wV]; omega, ← List.drop_drop, List.drop_left]
    rw [this, ih]
    rfl
theorem wsV_get {ws : List Wrd} {i j : Nat} (h : i < ws.length) (hj : j < 4) : (wsV ws)[i * 4 + j]? = (wV ws[i])[j]? := by
  rw [← wsV_at h, List.getElem?_take, if_pos hj, List.getElem?_drop]
def elV : List UInt8 := [195, 137, 108, 97, 110, 39]
set_option maxHeartbeats 8000000 in
theorem wakes_ok {m : Mp} (hT : Tabs m) : CS Tryd.prog 8 [] m [] (Gives (.bool true)) := by
  refine CS_of [.tmp 0] Tryd.func8 rfl rfl rfl ?_
  refine TS_seq ?_
  refine TS_region ?_
  refine VS_pure (P_assign rfl) rfl rfl rfl ?_
  refine VS_nil ?_
  refine QS_then ?_
  refine TS_seq ?_
  refine TS_region ?_
  have F1 : ∀ m', Le m m' → CS Tryd.prog 6 [.string (bs t1)] m' [] (CutPost (.ok w1)) := fun m' hm => by
    have := Cut_ok (hT.mono hm) (s := t1) (by decide)
    rwa [isOk_eq cut1] at this
  have F2 : ∀ m', Le m m' → CS Tryd.prog 6 [.string (bs [48, 49])] m' [] (CutPost (.error (110, 0))) := fun m' hm => by
    have := Cut_ok (hT.mono hm) (s := [48, 49]) (by decide)
    rwa [isErr_eq cut2] at this
  refine VS_step ((S_call cl6 rfl (fun m' hm he => F1 m' hm) rfl ?_)) rfl
  rintro _ _ ⟨A, c, rfl, rfl⟩
  refine VS_pure (P_move rfl) rfl rfl rfl ?_
  refine VS_pure (P_extract rfl rfl) rfl rfl rfl ?_
  refine VS_pure (P_extract rfl rfl) rfl rfl rfl ?_
  refine VS_step (S_alloc zl25 rfl (fun b1 => ?_)) rfl
  refine VS_pure (P_assign rfl) rfl rfl rfl ?_
  refine VS_step (S_storeAgg ag25 rfl rfl rfl (.here) rfl rfl ?_) rfl
  refine VS_nil ?_
  refine QS_then ?_
  refine TS_seq ?_
  refine TS_region ?_
  refine VS_step ((S_call cl6 rfl (fun m' hm he => F2 m' hm) rfl ?_)) rfl
  rintro _ _ ⟨rfl, rfl⟩
  refine VS_fact (own_isSome (.there .here) (by decide)) (fun hA => ?_)
  refine VS_pure (P_move rfl) rfl rfl rfl ?_
  refine VS_pure (P_extract rfl rfl) rfl rfl rfl ?_
  refine VS_pure (P_extract rfl rfl) rfl rfl rfl ?_
  refine VS_step (S_alloc zl25 rfl (fun b2 => ?_)) rfl
  refine VS_pure (P_assign rfl) rfl rfl rfl ?_
  refine VS_step (S_storeAgg ag25 rfl rfl rfl (.here) rfl rfl ?_) rfl
  refine VS_nil ?_
  refine QS_then ?_
  refine TS_seq ?_
  refine TS_region ?_
  refine VS_pure (P_fieldAddr0 fo25_0 rfl) rfl rfl rfl ?_
  refine VS_read (S_loadB sg23 rfl (.there (.here)) rfl) rfl rfl rfl ?_
  refine VS_pure (dt (P_eql rfl rfl) (by first | assumption | rfl | omega | decide)) rfl rfl rfl ?_
  refine VS_pure (P_move rfl) rfl rfl rfl ?_
  refine VS_pure (P_move rfl) rfl rfl rfl ?_
  refine VS_pure (P_len il22 rfl) rfl rfl rfl ?_
  refine VS_pure (dt (P_eql rfl rfl) (by first | assumption | rfl | omega | decide)) rfl rfl rfl ?_
  refine VS_pure (P_pick_t rfl rfl) rfl rfl rfl ?_
  refine VS_pure (P_move rfl) rfl rfl rfl ?_
  refine VS_pure (P_move rfl) rfl rfl rfl ?_
  have k1 : (wsV w1)[1 * 4 + 1]? = some (.string (bs elan)) := rfl
  have k2 : (wsV w1)[2 * 4 + 2]? = some (.int .i64 3) := rfl
  have k3 : (wsV w1)[3 * 4]? = some (.int .i8 0) := rfl
  have hw : w1.length = 4 := rfl
  refine VS_pure (P_indexAddr ez22 rfl rfl hA (by omega) (by omega)) rfl rfl rfl ?_
  refine VS_pure (P_fieldAddr fo30_1 rfl) rfl rfl rfl ?_
  refine VS_read (S_loadOF sg9 rfl (.there (.there (.here))) k1) rfl rfl rfl ?_
  refine VS_pure (dt (P_seql rfl rfl) (by first | assumption | rfl | omega | decide)) rfl rfl rfl ?_
  refine VS_pure (P_pick_t rfl rfl) rfl rfl rfl ?_
  refine VS_pure (P_move rfl) rfl rfl rfl ?_
  refine VS_pure (P_move rfl) rfl rfl rfl ?_
  refine VS_pure (P_indexAddr ez22 rfl rfl hA (by omega) (by omega)) rfl rfl rfl ?_
  refine VS_pure (P_fieldAddr fo30_2 rfl) rfl rfl rfl ?_
  refine VS_read (S_loadOF sg3 rfl (.there (.there (.here))) k2) rfl rfl rfl ?_
  refine VS_pure (dt (P_eql rfl rfl) (by first | assumption | rfl | omega | decide)) rfl rfl rfl ?_
  refine VS_pure (P_pick_t rfl rfl) rfl rfl rfl ?_
  refine VS_pure (P_move rfl) rfl rfl rfl ?_
  refine VS_pure (P_move rfl) rfl rfl rfl ?_
  refine VS_pure (P_indexAddr ez22 rfl rfl hA (by omega) (by omega)) rfl rfl rfl ?_
  refine VS_pure (P_fieldAddr fo30_0 rfl) rfl rfl rfl ?_
  refine VS_read (S_loadOF sg28 rfl (.there (.there (.here))) k3) rfl rfl rfl ?_
  refine VS_pure (dt (P_eql rfl rfl) (by first | assumption | rfl | omega | decide)) rfl rfl rfl ?_
  refine VS_pure (P_pick_t rfl rfl) rfl rfl rfl ?_
  refine VS_pure (P_move rfl) rfl rfl rfl ?_
  refine VS_read (S_loadBA ag25 rfl (.here) rfl) rfl rfl rfl ?_
  refine VS_pure (P_build zl25 pl25 rfl rfl) rfl rfl rfl ?_
  refine VS_pure ((dt (P_structEql [.i .i64 110, .i .i64 0] [.i .i64 110, .i .i64 0] fg25 rfl rfl rfl rfl) rfl)) rfl rfl rfl ?_
  refine VS_pure (P_pick_t rfl rfl) rfl rfl rfl ?_
  refine VS_pure (P_move rfl) rfl rfl rfl ?_
  refine VS_step (S_callR cl10 rfl (fun m' hm he => (Own_ok (hT.mono hm) [99, 97, 114, 100])) rfl ?_) rfl
  rintro _ rfl
  rw [show ownP [99, 97, 114, 100] = true by decide +kernel]
  refine VS_pure (P_pick_t rfl rfl) rfl rfl rfl ?_
  refine VS_pure (P_move rfl) rfl rfl rfl ?_
  refine VS_step (S_callR cl12 rfl (fun m' hm he => (Name_ok (hT.mono hm) (s := [99, 97, 114, 100]) (by decide))) rfl ?_) rfl
  rintro _ rfl
  rw [show nameP [99, 97, 114, 100] = false by decide +kernel]
  refine VS_pure (P_not rfl) rfl rfl rfl ?_
  refine VS_pure (P_pick_t rfl rfl) rfl rfl rfl ?_
  refine VS_pure (P_move rfl) rfl rfl rfl ?_
  refine VS_step (S_callR cl12 rfl (fun m' hm he => (Name_ok (hT.mono hm) (s := [73, 109, 112]) (by decide))) rfl ?_) rfl
  rintro _ rfl
  rw [show nameP [73, 109, 112] = true by decide +kernel]
  refine VS_pure (P_pick_t rfl rfl) rfl rfl rfl ?_
  refine VS_pure (P_assign rfl) rfl rfl rfl ?_
  refine VS_nil ?_
  refine QS_then ?_
  refine TS_ret ?_
  exact QS_ret [_] ⟨rfl, trivial⟩ [] (Pick.nil _) ⟨rfl, rfl⟩

theorem fault_eq (e a : Int) : faultV e a = .agg (([.i .i64 e, .i .i64 a] : List Dt).map Dt.v).toArray := rfl
set_option maxHeartbeats 8000000 in
theorem cut_core {m : Mp} (hT : Tabs m) {s : List UInt8} (hs : s.length ≤ 9223372036854775807) : CS Tryd.prog 3 [.string (bs s)] m [] (Gives (.bool true)) := by
  refine CS_of [.tmp 2] Tryd.func3 rfl rfl rfl ?_
  have F1 : ∀ m', Le m m' → CS Tryd.prog 6 [.string (bs s)] m' [] (CutPost (cutP s)) := fun m' hm => Cut_ok (hT.mono hm) hs
  have F2 : ∀ m', Le m m' → CS Tryd.prog 7 [.string (bs s)] m' [] (CutPost (cutP s)) := fun m' hm => CutR_ok hs
  cases hc : cutP s with
  | error p =>
    obtain ⟨e, a⟩ := p
    rw [hc] at F1 F2
    refine TS_seq ?_
    refine TS_region ?_
    refine VS_pure (P_assign rfl) rfl rfl rfl ?_
    refine VS_nil ?_
    refine QS_then ?_
    refine TS_seq ?_
    refine TS_region ?_
    refine VS_pure (P_move rfl) rfl rfl rfl ?_
    refine VS_step ((S_call cl6 rfl (fun m' hm he => F1 m' hm) rfl ?_)) rfl
    rintro _ _ ⟨rfl, rfl⟩
    refine VS_pure (P_move rfl) rfl rfl rfl ?_
    refine VS_pure (P_extract rfl rfl) rfl rfl rfl ?_
    refine VS_pure (P_extract rfl rfl) rfl rfl rfl ?_
    refine VS_step (S_alloc zl25 rfl (fun b1 => ?_)) rfl
    refine VS_pure (P_assign rfl) rfl rfl rfl ?_
    refine VS_step (S_storeAgg ag25 rfl rfl rfl (.here) rfl rfl ?_) rfl
    refine VS_nil ?_
    refine QS_then ?_
    refine TS_seq ?_
    refine TS_region ?_
    refine VS_pure (P_move rfl) rfl rfl rfl ?_
    refine VS_step ((S_call cl7 rfl (fun m' hm he => F2 m' hm) rfl ?_)) rfl
    rintro _ _ ⟨rfl, rfl⟩
    refine VS_pure (P_move rfl) rfl rfl rfl ?_
    refine VS_pure (P_extract rfl rfl) rfl rfl rfl ?_
    refine VS_pure (P_extract rfl rfl) rfl rfl rfl ?_
    refine VS_step (S_alloc zl25 rfl (fun b2 => ?_)) rfl
    refine VS_pure (P_assign rfl) rfl rfl rfl ?_
    refine VS_step (S_storeAgg ag25 rfl rfl rfl (.here) rfl rfl ?_) rfl
    refine VS_nil ?_
    refine QS_then ?_
    refine TS_seq ?_
    refine TS_seq ?_
    refine TS_region ?_
    refine VS_read (S_loadBA ag25 rfl (.there (.here)) rfl) rfl rfl rfl ?_
    refine VS_read (S_loadBA ag25 rfl (.here) rfl) rfl rfl rfl ?_
    refine VS_pure ((df (P_structNeq [.i .i64 e, .i .i64 a] [.i .i64 e, .i .i64 a] fg25 rfl rfl rfl rfl) (fun h => h rfl))) rfl rfl rfl ?_
    refine VS_pure (P_move rfl) rfl rfl rfl ?_
    refine VS_pure (P_move rfl) rfl rfl rfl ?_
    refine VS_pure (P_len il22 rfl) rfl rfl rfl ?_
    refine VS_pure (P_move rfl) rfl rfl rfl ?_
    refine VS_pure (P_len il22 rfl) rfl rfl rfl ?_
    refine VS_pure (df (P_neq rfl rfl) (by first | assumption | omega | decide | exact fun hx => hx (by assumption))) rfl rfl rfl ?_
    refine VS_pure (P_pick_f rfl rfl) rfl rfl rfl ?_
    refine VS_nil ?_
    refine QS_then ?_
    refine TS_false rfl ?_
    refine TS_skip ?_
    refine QS_then ?_
    refine TS_seq ?_
    refine TS_seq ?_
    refine TS_region ?_
    refine VS_pure (P_move rfl) rfl rfl rfl ?_
    refine VS_pure (P_len il22 rfl) rfl rfl rfl ?_
    refine VS_pure (P_move rfl) rfl rfl rfl ?_
    refine VS_nil ?_
    refine QS_then ?_
    refine TS_block ?_
    refine TS_loop (fun _ : Unit => [(29, .int .i64 (0 : Nat)), (30, .int .i64 (0 : Nat))]) (fun _ => []) (fun _ => True) (fun _ => 0) () ⟨rfl, rfl, trivial⟩ (Pick.nil _) trivial ?_
    rintro _ _
    refine TS_seq ?_
    refine TS_region ?_
    refine VS_pure (df (P_lss rfl rfl) (by first | assumption | omega | decide | exact fun hx => hx (by assumption))) rfl rfl rfl ?_
    refine VS_nil ?_
    refine QS_then ?_
    refine TS_seq ?_
    refine TS_false rfl ?_
    refine TS_exit ?_
    refine QS_then_exit ?_
    refine QS_round_exit ?_
    refine QS_block_here ?_
    refine QS_then ?_
    refine TS_seq ?_
    refine TS_region ?_
    refine VS_step (S_callR cl8 rfl (fun m' hm he => (wakes_ok (hT.mono hm))) rfl ?_) rfl
    rintro _ rfl
    refine VS_pure (P_assign rfl) rfl rfl rfl ?_
    refine VS_nil ?_
    refine QS_then ?_
    refine TS_ret ?_
    exact QS_ret [_] ⟨rfl, trivial⟩ [] (Pick.nil _) ⟨rfl, rfl⟩
  | ok ws =>
    rw [hc] at F1 F2
    have hl := cutP_len hc
    refine TS_seq ?_
    refine TS_region ?_
    refine VS_pure (P_assign rfl) rfl rfl rfl ?_
    refine VS_nil ?_
    refine QS_then ?_
    refine TS_seq ?_
    refine TS_region ?_
    refine VS_pure (P_move rfl) rfl rfl rfl ?_
    refine VS_step ((S_call cl6 rfl (fun m' hm he => F1 m' hm) rfl ?_)) rfl
    rintro _ _ ⟨A1, c1, rfl, rfl⟩
    refine VS_pure (P_move rfl) rfl rfl rfl ?_
    refine VS_pure (P_extract rfl rfl) rfl rfl rfl ?_
    refine VS_pure (P_extract rfl rfl) rfl rfl rfl ?_
    refine VS_step (S_alloc zl25 rfl (fun b1 => ?_)) rfl
    refine VS_pure (P_assign rfl) rfl rfl rfl ?_
    refine VS_step (S_storeAgg ag25 rfl rfl rfl (.here) rfl rfl ?_) rfl
    refine VS_nil ?_
    refine QS_then ?_
    refine TS_seq ?_
    refine TS_region ?_
    refine VS_pure (P_move rfl) rfl rfl rfl ?_
    refine VS_step ((S_call cl7 rfl (fun m' hm he => F2 m' hm) rfl ?_)) rfl
    rintro _ _ ⟨A2, c2, rfl, rfl⟩
    refine VS_pure (P_move rfl) rfl rfl rfl ?_
    refine VS_pure (P_extract rfl rfl) rfl rfl rfl ?_
    refine VS_pure (P_extract rfl rfl) rfl rfl rfl ?_
    refine VS_step (S_alloc zl25 rfl (fun b2 => ?_)) rfl
    refine VS_pure (P_assign rfl) rfl rfl rfl ?_
    refine VS_step (S_storeAgg ag25 rfl rfl rfl (.here) rfl rfl ?_) rfl
    refine VS_nil ?_
    refine QS_then ?_
    refine TS_seq ?_
    refine TS_seq ?_
    refine TS_region ?_
    refine VS_read (S_loadBA ag25 rfl (.there (.there (.here))) rfl) rfl rfl rfl ?_
    refine VS_read (S_loadBA ag25 rfl (.here) rfl) rfl rfl rfl ?_
    refine VS_pure ((df (P_structNeq [.i .i64 0, .i .i64 0] [.i .i64 0, .i .i64 0] fg25 rfl rfl rfl rfl) (fun h => h rfl))) rfl rfl rfl ?_
    refine VS_pure (P_move rfl) rfl rfl rfl ?_
    refine VS_pure (P_move rfl) rfl rfl rfl ?_
    refine VS_pure (P_len il22 rfl) rfl rfl rfl ?_
    refine VS_pure (P_move rfl) rfl rfl rfl ?_
    refine VS_pure (P_len il22 rfl) rfl rfl rfl ?_
    refine VS_pure (df (P_neq rfl rfl) (by first | assumption | omega | decide | exact fun hx => hx (by assumption))) rfl rfl rfl ?_
    refine VS_pure (P_pick_f rfl rfl) rfl rfl rfl ?_
    refine VS_nil ?_
    refine QS_then ?_
    refine TS_false rfl ?_
    refine TS_skip ?_
    refine QS_then ?_
    refine TS_seq ?_
    refine TS_seq ?_
    refine TS_region ?_
    refine VS_pure (P_move rfl) rfl rfl rfl ?_
    refine VS_pure (P_len il22 rfl) rfl rfl rfl ?_
    refine VS_pure (P_move rfl) rfl rfl rfl ?_
    refine VS_nil ?_
    refine QS_then ?_
    refine TS_block ?_
    refine TS_loop (fun i : Nat => [(3, .slice A1 ws.length c1), (5, .slice A2 ws.length c2), (29, .int .i64 (ws.length : Nat)), (30, .int .i64 (i : Nat))]) (fun _ => [own 30 4 A2 ws.length c2 (wsV ws), own 30 4 A1 ws.length c1 (wsV ws)]) (fun i => i ≤ ws.length) (fun i => ws.length - i) 0 ⟨rfl, rfl, rfl, rfl, trivial⟩ (Pick.cons (.there .here) (Pick.cons (.there (.there .here)) (Pick.nil _))) (Nat.zero_le _) ?_
    rintro i hi
    by_cases hlt : i < ws.length
    · refine TS_fact (own_isSome .here (by rw [wsV_len]; omega)) (fun hA2 => ?_)
      refine TS_fact (own_isSome (.there .here) (by rw [wsV_len]; omega)) (fun hA1 => ?_)
      have e := wsV_at hlt
      refine TS_seq ?_
      refine TS_region ?_
      refine VS_pure (dt (P_lss rfl rfl) (by first | assumption | rfl | omega | decide)) rfl rfl rfl ?_
      refine VS_nil ?_
      refine QS_then ?_
      refine TS_seq ?_
      refine TS_true rfl ?_
      refine TS_skip ?_
      refine QS_then ?_
      refine TS_seq ?_
      refine TS_block ?_
      refine TS_seq ?_
      refine TS_region ?_
      refine VS_pure (P_move rfl) rfl rfl rfl ?_
      refine VS_pure (P_assign rfl) rfl rfl rfl ?_
      refine VS_nil ?_
      refine QS_then ?_
      refine TS_seq ?_
      refine TS_draw (.step 0 .pure (.step 1 .pure (.step 2 .pure (.step 4 .pure (.step 5 .pure (.step 6 .pure (.step 3 .read (.step 7 .read (.step 8 .pure (.done)))))))))) mixed (by kernel_rfl) (fun _ _ _ _ hq => hq) ?_
      refine VTS_pure rfl (P_move rfl) rfl rfl rfl ?_
      refine VTS_pure rfl (P_move rfl) rfl rfl rfl ?_
      refine VTS_pure rfl (P_indexAddrN ez22 rfl rfl hA1 (by omega)) rfl rfl rfl ?_
      refine VTS_pure rfl (P_move rfl) rfl rfl rfl ?_
      refine VTS_pure rfl (P_move rfl) rfl rfl rfl ?_
      refine VTS_pure rfl (P_indexAddrN ez22 rfl rfl hA2 (by omega)) rfl rfl rfl ?_
      refine VTS_read rfl (S_loadOS ag30 rfl (.there (.here)) (by assumption) rfl) rfl rfl rfl ?_
      refine VTS_read rfl (S_loadOS ag30 rfl (.here) (by assumption) rfl) rfl rfl rfl ?_
      refine VTS_pure rfl ((df (P_structNeq (wF ws[i]) (wF ws[i]) fg30 rfl rfl rfl rfl) (fun h => h rfl))) rfl rfl rfl ?_
      refine VTS_nil ?_
      refine QS_then ?_
      refine TS_false rfl ?_
      refine TS_skip ?_
      refine QS_block ?_
      refine QS_then ?_
      refine TS_region ?_
      refine VS_pure (P_add rfl rfl (w64 (by omega) (by omega))) rfl rfl rfl ?_
      refine VS_pure (P_move rfl) rfl rfl rfl ?_
      refine VS_nil ?_
      exact QS_round (i + 1) ⟨rfl, rfl, rfl, rfl, trivial⟩ (Pick.refl _) hlt (by omega)
    · refine TS_seq ?_
      refine TS_region ?_
      refine VS_pure (df (P_lss rfl rfl) (by first | assumption | omega | decide | exact fun hx => hx (by assumption))) rfl rfl rfl ?_
      refine VS_nil ?_
      refine QS_then ?_
      refine TS_seq ?_
      refine TS_false rfl ?_
      refine TS_exit ?_
      refine QS_then_exit ?_
      refine QS_round_exit ?_
      refine QS_block_here ?_
      refine QS_then ?_
      refine TS_seq ?_
      refine TS_region ?_
      refine VS_step (S_callR cl8 rfl (fun m' hm he => (wakes_ok (hT.mono hm))) rfl ?_) rfl
      rintro _ rfl
      refine VS_pure (P_assign rfl) rfl rfl rfl ?_
      refine VS_nil ?_
      refine QS_then ?_
      refine TS_ret ?_
      exact QS_ret [_] ⟨rfl, trivial⟩ [] (Pick.nil _) ⟨rfl, rfl⟩
end Go.Proofs.YtigfdclopkagmaaDoor
