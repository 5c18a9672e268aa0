/- A part of the proof: contracts of functions of the program. No condition. -/
import Derived.Test.YtbpihgphicmdiaaWiAc
namespace Go.Proofs.Ytbpihgphicmdiaa
open Go.Eng Wi
set_option maxRecDepth 100000
theorem pairs_len (xs : List (Int × Int)) : (xs.flatMap pairC2).length = xs.length * 2 := by
  induction xs with
  | nil => rfl
  | cons x r ih => rw [List.flatMap_cons, List.length_append, ih, List.length_cons]; show 2 + _ = _; omega
theorem pairs_snoc (xs : List (Int × Int)) (x : Int × Int) : (xs ++ [x]).flatMap pairC2 = xs.flatMap pairC2 ++ pairC2 x := by rw [List.flatMap_append]; simp
set_option maxHeartbeats 8000000 in
theorem pairsMR {m : Mp} {bc : Nat} {A a0 : Option Addr} {c cz : Nat} {b : List UInt8} {la : Addr} {E : Value → Ent} (hp : Plc la E) (hr : Rd m A (b.map byteV)) (hb : b.length ≤ 1099511627776) :
    MC 65 bc [.pointer (some ⟨bc, 0, none⟩), .pointer (some la), .int .i64 ((16 : Nat) : Int), .func (.func 66) [.pointer (some ⟨bc, 0, none⟩)].toArray [].toArray] m A c b E (.slice a0 0 cz) (pMany 16 pPair) 132 2 (fun xs => xs.flatMap pairC2) := by
  intro at_ hat
  refine CSP_of [] Try.func65 rfl rfl rfl ?_
  refine TS_seq ?_
  refine TS_region ?_
  refine VS_pure (P_move rfl) rfl rfl rfl ?_
  refine VS_pure (P_move rfl) rfl rfl rfl ?_
  refine VS_pure (P_nilCheck rfl) rfl rfl rfl ?_
  refine VS_read (S_loadP hp sg26 rfl (.there (.here))) rfl rfl rfl ?_
  refine VS_pure (P_len il26 rfl) rfl rfl rfl ?_
  refine VS_pure (P_move rfl) rfl rfl rfl ?_
  refine VS_step (S_callP cl62 rfl (.cons .here .nil) (fun m' hm he => sizeR (each := 16) (hr.mono hm) hb (by decide) at_ hat) rfl ?_ ?_) rfl
  · rintro v L' ⟨k, hk, rfl⟩
    refine QS_then_pan ?_
    exact QS_pan [] (Pick.nil _) ⟨k, by rw [pMany, hk]; rfl, rfl⟩
  rintro v L' ⟨n, a1, hn, ha1, hn2, hn3, rfl, rfl⟩
  have hpm : pMany 16 pPair b at_ = pN pPair n b a1 := by rw [pMany, hn]; rfl
  dsimp only [curR]
  refine VS_pure (P_assign rfl) rfl rfl rfl ?_
  refine VS_nil ?_
  refine QS_then ?_
  refine TS_seq ?_
  refine TS_seq ?_
  refine TS_region ?_
  refine VS_pure (P_move rfl) rfl rfl rfl ?_
  refine VS_pure (P_nilCheck rfl) rfl rfl rfl ?_
  refine VS_pure (P_fieldAddr0 fo86_2 rfl) rfl rfl rfl ?_
  refine VS_read (S_loadB sg4 rfl (.here) rfl) rfl rfl rfl ?_
  refine VS_nil ?_
  refine QS_then ?_
  refine TS_true rfl ?_
  refine TS_region ?_
  refine VS_pure (P_move rfl) rfl rfl rfl ?_
  refine VS_pure (P_nilCheck rfl) rfl rfl rfl ?_
  refine VS_step (S_storeP hp co26 rfl rfl rfl (.there (.here)) ?_) rfl
  refine VS_nil ?_
  refine QS_then ?_
  refine TS_seq ?_
  refine TS_region ?_
  refine VS_pure (P_move rfl) rfl rfl rfl ?_
  refine VS_pure (P_move rfl) rfl rfl rfl ?_
  refine VS_nil ?_
  refine QS_then ?_
  refine TS_block ?_
  refine TS_nilOwn 132 2 ?_
  refine TS_loop4 (β := List (Int × Int) × Nat) (fun j A' c' _ => [(0, .pointer (some ⟨bc, 0, none⟩)), (1, .pointer (some la)), (3, .func (.func 66) [.pointer (some ⟨bc, 0, none⟩)].toArray [].toArray), (24, .int .i64 (n : Nat)), (25, .int .i64 (j : Nat))]) (fun j A' c' s => [curR bc A c b.length s.2, E (.slice A' s.1.length c'), own 132 2 A' s.1.length c' (s.1.flatMap pairC2)]) (fun j s => j ≤ n ∧ s.1.length = j ∧ s.2 ≤ b.length ∧ pN pPair j b a1 = .ok s.1 s.2) (fun j => n - j) 0 none 0 ([], a1) ⟨rfl, rfl, rfl, rfl, rfl, trivial⟩ (.cons (.there .here) (.cons (.there .here) (.cons .here (.nil _)))) ⟨Nat.zero_le _, rfl, ha1, rfl⟩ ?_
  rintro j A' c' ⟨xs, a2⟩ ⟨hj, hl, ha2, hpn⟩
  dsimp only at hl ha2 hpn ⊢
  subst hl
  dsimp only [curR]
  by_cases hlt : xs.length < n
  · have hx1 := pairs_len xs
    refine TS_seq ?_
    refine TS_region ?_
    refine VS_pure (dt (P_lss rfl rfl) (by omega)) rfl rfl rfl ?_
    refine VS_nil ?_
    refine QS_then ?_
    refine TS_seq ?_
    refine TS_true rfl ?_
    refine TS_skip ?_
    refine QS_then ?_
    refine TS_seq ?_
    refine TS_block ?_
    refine TS_seq ?_
    refine TS_region ?_
    refine VS_pure (P_move rfl) rfl rfl rfl ?_
    refine VS_pure (P_assign rfl) rfl rfl rfl ?_
    refine VS_nil ?_
    refine QS_then ?_
    refine TS_seq ?_
    refine TS_seq ?_
    refine TS_region ?_
    refine VS_pure (P_move rfl) rfl rfl rfl ?_
    refine VS_pure (P_nilCheck rfl) rfl rfl rfl ?_
    refine VS_pure (P_fieldAddr0 fo86_2 rfl) rfl rfl rfl ?_
    refine VS_read (S_loadB sg4 rfl (.here) rfl) rfl rfl rfl ?_
    refine VS_nil ?_
    refine QS_then ?_
    refine TS_true rfl ?_
    refine TS_seq ?_
    refine TS_region ?_
    refine VS_step (S_alloc zl132 rfl (fun b1 => ?_)) rfl
    refine VS_nil ?_
    refine QS_then ?_
    refine TS_draw (.step 0 .pure (.step 1 .pure (.step 2 .pure (.step 3 .read (.step 4 .read (.step 5 .kept (.step 6 .wild (.step 7 .pure (.step 8 .wild (.done)))))))))) mixed (by kernel_rfl) (fun _ _ _ _ hq => hq) ?_
    refine VTS_pure rfl (P_move rfl) rfl rfl rfl ?_
    refine VTS_pure rfl (P_move rfl) rfl rfl rfl ?_
    refine VTS_pure rfl (P_nilCheck rfl) rfl rfl rfl ?_
    refine VTS_read rfl (S_loadP hp sg26 rfl (.there (.there (.here)))) rfl rfl rfl ?_
    refine VTS_read rfl (S_loadBA ag132 rfl (.here) rfl) rfl rfl rfl ?_
    refine VTS_kept rfl (S_buildSlice sl26 rfl rfl rfl rfl (fun b2 => ?_)) rfl
    refine VTS_wild rfl rfl (S_append sl26 rfl rfl rfl rfl (.here) (fun _ _ => (.there (.there (.there (.there (.here)))))) rfl rfl (by first | omega | (simp only [maxLen]; omega)) (by omega) rfl (fun A1 c1 => ?_)) rfl
    refine VTS_pure rfl (P_nilCheck rfl) rfl rfl rfl ?_
    refine VTS_wild rfl rfl (S_storeP hp co26 rfl rfl rfl (.there (.there (.there (.here)))) ?_) rfl
    refine VTS_nil ?_
    refine QS_then ?_
    refine TS_region ?_
    refine VS_pure (P_move rfl) rfl rfl rfl ?_
    refine VS_pure (P_move rfl) rfl rfl rfl ?_
    refine VS_pure (P_nilCheck rfl) rfl rfl rfl ?_
    refine VS_read (S_loadP hp sg26 rfl (.there (.there (.there (.here))))) rfl rfl rfl ?_
    refine VS_pure (P_move rfl) rfl rfl rfl ?_
    refine VS_fact (own_isSome (A := A1) (.there (.there (.there (.there .here)))) (by show 0 < (xs.flatMap pairC2 ++ [iV 0, iV 0]).length; simp)) (fun hA1 => ?_)
    refine VS_pure (P_indexAddrN ez26 rfl rfl hA1 (by omega)) rfl rfl rfl ?_
    refine VS_step (S_callPVd (p := [.pointer (some ⟨bc, 0, none⟩)]) (q := []) (vs := [.pointer (some ((sa A1).add (xs.length * 2)))]) cl66 rfl rfl (.cons (.there (.there .here)) (.cons (.there (.there (.there .here))) .nil)) (fun m' hm he => pairR (E := fun w => own 132 2 A1 (xs.length + 1) c1 (xs.flatMap pairC2 ++ w)) (xa := (sa A1).add (xs.length * 2)) (by rw [← hx1]; exact PlcN.last) (hr.mono hm) hb a2 ha2) rfl ?_ ?_) rfl
    · rintro v L' ⟨k, hk, rfl⟩
      refine QS_block_pan ?_
      refine QS_then_pan ?_
      refine QS_round4_pan ?_
      refine QS_block_pan ?_
      exact QS_pan [] (Pick.nil _) ⟨k, by rw [hpm, pN_stop hlt hpn hk], rfl⟩
    rintro v L' ⟨x, a3, hx, ha3, rfl, rfl⟩
    dsimp only [curR]
    refine VS_nil ?_
    refine QS_block ?_
    refine QS_then ?_
    refine TS_region ?_
    refine VS_pure (P_add rfl rfl (w64 (by omega) (by omega))) rfl rfl rfl ?_
    refine VS_pure (P_move rfl) rfl rfl rfl ?_
    refine VS_nil ?_
    refine QS_round4 (Le.refl _) (xs.length + 1) A1 c1 (xs ++ [x], a3) ⟨rfl, rfl, rfl, rfl, rfl, trivial⟩ ?_ ⟨hlt, by simp, ha3, pN_go hpn hx⟩ (by omega)
    dsimp only
    rw [List.length_append, List.length_singleton, pairs_snoc]
    exact .cons .here (.cons (.there (.there (.there .here))) (.cons .here (.nil _)))
  · refine TS_seq ?_
    refine TS_region ?_
    refine VS_pure (df (P_lss rfl rfl) (by omega)) rfl rfl rfl ?_
    refine VS_nil ?_
    refine QS_then ?_
    refine TS_seq ?_
    refine TS_false rfl ?_
    refine TS_exit ?_
    refine QS_then_exit ?_
    refine QS_round4_exit ?_
    refine QS_block_here ?_
    have hj' : xs.length = n := by omega
    rw [hj'] at hpn
    exact QS_retPN [] trivial [_, _, _] (Pick.refl _) ⟨xs, a2, A', c', by rw [hpm, hpn], ha2, by omega, rfl, rfl⟩
end Go.Proofs.Ytbpihgphicmdiaa
