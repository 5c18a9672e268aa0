/- A part of the proof: contracts of functions of the program. No condition. -/
import Derived.Test.YtbpihgphicmdiaaWiAe
namespace Go.Proofs.Ytbpihgphicmdiaa
open Go.Eng Wi
set_option maxRecDepth 100000
theorem HS.pack_snoc {m : Mp} {os r : List Ent} {o : Ent} {h : Heap} (hs : HS m (pack os :: o :: r) h) : HS m (pack (os ++ [o]) :: r) h := by
  have h1 := HS.pack_iff.2 hs
  refine HS.pack_iff.1 ?_
  rw [List.append_assoc]
  exact h1
theorem TS_pack0 {P : Program} {n : Nat} {env : Env} {m : Mp} {L : List Ent} {Q : Post} {c : Code} (ht : TS P n c env m (pack [] :: L) Q) : TS P n c env m L Q := fun h hs => ht h (HS.pack_iff.1 (show HS m ([] ++ L) h from hs))
/-- an event read: the event, and where its cards lie -/
abbrev EvR := Evt × Option Addr × Nat
def evC (s : EvR) : List Value := evtC7 s.1 s.2.1 s.2.2
def evO (s : EvR) : Ent := own 3 1 s.2.1 s.1.cards.length s.2.2 (s.1.cards.map iV)
theorem evs_len (xs : List EvR) : (xs.flatMap evC).length = xs.length * 7 := by
  induction xs with
  | nil => rfl
  | cons x r ih => rw [List.flatMap_cons, List.length_append, ih, List.length_cons]; show 7 + _ = _; omega
set_option maxHeartbeats 8000000 in
theorem evtsMR {m : Mp} {bc : Nat} {A a0 : Option Addr} {c cz : Nat} {b : List UInt8} {la : Addr} {E : Value → Ent} (hp : Plc la E) (hr : Rd m A (b.map byteV)) (hb : b.length ≤ 1099511627776) (at_ : Nat) (hat : at_ ≤ b.length) :
    CSP Try.prog 51 [.pointer (some ⟨bc, 0, none⟩), .pointer (some la), .int .i64 ((43 : Nat) : Int), .func (.func 52) [.pointer (some ⟨bc, 0, none⟩)].toArray [].toArray] m [curR bc A c b.length at_, E (.slice a0 0 cz)]
      (fun v L' => ∃ (xs : List EvR) (a' : Nat) (A2 : Option Addr) (c2 : Nat), pMany 43 pEvt b at_ = .ok (xs.map (·.1)) a' ∧ a' ≤ b.length ∧ xs.length ≤ 65535 ∧ (∀ s ∈ xs, s.1.cards.length ≤ 65535) ∧ v = U0 ∧ L' = [curR bc A c b.length a', E (.slice A2 xs.length c2), own 55 7 A2 xs.length c2 (xs.flatMap evC), pack (xs.map evO)]) (fun v _ => ∃ k, pMany 43 pEvt b at_ = .bad k ∧ v = wrongV k) := by
  refine CSP_of [] Try.func51 rfl rfl rfl ?_
  refine TS_seq ?_
  refine TS_region ?_
  refine VS_pure (P_move rfl) rfl rfl rfl ?_
  refine VS_pure (P_move rfl) rfl rfl rfl ?_
  refine VS_pure (P_nilCheck rfl) rfl rfl rfl ?_
  refine VS_read (S_loadP hp sg30 rfl (.there (.here))) rfl rfl rfl ?_
  refine VS_pure (P_len il30 rfl) rfl rfl rfl ?_
  refine VS_pure (P_move rfl) rfl rfl rfl ?_
  refine VS_step (S_callP cl62 rfl (.cons .here .nil) (fun m' hm he => sizeR (each := 43) (hr.mono hm) hb (by decide) at_ hat) rfl ?_ ?_) rfl
  · rintro v L' ⟨k, hk, rfl⟩
    refine QS_then_pan ?_
    exact QS_pan [] (Pick.nil _) ⟨k, by rw [pMany, hk]; rfl, rfl⟩
  rintro v L' ⟨n, a1, hn, ha1, hn2, hn3, rfl, rfl⟩
  have hpm : pMany 43 pEvt b at_ = pN pEvt n b a1 := by rw [pMany, hn]; rfl
  dsimp only [curR]
  refine VS_pure (P_assign rfl) rfl rfl rfl ?_
  refine VS_nil ?_
  refine QS_then ?_
  refine TS_seq ?_
  refine TS_seq ?_
  refine TS_region ?_
  refine VS_pure (P_move rfl) rfl rfl rfl ?_
  refine VS_pure (P_nilCheck rfl) rfl rfl rfl ?_
  refine VS_pure (P_fieldAddr0 fo86_2 rfl) rfl rfl rfl ?_
  refine VS_read (S_loadB sg4 rfl (.here) rfl) rfl rfl rfl ?_
  refine VS_nil ?_
  refine QS_then ?_
  refine TS_true rfl ?_
  refine TS_region ?_
  refine VS_pure (P_move rfl) rfl rfl rfl ?_
  refine VS_pure (P_nilCheck rfl) rfl rfl rfl ?_
  refine VS_step (S_storeP hp co30 rfl rfl rfl (.there (.here)) ?_) rfl
  refine VS_nil ?_
  refine QS_then ?_
  refine TS_seq ?_
  refine TS_region ?_
  refine VS_pure (P_move rfl) rfl rfl rfl ?_
  refine VS_pure (P_move rfl) rfl rfl rfl ?_
  refine VS_nil ?_
  refine QS_then ?_
  refine TS_block ?_
  refine TS_nilOwn 55 7 (TS_pack0 ?_)
  refine TS_loop4 (β := List EvR × Nat) (fun j A' c' _ => [(0, .pointer (some ⟨bc, 0, none⟩)), (1, .pointer (some la)), (3, .func (.func 52) [.pointer (some ⟨bc, 0, none⟩)].toArray [].toArray), (24, .int .i64 (n : Nat)), (25, .int .i64 (j : Nat))]) (fun j A' c' s => [curR bc A c b.length s.2, E (.slice A' s.1.length c'), own 55 7 A' s.1.length c' (s.1.flatMap evC), pack (s.1.map evO)]) (fun j s => j ≤ n ∧ s.1.length = j ∧ s.2 ≤ b.length ∧ pN pEvt j b a1 = .ok (s.1.map (·.1)) s.2 ∧ ∀ x ∈ s.1, x.1.cards.length ≤ 65535) (fun j => n - j) 0 none 0 ([], a1) ⟨rfl, rfl, rfl, rfl, rfl, trivial⟩ (.cons (.there (.there .here)) (.cons (.there (.there .here)) (.cons (.there .here) (.cons .here (.nil _))))) ⟨Nat.zero_le _, rfl, ha1, rfl, fun _ h => by cases h⟩ ?_
  rintro j A' c' ⟨xs, a2⟩ ⟨hj, hl, ha2, hpn, hcl⟩
  dsimp only at hl ha2 hpn hcl ⊢
  subst hl
  dsimp only [curR]
  by_cases hlt : xs.length < n
  · have hx1 := evs_len xs
    refine TS_seq ?_
    refine TS_region ?_
    refine VS_pure (dt (P_lss rfl rfl) (by omega)) rfl rfl rfl ?_
    refine VS_nil ?_
    refine QS_then ?_
    refine TS_seq ?_
    refine TS_true rfl ?_
    refine TS_skip ?_
    refine QS_then ?_
    refine TS_seq ?_
    refine TS_block ?_
    refine TS_seq ?_
    refine TS_region ?_
    refine VS_pure (P_move rfl) rfl rfl rfl ?_
    refine VS_pure (P_assign rfl) rfl rfl rfl ?_
    refine VS_nil ?_
    refine QS_then ?_
    refine TS_seq ?_
    refine TS_seq ?_
    refine TS_region ?_
    refine VS_pure (P_move rfl) rfl rfl rfl ?_
    refine VS_pure (P_nilCheck rfl) rfl rfl rfl ?_
    refine VS_pure (P_fieldAddr0 fo86_2 rfl) rfl rfl rfl ?_
    refine VS_read (S_loadB sg4 rfl (.here) rfl) rfl rfl rfl ?_
    refine VS_nil ?_
    refine QS_then ?_
    refine TS_true rfl ?_
    refine TS_seq ?_
    refine TS_region ?_
    refine VS_step (S_alloc zl55 rfl (fun b1 => ?_)) rfl
    refine VS_nil ?_
    refine QS_then ?_
    refine TS_draw (.step 0 .pure (.step 1 .pure (.step 2 .pure (.step 3 .read (.step 4 .read (.step 5 .kept (.step 6 .wild (.step 7 .pure (.step 8 .wild (.done)))))))))) mixed (by kernel_rfl) (fun _ _ _ _ hq => hq) ?_
    refine VTS_pure rfl (P_move rfl) rfl rfl rfl ?_
    refine VTS_pure rfl (P_move rfl) rfl rfl rfl ?_
    refine VTS_pure rfl (P_nilCheck rfl) rfl rfl rfl ?_
    refine VTS_read rfl (S_loadP hp sg30 rfl (.there (.there (.here)))) rfl rfl rfl ?_
    refine VTS_read rfl (S_loadBA ag55 rfl (.here) rfl) rfl rfl rfl ?_
    refine VTS_kept rfl (S_buildSlice sl30 rfl rfl rfl rfl (fun b2 => ?_)) rfl
    refine VTS_wild rfl rfl (S_append sl30 rfl rfl rfl rfl (.here) (fun _ _ => (.there (.there (.there (.there (.here)))))) rfl rfl (by first | omega | (simp only [maxLen]; omega)) (by omega) rfl (fun A1 c1 => ?_)) rfl
    refine VTS_pure rfl (P_nilCheck rfl) rfl rfl rfl ?_
    refine VTS_wild rfl rfl (S_storeP hp co30 rfl rfl rfl (.there (.there (.there (.here)))) ?_) rfl
    refine VTS_nil ?_
    refine QS_then ?_
    refine TS_region ?_
    refine VS_pure (P_move rfl) rfl rfl rfl ?_
    refine VS_pure (P_move rfl) rfl rfl rfl ?_
    refine VS_pure (P_nilCheck rfl) rfl rfl rfl ?_
    refine VS_read (S_loadP hp sg30 rfl (.there (.there (.there (.here))))) rfl rfl rfl ?_
    refine VS_pure (P_move rfl) rfl rfl rfl ?_
    refine VS_fact (own_isSome (A := A1) (.there (.there (.there (.there .here)))) (by show 0 < (xs.flatMap evC ++ [.int .i8 0, iV 0, iV 0, iV 0, iV 0, iV 0, .slice none 0 0]).length; simp)) (fun hA1 => ?_)
    refine VS_pure (P_indexAddrN ez30 rfl rfl hA1 (by omega)) rfl rfl rfl ?_
    refine VS_step (S_callPVd (p := [.pointer (some ⟨bc, 0, none⟩)]) (q := []) (vs := [.pointer (some ((sa A1).add (xs.length * 7)))]) cl52 rfl rfl (.cons (.there (.there .here)) (.cons (.there (.there (.there .here))) .nil)) (fun m' hm he => evtR (E := fun w => own 55 7 A1 (xs.length + 1) c1 (xs.flatMap evC ++ w)) (xa := (sa A1).add (xs.length * 7)) (by rw [← hx1]; exact PlcN.last) (hr.mono hm) hb a2 ha2) rfl ?_ ?_) rfl
    · rintro v L' ⟨k, hk, rfl⟩
      refine QS_block_pan ?_
      refine QS_then_pan ?_
      refine QS_round4_pan ?_
      refine QS_block_pan ?_
      refine QS_pan [] (Pick.nil _) ⟨k, ?_, rfl⟩
      have hlt' : (xs.map (·.1)).length < n := by rw [List.length_map]; exact hlt
      rw [hpm, pN_stop hlt hpn hk]
    rintro v L' ⟨x, a3, Ai, ci, hx, ha3, hxc, rfl, rfl⟩
    dsimp only [curR]
    refine VS_nil ?_
    refine QS_block ?_
    refine QS_then ?_
    refine TS_region ?_
    refine VS_pure (P_add rfl rfl (w64 (by omega) (by omega))) rfl rfl rfl ?_
    refine VS_pure (P_move rfl) rfl rfl rfl ?_
    refine VS_nil ?_
    refine QS_round4 (Le.refl _) (xs.length + 1) A1 c1 (xs ++ [(x, Ai, ci)], a3) ⟨rfl, rfl, rfl, rfl, rfl, trivial⟩ ?_ ⟨hlt, by simp, ha3, by rw [List.map_append]; exact pN_go hpn hx, fun s hs => by
      rcases List.mem_append.1 hs with h | h
      · exact hcl s h
      · rw [List.mem_singleton.1 h]; exact hxc⟩ (by omega)
    dsimp only
    rw [List.length_append, List.length_singleton, List.flatMap_append, List.map_append, List.flatMap_cons, List.flatMap_nil, List.append_nil]
    intro m1 h1 hs1
    have hs2 : HS m1 [pack (xs.map evO), evO (x, Ai, ci), cel bc [.slice A b.length c, .int .i64 (a3 : Nat), .bool true] 86, E (.slice A1 (xs.length + 1) c1), own 55 7 A1 (xs.length + 1) c1 (xs.flatMap evC ++ evC (x, Ai, ci))] h1 := (show Pick _ _ from .cons (.there (.there (.there (.there (.there (.there .here)))))) (.cons (.there (.there .here)) (.cons .here (.cons (.there (.there (.there .here))) (.cons .here (.nil _)))))) m1 h1 hs1
    have hs3 := HS.pack_snoc hs2
    exact (show Pick [pack (xs.map evO ++ [evO (x, Ai, ci)]), cel bc [.slice A b.length c, .int .i64 (a3 : Nat), .bool true] 86, E (.slice A1 (xs.length + 1) c1), own 55 7 A1 (xs.length + 1) c1 (xs.flatMap evC ++ evC (x, Ai, ci))] _ from .cons (.there .here) (.cons (.there .here) (.cons (.there .here) (.cons .here (.nil _))))) m1 h1 hs3
  · refine TS_seq ?_
    refine TS_region ?_
    refine VS_pure (df (P_lss rfl rfl) (by omega)) rfl rfl rfl ?_
    refine VS_nil ?_
    refine QS_then ?_
    refine TS_seq ?_
    refine TS_false rfl ?_
    refine TS_exit ?_
    refine QS_then_exit ?_
    refine QS_round4_exit ?_
    refine QS_block_here ?_
    have hj' : xs.length = n := by omega
    rw [hj'] at hpn
    exact QS_retPN [] trivial [_, _, _, _] (Pick.refl _) ⟨xs, a2, A', c', by rw [hpm, hpn], ha2, by omega, hcl, rfl, rfl⟩
end Go.Proofs.Ytbpihgphicmdiaa
