/- A part of the proof: contracts of functions of the program. No condition. -/
import Derived.Test.YtbpihgphicmdiaaWiAd
namespace Go.Proofs.Ytbpihgphicmdiaa
open Go.Eng Wi
set_option maxRecDepth 100000
theorem pAct_eq (b : List UInt8) (a : Nat) : pAct b a = (pSmall b a).bind fun o a0 => (pN pNum 3 b a0).bind fun l a3 => (pMany 8 pNum b a3).bind fun i a4 => (pMany 16 pPair b a4).bind fun q a5 => .ok ⟨o, l.getD 0 0, l.getD 1 0, l.getD 2 0, i, q⟩ a5 := by
  unfold pAct
  congr 1
  funext o a0
  simp only [pN, Res.bind_assoc]
  congr 1
theorem pEvt_eq (b : List UInt8) (a : Nat) : pEvt b a = (pSmall b a).bind fun o a0 => (pN pNum 5 b a0).bind fun l a3 => (pMany 8 pNum b a3).bind fun i a4 => .ok ⟨o, l.getD 0 0, l.getD 1 0, l.getD 2 0, l.getD 3 0, l.getD 4 0, i⟩ a4 := by
  unfold pEvt
  congr 1
  funext o a0
  simp only [pN, Res.bind_assoc]
  congr 1
def actC6 (x : Acn) (Ai : Option Addr) (ci : Nat) (Ap : Option Addr) (cp : Nat) : List Value := [.int .i8 x.op, iV x.side, iV x.place, iV x.target, .slice Ai x.ids.length ci, .slice Ap x.pairs.length cp]
def evtC7 (x : Evt) (Ai : Option Addr) (ci : Nat) : List Value := [.int .i8 x.kind, iV x.side, iV x.card, iV x.id, iV x.other, iV x.n, .slice Ai x.cards.length ci]
theorem repl_succ {α : Type} {k j : Nat} (h : j < k) (z : α) : List.replicate (k - j) z = z :: List.replicate (k - (j + 1)) z := by
  rw [show k - j = (k - (j + 1)) + 1 by omega, List.replicate_succ]
theorem len3 {l : List Int} (h : l.length = 3) : l = [l.getD 0 0, l.getD 1 0, l.getD 2 0] := by
  rcases l with _ | ⟨a, _ | ⟨b, _ | ⟨c, _ | ⟨d, r⟩⟩⟩⟩ <;> first | rfl | (simp at h)
theorem len5 {l : List Int} (h : l.length = 5) : l = [l.getD 0 0, l.getD 1 0, l.getD 2 0, l.getD 3 0, l.getD 4 0] := by
  rcases l with _ | ⟨a, _ | ⟨b, _ | ⟨c, _ | ⟨d, _ | ⟨e, _ | ⟨f, r⟩⟩⟩⟩⟩⟩ <;> first | rfl | (simp at h)
set_option maxHeartbeats 8000000 in
theorem actR {m : Mp} {bc : Nat} {A : Option Addr} {c : Nat} {b : List UInt8} {xa : Addr} {E : List Value → Ent} (hp : PlcN xa E 6) (hr : Rd m A (b.map byteV)) (hb : b.length ≤ 1099511627776) (at_ : Nat) (hat : at_ ≤ b.length) :
    CSP Try.prog 50 [.pointer (some ⟨bc, 0, none⟩), .pointer (some xa)] m [curR bc A c b.length at_, E [.int .i8 0, iV 0, iV 0, iV 0, .slice none 0 0, .slice none 0 0]] (fun v L' => ∃ x a' Ai ci Ap cp, pAct b at_ = .ok x a' ∧ a' ≤ b.length ∧ x.ids.length ≤ 65535 ∧ x.pairs.length ≤ 65535 ∧ v = U0 ∧ L' = [curR bc A c b.length a', E (actC6 x Ai ci Ap cp), own 3 1 Ai x.ids.length ci (x.ids.map iV), own 132 2 Ap x.pairs.length cp (x.pairs.flatMap pairC2)]) (fun v _ => ∃ k, pAct b at_ = .bad k ∧ v = wrongV k) := by
  refine CSP_of [] Try.func50 rfl rfl rfl ?_
  refine TS_seq ?_
  refine TS_region ?_
  refine VS_pure (P_move rfl) rfl rfl rfl ?_
  refine VS_pure (P_move rfl) rfl rfl rfl ?_
  refine VS_pure (P_nilCheck rfl) rfl rfl rfl ?_
  refine VS_pure (P_fieldAddr fo28_0 rfl) rfl rfl rfl ?_
  refine VS_step (S_callP cl63 rfl (.cons .here (.cons .here .nil)) (fun m' hm he => smallR (PlcN.mid hp [] [iV 0, iV 0, iV 0, .slice none 0 0, .slice none 0 0] rfl) (hr.mono hm) hb at_ hat) rfl ?_ ?_) rfl
  · rintro v L' ⟨k, hk, rfl⟩
    refine QS_then_pan ?_
    exact QS_pan [] (Pick.nil _) ⟨k, by rw [pAct_eq, hk]; rfl, rfl⟩
  rintro v L' ⟨o, a0, ho, ha0, rfl, rfl⟩
  dsimp only [List.nil_append]
  refine VS_nil ?_
  refine QS_then ?_
  refine TS_seq ?_
  refine TS_seq ?_
  refine TS_draw (.step 0 .pure (.step 1 .pure (.step 2 .pure (.step 3 .pure (.step 4 .pure (.step 5 .pure (.step 6 .pure (.step 7 .pure (.step 8 .pure (.step 11 .pure (.step 9 .kept (.step 10 .pure (.done))))))))))))) mixed (by kernel_rfl) (fun _ _ _ _ hq => hq) ?_
  refine VTS_pure rfl (P_move rfl) rfl rfl rfl ?_
  refine VTS_pure rfl (P_nilCheck rfl) rfl rfl rfl ?_
  refine VTS_pure rfl (P_fieldAddr fo28_1 rfl) rfl rfl rfl ?_
  refine VTS_pure rfl (P_move rfl) rfl rfl rfl ?_
  refine VTS_pure rfl (P_nilCheck rfl) rfl rfl rfl ?_
  refine VTS_pure rfl (P_fieldAddr fo28_2 rfl) rfl rfl rfl ?_
  refine VTS_pure rfl (P_move rfl) rfl rfl rfl ?_
  refine VTS_pure rfl (P_nilCheck rfl) rfl rfl rfl ?_
  refine VTS_pure rfl (P_fieldAddr fo28_3 rfl) rfl rfl rfl ?_
  refine VTS_pure rfl (P_move rfl) rfl rfl rfl ?_
  refine VTS_kept rfl (S_buildSlice sl141 rfl rfl rfl rfl (fun b1 => ?_)) rfl
  refine VTS_pure rfl (P_len il141 rfl) rfl rfl rfl ?_
  refine VTS_nil ?_
  refine QS_then ?_
  refine TS_block ?_
  have hptr : ∀ j, j < 3 → ([.pointer (some (xa.add 1)), .pointer (some (xa.add 2)), .pointer (some (xa.add 3))] : List Value)[j]? = some (.pointer (some (xa.add (1 + j)))) := by
    intro j hj
    rcases j with _ | _ | _ | j <;> first | rfl | omega
  refine TS_loop4 (β := List Int × Nat) (fun j _ _ _ => [(0, .pointer (some ⟨bc, 0, none⟩)), (1, .pointer (some xa)), (20, .slice (some ⟨b1, 0, none⟩) 3 3), (21, .int .i64 3), (22, .int .i64 (j : Nat))]) (fun j _ _ s => [curR bc A c b.length s.2, E (.int .i8 o :: (s.1.map iV ++ (List.replicate (3 - j) (iV 0) ++ ([.slice none 0 0, .slice none 0 0] : List Value)))), cel b1 [.pointer (some (xa.add 1)), .pointer (some (xa.add 2)), .pointer (some (xa.add 3))] 117]) (fun j s => j ≤ 3 ∧ s.1.length = j ∧ s.2 ≤ b.length ∧ pN pNum j b a0 = .ok s.1 s.2) (fun j => 3 - j) 0 none 0 ([], a0) ⟨rfl, rfl, rfl, rfl, rfl, trivial⟩ (.cons (.there .here) (.cons (.there .here) (.cons .here (.nil _)))) ⟨by omega, rfl, ha0, rfl⟩ ?_
  rintro j _ _ ⟨xs, a2⟩ ⟨hj, hl, ha2, hpn⟩
  dsimp only at hl ha2 hpn ⊢
  by_cases hlt : j < 3
  · have hp1 := hptr j hlt
    have hE : Value.int .i8 o :: (xs.map iV ++ (List.replicate (3 - j) (iV 0) ++ ([.slice none 0 0, .slice none 0 0] : List Value))) = (Value.int .i8 o :: xs.map iV) ++ iV 0 :: (List.replicate (3 - (j + 1)) (iV 0) ++ ([.slice none 0 0, .slice none 0 0] : List Value)) := by rw [repl_succ hlt]; simp
    rw [hE]
    have hpl := PlcN.mid hp (Value.int .i8 o :: xs.map iV) (List.replicate (3 - (j + 1)) (iV 0) ++ ([.slice none 0 0, .slice none 0 0] : List Value)) (by simp; omega)
    rw [show (Value.int .i8 o :: xs.map iV).length = 1 + j by simp; omega] at hpl
    refine TS_seq ?_
    refine TS_region ?_
    refine VS_pure (dt (P_lss rfl rfl) (by omega)) rfl rfl rfl ?_
    refine VS_nil ?_
    refine QS_then ?_
    refine TS_seq ?_
    refine TS_true rfl ?_
    refine TS_skip ?_
    refine QS_then ?_
    refine TS_seq ?_
    refine TS_block ?_
    refine TS_seq ?_
    refine TS_region ?_
    refine VS_pure (P_indexAddr1N ez141 rfl rfl rfl (by omega)) rfl rfl rfl ?_
    refine VS_read (S_loadE sg117 rfl (.there (.there (.here))) hp1) rfl rfl rfl ?_
    refine VS_pure (P_assign rfl) rfl rfl rfl ?_
    refine VS_nil ?_
    refine QS_then ?_
    refine TS_region ?_
    refine VS_pure (P_move rfl) rfl rfl rfl ?_
    refine VS_pure (P_move rfl) rfl rfl rfl ?_
    refine VS_step (S_callP cl47 rfl (.cons .here (.cons .here .nil)) (fun m' hm he => numR hpl (hr.mono hm) hb a2 ha2) rfl ?_ ?_) rfl
    · rintro v L' ⟨k, hk, rfl⟩
      refine QS_block_pan ?_
      refine QS_then_pan ?_
      refine QS_round4_pan ?_
      refine QS_block_pan ?_
      refine QS_then_pan ?_
      exact QS_pan [] (Pick.nil _) ⟨k, by rw [pAct_eq, ho]; show Res.bind (pN pNum 3 b a0) _ = _; rw [pN_stop hlt hpn hk]; rfl, rfl⟩
    rintro v L' ⟨x, a3, hx, ha3, rfl, rfl⟩
    dsimp only
    have hE2 : (Value.int .i8 o :: xs.map iV) ++ iV x :: (List.replicate (3 - (j + 1)) (iV 0) ++ ([.slice none 0 0, .slice none 0 0] : List Value)) = Value.int .i8 o :: ((xs ++ [x]).map iV ++ (List.replicate (3 - (j + 1)) (iV 0) ++ ([.slice none 0 0, .slice none 0 0] : List Value))) := by simp
    rw [hE2]
    refine VS_nil ?_
    refine QS_block ?_
    refine QS_then ?_
    refine TS_region ?_
    refine VS_pure (P_add rfl rfl (w64 (by omega) (by omega))) rfl rfl rfl ?_
    refine VS_pure (P_move rfl) rfl rfl rfl ?_
    refine VS_nil ?_
    exact QS_round4 (Le.refl _) (j + 1) none 0 (xs ++ [x], a3) ⟨rfl, rfl, rfl, rfl, rfl, trivial⟩ (.cons .here (.cons .here (.cons .here (.nil _)))) ⟨by omega, by simp; omega, ha3, pN_go hpn hx⟩ (by omega)
  · have hj' : j = 3 := by omega
    subst hj'
    have hE : Value.int .i8 o :: (xs.map iV ++ (List.replicate (3 - 3) (iV 0) ++ ([.slice none 0 0, .slice none 0 0] : List Value))) = (Value.int .i8 o :: xs.map iV) ++ .slice none 0 0 :: [.slice none 0 0] := by simp
    rw [hE]
    have hpl := PlcN.mid hp (Value.int .i8 o :: xs.map iV) [.slice none 0 0] (by simp; omega)
    rw [show (Value.int .i8 o :: xs.map iV).length = 4 by simp; omega] at hpl
    refine TS_seq ?_
    refine TS_region ?_
    refine VS_pure (df (P_lss rfl rfl) (by omega)) rfl rfl rfl ?_
    refine VS_nil ?_
    refine QS_then ?_
    refine TS_seq ?_
    refine TS_false rfl ?_
    refine TS_exit ?_
    refine QS_then_exit ?_
    refine QS_round4_exit ?_
    refine QS_block_here ?_
    refine QS_then ?_
    refine TS_seq ?_
    refine TS_region ?_
    refine VS_pure (P_move rfl) rfl rfl rfl ?_
    refine VS_pure (P_move rfl) rfl rfl rfl ?_
    refine VS_pure (P_nilCheck rfl) rfl rfl rfl ?_
    refine VS_pure (P_fieldAddr fo28_4 rfl) rfl rfl rfl ?_
    refine VS_pure (P_move rfl) rfl rfl rfl ?_
    refine VS_pure (P_makeFunc rfl rfl) rfl rfl rfl ?_
    refine VS_step (S_callP cl64 rfl (.cons .here (.cons .here .nil)) (fun m' hm he => numsMR hpl (hr.mono hm) hb a2 ha2) rfl ?_ ?_) rfl
    · rintro v L' ⟨k, hk, rfl⟩
      refine QS_then_pan ?_
      exact QS_pan [] (Pick.nil _) ⟨k, by rw [pAct_eq, ho]; show Res.bind (pN pNum 3 b a0) _ = _; rw [hpn]; show Res.bind (pMany 8 pNum b a2) _ = _; rw [hk]; rfl, rfl⟩
    rintro v L' ⟨is, a3, Ai, ci, hi, ha3, hil, rfl, rfl⟩
    dsimp only
    have hE2 : (Value.int .i8 o :: xs.map iV) ++ .slice Ai is.length ci :: [.slice none 0 0] = (Value.int .i8 o :: xs.map iV ++ [.slice Ai is.length ci]) ++ .slice none 0 0 :: [] := by simp
    rw [hE2]
    have hpl := PlcN.mid hp (Value.int .i8 o :: xs.map iV ++ [.slice Ai is.length ci]) [] (by simp; omega)
    rw [show (Value.int .i8 o :: xs.map iV ++ [Value.slice Ai is.length ci]).length = 5 by simp; omega] at hpl
    refine VS_nil ?_
    refine QS_then ?_
    refine TS_region ?_
    refine VS_pure (P_move rfl) rfl rfl rfl ?_
    refine VS_pure (P_move rfl) rfl rfl rfl ?_
    refine VS_pure (P_nilCheck rfl) rfl rfl rfl ?_
    refine VS_pure (P_fieldAddr fo28_5 rfl) rfl rfl rfl ?_
    refine VS_pure (P_move rfl) rfl rfl rfl ?_
    refine VS_pure (P_makeFunc rfl rfl) rfl rfl rfl ?_
    refine VS_step (S_callP cl65 rfl (.cons .here (.cons .here .nil)) (fun m' hm he => pairsMR hpl (hr.mono hm) hb a3 ha3) rfl ?_ ?_) rfl
    · rintro v L' ⟨k, hk, rfl⟩
      skip
      exact QS_pan [] (Pick.nil _) ⟨k, by rw [pAct_eq, ho]; show Res.bind (pN pNum 3 b a0) _ = _; rw [hpn]; show Res.bind (pMany 8 pNum b a2) _ = _; rw [hi]; show Res.bind (pMany 16 pPair b a3) _ = _; rw [hk]; rfl, rfl⟩
    rintro v L' ⟨qs, a4, Ap, cp, hq, ha4, hql, rfl, rfl⟩
    dsimp only
    refine VS_nil ?_
    refine QS_retPN [] trivial [_, _, _, _] (.cons .here (.cons .here (.cons (.there .here) (.cons .here (.nil _))))) ⟨⟨o, xs.getD 0 0, xs.getD 1 0, xs.getD 2 0, is, qs⟩, a4, Ai, ci, Ap, cp, by rw [pAct_eq, ho]; show Res.bind (pN pNum 3 b a0) _ = _; rw [hpn]; show Res.bind (pMany 8 pNum b a2) _ = _; rw [hi]; show Res.bind (pMany 16 pPair b a3) _ = _; rw [hq]; rfl, ha4, hil, hql, rfl, ?_⟩
    have := len3 hl
    simp only [actC6]
    rw [this]
    rfl
set_option maxHeartbeats 8000000 in
theorem evtR {m : Mp} {bc : Nat} {A : Option Addr} {c : Nat} {b : List UInt8} {xa : Addr} {E : List Value → Ent} (hp : PlcN xa E 7) (hr : Rd m A (b.map byteV)) (hb : b.length ≤ 1099511627776) (at_ : Nat) (hat : at_ ≤ b.length) :
    CSP Try.prog 52 [.pointer (some ⟨bc, 0, none⟩), .pointer (some xa)] m [curR bc A c b.length at_, E [.int .i8 0, iV 0, iV 0, iV 0, iV 0, iV 0, .slice none 0 0]] (fun v L' => ∃ x a' Ai ci, pEvt b at_ = .ok x a' ∧ a' ≤ b.length ∧ x.cards.length ≤ 65535 ∧ v = U0 ∧ L' = [curR bc A c b.length a', E (evtC7 x Ai ci), own 3 1 Ai x.cards.length ci (x.cards.map iV)]) (fun v _ => ∃ k, pEvt b at_ = .bad k ∧ v = wrongV k) := by
  refine CSP_of [] Try.func52 rfl rfl rfl ?_
  refine TS_seq ?_
  refine TS_region ?_
  refine VS_pure (P_move rfl) rfl rfl rfl ?_
  refine VS_pure (P_move rfl) rfl rfl rfl ?_
  refine VS_pure (P_nilCheck rfl) rfl rfl rfl ?_
  refine VS_pure (P_fieldAddr fo55_0 rfl) rfl rfl rfl ?_
  refine VS_step (S_callP cl63 rfl (.cons .here (.cons .here .nil)) (fun m' hm he => smallR (PlcN.mid hp [] [iV 0, iV 0, iV 0, iV 0, iV 0, .slice none 0 0] rfl) (hr.mono hm) hb at_ hat) rfl ?_ ?_) rfl
  · rintro v L' ⟨k, hk, rfl⟩
    refine QS_then_pan ?_
    exact QS_pan [] (Pick.nil _) ⟨k, by rw [pEvt_eq, hk]; rfl, rfl⟩
  rintro v L' ⟨o, a0, ho, ha0, rfl, rfl⟩
  dsimp only [List.nil_append]
  refine VS_nil ?_
  refine QS_then ?_
  refine TS_seq ?_
  refine TS_seq ?_
  refine TS_draw (.step 0 .pure (.step 1 .pure (.step 2 .pure (.step 3 .pure (.step 4 .pure (.step 5 .pure (.step 6 .pure (.step 7 .pure (.step 8 .pure (.step 9 .pure (.step 10 .pure (.step 11 .pure (.step 12 .pure (.step 13 .pure (.step 14 .pure (.step 17 .pure (.step 15 .kept (.step 16 .pure (.done))))))))))))))))))) mixed (by kernel_rfl) (fun _ _ _ _ hq => hq) ?_
  refine VTS_pure rfl (P_move rfl) rfl rfl rfl ?_
  refine VTS_pure rfl (P_nilCheck rfl) rfl rfl rfl ?_
  refine VTS_pure rfl (P_fieldAddr fo55_1 rfl) rfl rfl rfl ?_
  refine VTS_pure rfl (P_move rfl) rfl rfl rfl ?_
  refine VTS_pure rfl (P_nilCheck rfl) rfl rfl rfl ?_
  refine VTS_pure rfl (P_fieldAddr fo55_2 rfl) rfl rfl rfl ?_
  refine VTS_pure rfl (P_move rfl) rfl rfl rfl ?_
  refine VTS_pure rfl (P_nilCheck rfl) rfl rfl rfl ?_
  refine VTS_pure rfl (P_fieldAddr fo55_3 rfl) rfl rfl rfl ?_
  refine VTS_pure rfl (P_move rfl) rfl rfl rfl ?_
  refine VTS_pure rfl (P_nilCheck rfl) rfl rfl rfl ?_
  refine VTS_pure rfl (P_fieldAddr fo55_4 rfl) rfl rfl rfl ?_
  refine VTS_pure rfl (P_move rfl) rfl rfl rfl ?_
  refine VTS_pure rfl (P_nilCheck rfl) rfl rfl rfl ?_
  refine VTS_pure rfl (P_fieldAddr fo55_5 rfl) rfl rfl rfl ?_
  refine VTS_pure rfl (P_move rfl) rfl rfl rfl ?_
  refine VTS_kept rfl (S_buildSlice sl141 rfl rfl rfl rfl (fun b1 => ?_)) rfl
  refine VTS_pure rfl (P_len il141 rfl) rfl rfl rfl ?_
  refine VTS_nil ?_
  refine QS_then ?_
  refine TS_block ?_
  have hptr : ∀ j, j < 5 → ([.pointer (some (xa.add 1)), .pointer (some (xa.add 2)), .pointer (some (xa.add 3)), .pointer (some (xa.add 4)), .pointer (some (xa.add 5))] : List Value)[j]? = some (.pointer (some (xa.add (1 + j)))) := by
    intro j hj
    rcases j with _ | _ | _ | _ | _ | j <;> first | rfl | omega
  refine TS_loop4 (β := List Int × Nat) (fun j _ _ _ => [(0, .pointer (some ⟨bc, 0, none⟩)), (1, .pointer (some xa)), (26, .slice (some ⟨b1, 0, none⟩) 5 5), (27, .int .i64 5), (28, .int .i64 (j : Nat))]) (fun j _ _ s => [curR bc A c b.length s.2, E (.int .i8 o :: (s.1.map iV ++ (List.replicate (5 - j) (iV 0) ++ ([.slice none 0 0] : List Value)))), cel b1 [.pointer (some (xa.add 1)), .pointer (some (xa.add 2)), .pointer (some (xa.add 3)), .pointer (some (xa.add 4)), .pointer (some (xa.add 5))] 117]) (fun j s => j ≤ 5 ∧ s.1.length = j ∧ s.2 ≤ b.length ∧ pN pNum j b a0 = .ok s.1 s.2) (fun j => 5 - j) 0 none 0 ([], a0) ⟨rfl, rfl, rfl, rfl, rfl, trivial⟩ (.cons (.there .here) (.cons (.there .here) (.cons .here (.nil _)))) ⟨by omega, rfl, ha0, rfl⟩ ?_
  rintro j _ _ ⟨xs, a2⟩ ⟨hj, hl, ha2, hpn⟩
  dsimp only at hl ha2 hpn ⊢
  by_cases hlt : j < 5
  · have hp1 := hptr j hlt
    have hE : Value.int .i8 o :: (xs.map iV ++ (List.replicate (5 - j) (iV 0) ++ ([.slice none 0 0] : List Value))) = (Value.int .i8 o :: xs.map iV) ++ iV 0 :: (List.replicate (5 - (j + 1)) (iV 0) ++ ([.slice none 0 0] : List Value)) := by rw [repl_succ hlt]; simp
    rw [hE]
    have hpl := PlcN.mid hp (Value.int .i8 o :: xs.map iV) (List.replicate (5 - (j + 1)) (iV 0) ++ ([.slice none 0 0] : List Value)) (by simp; omega)
    rw [show (Value.int .i8 o :: xs.map iV).length = 1 + j by simp; omega] at hpl
    refine TS_seq ?_
    refine TS_region ?_
    refine VS_pure (dt (P_lss rfl rfl) (by omega)) rfl rfl rfl ?_
    refine VS_nil ?_
    refine QS_then ?_
    refine TS_seq ?_
    refine TS_true rfl ?_
    refine TS_skip ?_
    refine QS_then ?_
    refine TS_seq ?_
    refine TS_block ?_
    refine TS_seq ?_
    refine TS_region ?_
    refine VS_pure (P_indexAddr1N ez141 rfl rfl rfl (by omega)) rfl rfl rfl ?_
    refine VS_read (S_loadE sg117 rfl (.there (.there (.here))) hp1) rfl rfl rfl ?_
    refine VS_pure (P_assign rfl) rfl rfl rfl ?_
    refine VS_nil ?_
    refine QS_then ?_
    refine TS_region ?_
    refine VS_pure (P_move rfl) rfl rfl rfl ?_
    refine VS_pure (P_move rfl) rfl rfl rfl ?_
    refine VS_step (S_callP cl47 rfl (.cons .here (.cons .here .nil)) (fun m' hm he => numR hpl (hr.mono hm) hb a2 ha2) rfl ?_ ?_) rfl
    · rintro v L' ⟨k, hk, rfl⟩
      refine QS_block_pan ?_
      refine QS_then_pan ?_
      refine QS_round4_pan ?_
      refine QS_block_pan ?_
      refine QS_then_pan ?_
      exact QS_pan [] (Pick.nil _) ⟨k, by rw [pEvt_eq, ho]; show Res.bind (pN pNum 5 b a0) _ = _; rw [pN_stop hlt hpn hk]; rfl, rfl⟩
    rintro v L' ⟨x, a3, hx, ha3, rfl, rfl⟩
    dsimp only
    have hE2 : (Value.int .i8 o :: xs.map iV) ++ iV x :: (List.replicate (5 - (j + 1)) (iV 0) ++ ([.slice none 0 0] : List Value)) = Value.int .i8 o :: ((xs ++ [x]).map iV ++ (List.replicate (5 - (j + 1)) (iV 0) ++ ([.slice none 0 0] : List Value))) := by simp
    rw [hE2]
    refine VS_nil ?_
    refine QS_block ?_
    refine QS_then ?_
    refine TS_region ?_
    refine VS_pure (P_add rfl rfl (w64 (by omega) (by omega))) rfl rfl rfl ?_
    refine VS_pure (P_move rfl) rfl rfl rfl ?_
    refine VS_nil ?_
    exact QS_round4 (Le.refl _) (j + 1) none 0 (xs ++ [x], a3) ⟨rfl, rfl, rfl, rfl, rfl, trivial⟩ (.cons .here (.cons .here (.cons .here (.nil _)))) ⟨by omega, by simp; omega, ha3, pN_go hpn hx⟩ (by omega)
  · have hj' : j = 5 := by omega
    subst hj'
    have hE : Value.int .i8 o :: (xs.map iV ++ (List.replicate (5 - 5) (iV 0) ++ ([.slice none 0 0] : List Value))) = (Value.int .i8 o :: xs.map iV) ++ .slice none 0 0 :: [] := by simp
    rw [hE]
    have hpl := PlcN.mid hp (Value.int .i8 o :: xs.map iV) [] (by simp; omega)
    rw [show (Value.int .i8 o :: xs.map iV).length = 6 by simp; omega] at hpl
    refine TS_seq ?_
    refine TS_region ?_
    refine VS_pure (df (P_lss rfl rfl) (by omega)) rfl rfl rfl ?_
    refine VS_nil ?_
    refine QS_then ?_
    refine TS_seq ?_
    refine TS_false rfl ?_
    refine TS_exit ?_
    refine QS_then_exit ?_
    refine QS_round4_exit ?_
    refine QS_block_here ?_
    refine QS_then ?_
    refine TS_region ?_
    refine VS_pure (P_move rfl) rfl rfl rfl ?_
    refine VS_pure (P_move rfl) rfl rfl rfl ?_
    refine VS_pure (P_nilCheck rfl) rfl rfl rfl ?_
    refine VS_pure (P_fieldAddr fo55_6 rfl) rfl rfl rfl ?_
    refine VS_pure (P_move rfl) rfl rfl rfl ?_
    refine VS_pure (P_makeFunc rfl rfl) rfl rfl rfl ?_
    refine VS_step (S_callP cl64 rfl (.cons .here (.cons .here .nil)) (fun m' hm he => numsMR hpl (hr.mono hm) hb a2 ha2) rfl ?_ ?_) rfl
    · rintro v L' ⟨k, hk, rfl⟩
      skip
      exact QS_pan [] (Pick.nil _) ⟨k, by rw [pEvt_eq, ho]; show Res.bind (pN pNum 5 b a0) _ = _; rw [hpn]; show Res.bind (pMany 8 pNum b a2) _ = _; rw [hk]; rfl, rfl⟩
    rintro v L' ⟨is, a3, Ai, ci, hi, ha3, hil, rfl, rfl⟩
    dsimp only
    refine VS_nil ?_
    refine QS_retPN [] trivial [_, _, _] (.cons .here (.cons .here (.cons .here (.nil _)))) ⟨⟨o, xs.getD 0 0, xs.getD 1 0, xs.getD 2 0, xs.getD 3 0, xs.getD 4 0, is⟩, a3, Ai, ci, by rw [pEvt_eq, ho]; show Res.bind (pN pNum 5 b a0) _ = _; rw [hpn]; show Res.bind (pMany 8 pNum b a2) _ = _; rw [hi]; rfl, ha3, hil, rfl, ?_⟩
    have := len5 hl
    simp only [evtC7]
    rw [this]
    rfl
end Go.Proofs.Ytbpihgphicmdiaa
