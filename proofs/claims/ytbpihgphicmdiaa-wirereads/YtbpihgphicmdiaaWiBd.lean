/- A part of the proof: contracts of functions of the program. No condition. -/
import Derived.Test.YtbpihgphicmdiaaWiBc
namespace Go.Proofs.Ytbpihgphicmdiaa
open Go.Eng Wi
set_option maxRecDepth 100000
theorem evt_stp {b : List UInt8} {s s1 s2 s3 s4 s5 s6 s7 : St} {o x0 x1 x2 x3 x4 : Int} {is : List Int} (hs : s.fits b) (h1 : Stp pSmall b s o s1) (h2 : Stp pNum b s1 x0 s2) (h3 : Stp pNum b s2 x1 s3) (h4 : Stp pNum b s3 x2 s4) (h5 : Stp pNum b s4 x3 s5) (h6 : Stp pNum b s5 x4 s6) (h7 : Stp (pMany 8 pNum) b s6 is s7) : Stp pEvt b s ⟨o, x0, x1, x2, x3, x4, is⟩ s7 :=
  Stp.bind h1 (Stp.bind h2 (Stp.bind h3 (Stp.bind h4 (Stp.bind h5 (Stp.bind h6 (Stp.bind h7 (Stp.pure (h7.fits (h6.fits (h5.fits (h4.fits (h3.fits (h2.fits (h1.fits hs))))))))))))))
theorem act_stp {b : List UInt8} {s s1 s2 s3 s4 s5 s6 : St} {o x0 x1 x2 : Int} {is : List Int} {ps : List (Int × Int)} (hs : s.fits b) (h1 : Stp pSmall b s o s1) (h2 : Stp pNum b s1 x0 s2) (h3 : Stp pNum b s2 x1 s3) (h4 : Stp pNum b s3 x2 s4) (h5 : Stp (pMany 8 pNum) b s4 is s5) (h6 : Stp (pMany 16 pPair) b s5 ps s6) : Stp pAct b s ⟨o, x0, x1, x2, is, ps⟩ s6 :=
  Stp.bind h1 (Stp.bind h2 (Stp.bind h3 (Stp.bind h4 (Stp.bind h5 (Stp.bind h6 (Stp.pure (h6.fits (h5.fits (h4.fits (h3.fits (h2.fits (h1.fits hs))))))))))))
set_option maxHeartbeats 8000000 in
theorem eventD {m : Mp} {rb : Nat} {A : Option Addr} {c : Nat} {b : List UInt8} (hr : Rd m A (b.map byteV)) (hb : b.length ≤ 1099511627776) (s : St) (hs : s.fits b) :
    CS Try.prog 40 [.pointer (some ⟨rb, 0, none⟩)] m [rdE rb A c b.length s] (fun v L' => ∃ x s' Ai ci, Stp pEvt b s x s' ∧ x.cards.length ≤ 65535 ∧ v = .agg (evtC7 x Ai ci).toArray ∧ L' = [rdE rb A c b.length s', own 3 1 Ai x.cards.length ci (x.cards.map iV)]) := by
  refine CS_of [.cell 2 55] Try.func40 rfl rfl rfl ?_
  refine TS_seq ?_
  refine TS_region ?_
  refine VS_step (S_alloc zl55 rfl (fun b1 => ?_)) rfl
  refine VS_nil ?_
  refine QS_then ?_
  refine TS_seq ?_
  refine TS_region ?_
  refine VS_pure (P_move rfl) rfl rfl rfl ?_
  refine VS_step ((S_callL cl57 rfl (.cons (.there .here) .nil) (fun m' hm he => smallD (hr.mono hm) hb s hs) rfl ?_)) rfl
  rintro _ _ ⟨o, s1, h1, rfl, rfl⟩
  have f1 := h1.fits hs
  dsimp only
  refine VS_pure (P_build zl55 pl55 rfl rfl) rfl rfl rfl ?_
  refine VS_step (S_alloc zl55 rfl (fun b2 => ?_)) rfl
  refine VS_step (S_storeAgg ag55 rfl rfl rfl (.here) rfl rfl ?_) rfl
  refine VS_nil ?_
  refine QS_then ?_
  refine TS_seq ?_
  refine TS_region ?_
  refine VS_pure (P_move rfl) rfl rfl rfl ?_
  refine VS_step ((S_callL cl36 rfl (.cons (.there .here) .nil) (fun m' hm he => numD (hr.mono hm) hb s1 f1) rfl ?_)) rfl
  rintro _ _ ⟨x0, s2, h2, rfl, rfl⟩
  have f2 := h2.fits f1
  refine VS_pure (P_fieldAddr0 fo55_1 rfl) rfl rfl rfl ?_
  refine VS_step (S_store co3 rfl rfl rfl (.there (.here)) (.there (.here)) ?_) rfl
  refine VS_nil ?_
  refine QS_then ?_
  refine TS_seq ?_
  refine TS_region ?_
  refine VS_pure (P_move rfl) rfl rfl rfl ?_
  refine VS_step ((S_callL cl36 rfl (.cons .here .nil) (fun m' hm he => numD (hr.mono hm) hb s2 f2) rfl ?_)) rfl
  rintro _ _ ⟨x1, s3, h3, rfl, rfl⟩
  have f3 := h3.fits f2
  refine VS_pure (P_fieldAddr0 fo55_2 rfl) rfl rfl rfl ?_
  refine VS_step (S_store co3 rfl rfl rfl (.there (.here)) (.there (.there (.here))) ?_) rfl
  refine VS_nil ?_
  refine QS_then ?_
  refine TS_seq ?_
  refine TS_region ?_
  refine VS_pure (P_move rfl) rfl rfl rfl ?_
  refine VS_step ((S_callL cl36 rfl (.cons .here .nil) (fun m' hm he => numD (hr.mono hm) hb s3 f3) rfl ?_)) rfl
  rintro _ _ ⟨x2, s4, h4, rfl, rfl⟩
  have f4 := h4.fits f3
  refine VS_pure (P_fieldAddr0 fo55_3 rfl) rfl rfl rfl ?_
  refine VS_step (S_store co3 rfl rfl rfl (.there (.here)) (.there (.there (.there (.here)))) ?_) rfl
  refine VS_nil ?_
  refine QS_then ?_
  refine TS_seq ?_
  refine TS_region ?_
  refine VS_pure (P_move rfl) rfl rfl rfl ?_
  refine VS_step ((S_callL cl36 rfl (.cons .here .nil) (fun m' hm he => numD (hr.mono hm) hb s4 f4) rfl ?_)) rfl
  rintro _ _ ⟨x3, s5, h5, rfl, rfl⟩
  have f5 := h5.fits f4
  refine VS_pure (P_fieldAddr0 fo55_4 rfl) rfl rfl rfl ?_
  refine VS_step (S_store co3 rfl rfl rfl (.there (.here)) (.there (.there (.there (.there (.here))))) ?_) rfl
  refine VS_nil ?_
  refine QS_then ?_
  refine TS_seq ?_
  refine TS_region ?_
  refine VS_pure (P_move rfl) rfl rfl rfl ?_
  refine VS_step ((S_callL cl36 rfl (.cons .here .nil) (fun m' hm he => numD (hr.mono hm) hb s5 f5) rfl ?_)) rfl
  rintro _ _ ⟨x4, s6, h6, rfl, rfl⟩
  have f6 := h6.fits f5
  refine VS_pure (P_fieldAddr0 fo55_5 rfl) rfl rfl rfl ?_
  refine VS_step (S_store co3 rfl rfl rfl (.there (.here)) (.there (.there (.there (.there (.there (.here)))))) ?_) rfl
  refine VS_nil ?_
  refine QS_then ?_
  refine TS_seq ?_
  refine TS_region ?_
  refine VS_pure (P_move rfl) rfl rfl rfl ?_
  refine VS_step ((S_callL cl58 rfl (.cons .here .nil) (fun m' hm he => numsD (hr.mono hm) hb s6 f6) rfl ?_)) rfl
  rintro _ _ ⟨is, s7, Ai, ci, h7, hil, rfl, rfl⟩
  refine VS_pure (P_fieldAddr0 fo55_6 rfl) rfl rfl rfl ?_
  refine VS_step (S_store co25 rfl rfl rfl (.there (.there (.here))) (.there (.there (.there (.there (.there (.there (.here))))))) ?_) rfl
  refine VS_nil ?_
  refine QS_then ?_
  refine TS_seq ?_
  refine TS_region ?_
  refine VS_read (S_loadBA ag55 rfl (.there (.there (.here))) rfl) rfl rfl rfl ?_
  refine VS_step (S_storeAgg ag55 rfl rfl rfl (.there (.there (.there (.here)))) rfl rfl ?_) rfl
  refine VS_nil ?_
  refine QS_then ?_
  refine TS_ret ?_
  exact QS_ret [_] ⟨⟨_, _, _, _, rfl, .there (.there (.there .here)), .inr ⟨ag55, rfl⟩⟩, trivial⟩ [_, _] (.cons .here (.cons .here (.nil _))) ⟨⟨o, x0, x1, x2, x3, x4, is⟩, s7, Ai, ci, evt_stp hs h1 h2 h3 h4 h5 h6 h7, hil, rfl, rfl⟩
theorem pair_stp {b : List UInt8} {s s1 s2 : St} {x y : Int} (hs : s.fits b) (h1 : Stp pNum b s x s1) (h2 : Stp pNum b s1 y s2) : Stp pPair b s (x, y) s2 :=
  Stp.bind h1 (Stp.bind h2 (Stp.pure (h2.fits (h1.fits hs))))
set_option maxHeartbeats 8000000 in
theorem actionD {m : Mp} {rb : Nat} {A : Option Addr} {c : Nat} {b : List UInt8} (hr : Rd m A (b.map byteV)) (hb : b.length ≤ 1099511627776) (s : St) (hs : s.fits b) :
    CS Try.prog 39 [.pointer (some ⟨rb, 0, none⟩)] m [rdE rb A c b.length s] (fun v L' => ∃ x s' Ai ci Ap cp, Stp pAct b s x s' ∧ x.ids.length ≤ 65535 ∧ x.pairs.length ≤ 65535 ∧ v = .agg (actC6 x Ai ci Ap cp).toArray ∧ L' = [rdE rb A c b.length s', own 3 1 Ai x.ids.length ci (x.ids.map iV), own 132 2 Ap x.pairs.length cp (x.pairs.flatMap pairC2)]) := by
  refine CS_of [.cell 2 28] Try.func39 rfl rfl rfl ?_
  refine TS_seq ?_
  refine TS_region ?_
  refine VS_step (S_alloc zl28 rfl (fun b1 => ?_)) rfl
  refine VS_nil ?_
  refine QS_then ?_
  refine TS_seq ?_
  refine TS_region ?_
  refine VS_pure (P_move rfl) rfl rfl rfl ?_
  refine VS_step ((S_callL cl57 rfl (.cons (.there .here) .nil) (fun m' hm he => smallD (hr.mono hm) hb s hs) rfl ?_)) rfl
  rintro _ _ ⟨o, s1, h1, rfl, rfl⟩
  have f1 := h1.fits hs
  dsimp only
  refine VS_pure (P_build zl28 pl28 rfl rfl) rfl rfl rfl ?_
  refine VS_step (S_alloc zl28 rfl (fun b2 => ?_)) rfl
  refine VS_step (S_storeAgg ag28 rfl rfl rfl (.here) rfl rfl ?_) rfl
  refine VS_nil ?_
  refine QS_then ?_
  refine TS_seq ?_
  refine TS_region ?_
  refine VS_pure (P_move rfl) rfl rfl rfl ?_
  refine VS_step ((S_callL cl36 rfl (.cons (.there .here) .nil) (fun m' hm he => numD (hr.mono hm) hb s1 f1) rfl ?_)) rfl
  rintro _ _ ⟨x0, s2, h2, rfl, rfl⟩
  have f2 := h2.fits f1
  refine VS_pure (P_fieldAddr0 fo28_1 rfl) rfl rfl rfl ?_
  refine VS_step (S_store co3 rfl rfl rfl (.there (.here)) (.there (.here)) ?_) rfl
  refine VS_nil ?_
  refine QS_then ?_
  refine TS_seq ?_
  refine TS_region ?_
  refine VS_pure (P_move rfl) rfl rfl rfl ?_
  refine VS_step ((S_callL cl36 rfl (.cons .here .nil) (fun m' hm he => numD (hr.mono hm) hb s2 f2) rfl ?_)) rfl
  rintro _ _ ⟨x1, s3, h3, rfl, rfl⟩
  have f3 := h3.fits f2
  refine VS_pure (P_fieldAddr0 fo28_2 rfl) rfl rfl rfl ?_
  refine VS_step (S_store co3 rfl rfl rfl (.there (.here)) (.there (.there (.here))) ?_) rfl
  refine VS_nil ?_
  refine QS_then ?_
  refine TS_seq ?_
  refine TS_region ?_
  refine VS_pure (P_move rfl) rfl rfl rfl ?_
  refine VS_step ((S_callL cl36 rfl (.cons .here .nil) (fun m' hm he => numD (hr.mono hm) hb s3 f3) rfl ?_)) rfl
  rintro _ _ ⟨x2, s4, h4, rfl, rfl⟩
  have f4 := h4.fits f3
  refine VS_pure (P_fieldAddr0 fo28_3 rfl) rfl rfl rfl ?_
  refine VS_step (S_store co3 rfl rfl rfl (.there (.here)) (.there (.there (.there (.here)))) ?_) rfl
  refine VS_nil ?_
  refine QS_then ?_
  refine TS_seq ?_
  refine TS_region ?_
  refine VS_pure (P_move rfl) rfl rfl rfl ?_
  refine VS_step ((S_callL cl58 rfl (.cons .here .nil) (fun m' hm he => numsD (hr.mono hm) hb s4 f4) rfl ?_)) rfl
  rintro _ _ ⟨is, s5, Ai, ci, h5, hil, rfl, rfl⟩
  have f5 := h5.fits f4
  refine VS_pure (P_fieldAddr0 fo28_4 rfl) rfl rfl rfl ?_
  refine VS_step (S_store co25 rfl rfl rfl (.there (.there (.here))) (.there (.there (.there (.there (.here))))) ?_) rfl
  refine VS_nil ?_
  refine QS_then ?_
  refine TS_seq ?_
  refine TS_region ?_
  refine VS_pure (P_move rfl) rfl rfl rfl ?_
  refine VS_step ((S_callL cl38 rfl (.cons .here .nil) (fun m' hm he => countD (each := 16) (hr.mono hm) hb (by decide) s5 f5) rfl ?_)) rfl
  rintro _ _ ⟨n, s6, hn, hn0, rfl, rfl⟩
  have f6 := hn.fits f5
  have hn65 : n ≤ 65535 := by
    cases s6 with
    | bad k a => rw [hn0 k a rfl]; omega
    | ok a2 =>
      cases s5 with
      | ok a =>
        rcases hn with ⟨a', h, e, _⟩ | ⟨k, a', h, e, _⟩
        · exact (pSize_le h).1
        · cases e
      | bad k a => cases hn
  refine VS_pure (P_assign rfl) rfl rfl rfl ?_
  refine VS_nil ?_
  refine QS_then ?_
  refine TS_seq ?_
  refine TS_seq ?_
  refine TS_region ?_
  refine VS_pure (P_assign rfl) rfl rfl rfl ?_
  refine VS_nil ?_
  refine QS_then ?_
  refine TS_block ?_
  refine TS_nilOwn 132 2 ?_
  dsimp only
  refine TS_loop4 (β := List (Int × Int) × St) (fun j A' c' t => [(0, .pointer (some ⟨rb, 0, none⟩)), (2, .pointer (some ⟨b1, 0, none⟩)), (3, .pointer (some ⟨b2, 0, none⟩)), (4, .int .i64 (n : Nat)), (5, .int .i64 (j : Nat))]) (fun j A' c' t => [rdE rb A c b.length t.2, own 132 2 A' t.1.length c' (t.1.flatMap pairC2), cel b2 [.int .i8 o, iV x0, iV x1, iV x2, .slice Ai is.length ci, .slice A' t.1.length c'] 28, own 3 1 Ai is.length ci (is.map iV), cel b1 [.int .i8 0, iV 0, iV 0, iV 0, .slice none 0 0, .slice none 0 0] 28]) (fun j t => j ≤ n ∧ t.1.length = j ∧ Stp (pN pPair j) b s6 t.1 t.2) (fun j => n - j) 0 none 0 ([], s6) ⟨rfl, rfl, rfl, rfl, rfl, trivial⟩ ?_ ⟨Nat.zero_le _, rfl, Stp.pure f6⟩ ?_
  · exact .cons (.there .here) (.cons .here (.cons (.there .here) (.cons .here (.cons .here (.nil _)))))
  rintro j A' c' ⟨l, t1⟩ ⟨hj, hl, hst⟩
  dsimp only at hl hst ⊢
  subst hl
  cases t1 with
  | bad k a =>
    unfold rdE
    by_cases hlt : l.length < n
    · refine TS_seq ?_
      refine TS_seq ?_
      refine TS_region ?_
      refine VS_pure (P_move rfl) rfl rfl rfl ?_
      refine VS_pure (P_move rfl) rfl rfl rfl ?_
      refine VS_pure (dt (P_lss rfl rfl) (by omega)) rfl rfl rfl ?_
      refine VS_pure (P_move rfl) rfl rfl rfl ?_
      refine VS_pure (P_move rfl) rfl rfl rfl ?_
      refine VS_pure (P_nilCheck rfl) rfl rfl rfl ?_
      refine VS_pure (P_fieldAddr0 fo103_2 rfl) rfl rfl rfl ?_
      refine VS_read (S_loadB sg3 rfl (.here) rfl) rfl rfl rfl ?_
      refine VS_pure (df (P_lss rfl rfl) (by omega)) rfl rfl rfl ?_
      refine VS_pure (P_pick_t rfl rfl) rfl rfl rfl ?_
      refine VS_nil ?_
      refine QS_then ?_
      refine TS_false rfl ?_
      refine TS_exit ?_
      refine QS_then_exit ?_
      refine QS_round4_exit ?_
      refine QS_block_here ?_
      refine QS_then ?_
      refine TS_seq ?_
      refine TS_region ?_
      refine VS_read (S_loadBA ag28 rfl (.there (.there (.here))) rfl) rfl rfl rfl ?_
      refine VS_step (S_storeAgg ag28 rfl rfl rfl (.there (.there (.there (.there (.here))))) rfl rfl ?_) rfl
      refine VS_nil ?_
      refine QS_then ?_
      refine TS_ret ?_
      exact QS_ret [_] ⟨⟨_, _, _, _, rfl, .there (.there (.there (.there .here))), .inr ⟨ag28, rfl⟩⟩, trivial⟩ [_, _, _] (.cons .here (.cons (.there (.there .here)) (.cons .here (.nil _)))) ⟨⟨o, x0, x1, x2, is, l⟩, .bad k a, Ai, ci, A', c', act_stp hs h1 h2 h3 h4 h5 (Stp.bind (q := fun n => pN pPair n) hn (hst.stop hj)), hil, by dsimp only; omega, rfl, rfl⟩
    · refine TS_seq ?_
      refine TS_seq ?_
      refine TS_region ?_
      refine VS_pure (P_move rfl) rfl rfl rfl ?_
      refine VS_pure (P_move rfl) rfl rfl rfl ?_
      refine VS_pure (df (P_lss rfl rfl) (by omega)) rfl rfl rfl ?_
      refine VS_pure (P_move rfl) rfl rfl rfl ?_
      iterate 5 (refine VS_skip rfl rfl rfl ?_)
      refine VS_pure (P_pick_f rfl rfl) rfl rfl rfl ?_
      refine VS_nil ?_
      refine QS_then ?_
      refine TS_false rfl ?_
      refine TS_exit ?_
      refine QS_then_exit ?_
      refine QS_round4_exit ?_
      refine QS_block_here ?_
      refine QS_then ?_
      refine TS_seq ?_
      refine TS_region ?_
      refine VS_read (S_loadBA ag28 rfl (.there (.there (.here))) rfl) rfl rfl rfl ?_
      refine VS_step (S_storeAgg ag28 rfl rfl rfl (.there (.there (.there (.there (.here))))) rfl rfl ?_) rfl
      refine VS_nil ?_
      refine QS_then ?_
      refine TS_ret ?_
      exact QS_ret [_] ⟨⟨_, _, _, _, rfl, .there (.there (.there (.there .here))), .inr ⟨ag28, rfl⟩⟩, trivial⟩ [_, _, _] (.cons .here (.cons (.there (.there .here)) (.cons .here (.nil _)))) ⟨⟨o, x0, x1, x2, is, l⟩, .bad k a, Ai, ci, A', c', act_stp hs h1 h2 h3 h4 h5 (Stp.bind (q := fun n => pN pPair n) hn (hst.stop hj)), hil, by dsimp only; omega, rfl, rfl⟩
  | ok a =>
    unfold rdE
    by_cases hlt : l.length < n
    · refine TS_seq ?_
      refine TS_seq ?_
      refine TS_region ?_
      refine VS_pure (P_move rfl) rfl rfl rfl ?_
      refine VS_pure (P_move rfl) rfl rfl rfl ?_
      refine VS_pure (dt (P_lss rfl rfl) (by omega)) rfl rfl rfl ?_
      refine VS_pure (P_move rfl) rfl rfl rfl ?_
      refine VS_pure (P_move rfl) rfl rfl rfl ?_
      refine VS_pure (P_nilCheck rfl) rfl rfl rfl ?_
      refine VS_pure (P_fieldAddr0 fo103_2 rfl) rfl rfl rfl ?_
      refine VS_read (S_loadB sg3 rfl (.here) rfl) rfl rfl rfl ?_
      refine VS_pure (dt (P_lss rfl rfl) (by omega)) rfl rfl rfl ?_
      refine VS_pure (P_pick_t rfl rfl) rfl rfl rfl ?_
      refine VS_nil ?_
      refine QS_then ?_
      refine TS_true rfl ?_
      refine TS_skip ?_
      refine QS_then ?_
      refine TS_seq ?_
      refine TS_block ?_
      refine TS_seq ?_
      refine TS_region ?_
      refine VS_pure (P_move rfl) rfl rfl rfl ?_
      refine VS_step ((S_callL cl36 rfl (.cons .here .nil) (fun m' hm he => numD (hr.mono hm) hb (.ok a) (hst.fits f6)) rfl ?_)) rfl
      rintro _ _ ⟨x, t2, hx, rfl, rfl⟩
      have g2 := hx.fits (hst.fits f6)
      refine VS_pure (P_build zl132 pl132 rfl rfl) rfl rfl rfl ?_
      refine VS_step (S_alloc zl132 rfl (fun b3 => ?_)) rfl
      refine VS_step (S_storeAgg ag132 rfl rfl rfl (.here) rfl rfl ?_) rfl
      refine VS_nil ?_
      refine QS_then ?_
      refine TS_seq ?_
      refine TS_region ?_
      refine VS_pure (P_move rfl) rfl rfl rfl ?_
      refine VS_step ((S_callL cl36 rfl (.cons (.there .here) .nil) (fun m' hm he => numD (hr.mono hm) hb t2 g2) rfl ?_)) rfl
      rintro _ _ ⟨y, t3, hy, rfl, rfl⟩
      refine VS_pure (P_fieldAddr0 fo132_1 rfl) rfl rfl rfl ?_
      refine VS_step (S_store co3 rfl rfl rfl (.there (.here)) (.there (.here)) ?_) rfl
      refine VS_nil ?_
      refine QS_then ?_
      refine TS_region ?_
      refine VS_pure (P_fieldAddr0 fo28_5 rfl) rfl rfl rfl ?_
      refine VS_read (S_loadB sg26 rfl (.there (.there (.there (.here)))) rfl) rfl rfl rfl ?_
      refine VS_read (S_loadBA ag132 rfl (.there (.here)) rfl) rfl rfl rfl ?_
      refine VS_step (S_buildSlice sl26 rfl rfl rfl rfl (fun b4 => ?_)) rfl
      refine VS_step (S_append sl26 rfl rfl rfl rfl (.here) (fun _ _ => (.there (.there (.there (.here))))) rfl rfl (by first | omega | (simp only [maxLen]; omega)) (by omega) rfl (fun A1 c1 => ?_)) rfl
      refine VS_pure (P_fieldAddr0 fo28_5 rfl) rfl rfl rfl ?_
      refine VS_step (S_store co26 rfl rfl rfl (.there (.there (.there (.there (.here))))) (.there (.there (.there (.there (.there (.here)))))) ?_) rfl
      refine VS_nil ?_
      refine QS_block ?_
      refine QS_then ?_
      refine TS_region ?_
      refine VS_pure (P_move rfl) rfl rfl rfl ?_
      refine VS_pure (P_add rfl rfl (w64 (by omega) (by omega))) rfl rfl rfl ?_
      refine VS_pure (P_assign rfl) rfl rfl rfl ?_
      refine VS_nil ?_
      refine QS_round4 (Le.refl _) (l.length + 1) A1 c1 (l ++ [(x, y)], t3) ⟨rfl, rfl, rfl, rfl, rfl, trivial⟩ ?_ ⟨hlt, by simp, Stp.snoc hst (pair_stp (hst.fits f6) hx hy) f6⟩ (by omega)
      dsimp only
      rw [List.length_append, List.length_singleton, List.flatMap_append]
      exact .cons (.there .here) (.cons (.there (.there .here)) (.cons (.there (.there .here)) (.cons (.there (.there .here)) (.cons (.there (.there .here)) (.nil _)))))
    · refine TS_seq ?_
      refine TS_seq ?_
      refine TS_region ?_
      refine VS_pure (P_move rfl) rfl rfl rfl ?_
      refine VS_pure (P_move rfl) rfl rfl rfl ?_
      refine VS_pure (df (P_lss rfl rfl) (by omega)) rfl rfl rfl ?_
      refine VS_pure (P_move rfl) rfl rfl rfl ?_
      iterate 5 (refine VS_skip rfl rfl rfl ?_)
      refine VS_pure (P_pick_f rfl rfl) rfl rfl rfl ?_
      refine VS_nil ?_
      refine QS_then ?_
      refine TS_false rfl ?_
      refine TS_exit ?_
      refine QS_then_exit ?_
      refine QS_round4_exit ?_
      refine QS_block_here ?_
      refine QS_then ?_
      refine TS_seq ?_
      refine TS_region ?_
      refine VS_read (S_loadBA ag28 rfl (.there (.there (.here))) rfl) rfl rfl rfl ?_
      refine VS_step (S_storeAgg ag28 rfl rfl rfl (.there (.there (.there (.there (.here))))) rfl rfl ?_) rfl
      refine VS_nil ?_
      refine QS_then ?_
      refine TS_ret ?_
      have e : l.length = n := by omega
      exact QS_ret [_] ⟨⟨_, _, _, _, rfl, .there (.there (.there (.there .here))), .inr ⟨ag28, rfl⟩⟩, trivial⟩ [_, _, _] (.cons .here (.cons (.there (.there .here)) (.cons .here (.nil _)))) ⟨⟨o, x0, x1, x2, is, l⟩, .ok a, Ai, ci, A', c', act_stp hs h1 h2 h3 h4 h5 (Stp.bind (q := fun n => pN pPair n) hn (by rw [← e]; exact hst)), hil, by dsimp only; omega, rfl, rfl⟩
end Go.Proofs.Ytbpihgphicmdiaa
