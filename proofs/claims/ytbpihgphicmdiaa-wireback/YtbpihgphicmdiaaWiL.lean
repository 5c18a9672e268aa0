/- A part of the proof: contracts of functions of the program. No condition. -/
import Derived.Test.YtbpihgphicmdiaaWiK
namespace Go.Proofs.Ytbpihgphicmdiaa
open Go.Eng Wi
set_option maxRecDepth 100000
/-! what is written -/
def eByte (b : UInt8) : Option (List UInt8) := some [b]
def eNum (n : Int) : Option (List UInt8) := some (be8 n)
def ePair (p : Int × Int) : Option (List UInt8) := some (be8 p.1 ++ be8 p.2)
def eText (s : List UInt8) : Option (List UInt8) := encMany eByte s
def eAct (x : Acn) : Option (List UInt8) := (wSmall x.op).bind fun e => (encMany eNum x.ids).bind fun i => (encMany ePair x.pairs).map fun p => e ++ ([x.side, x.place, x.target].flatMap be8) ++ i ++ p
def eEvt (x : Evt) : Option (List UInt8) := (wSmall x.kind).bind fun e => (encMany eNum x.cards).map fun i => e ++ ([x.side, x.card, x.id, x.other, x.n].flatMap be8) ++ i
theorem be8_len (n : Int) : (be8 n).length = 8 := rfl
theorem eByte_len : ∀ {b : UInt8} {e : List UInt8}, eByte b = some e → e.length ≤ 1 := fun h => by simp only [eByte, Option.some.injEq] at h; subst h; simp
theorem eNum_len : ∀ {b : Int} {e : List UInt8}, eNum b = some e → e.length ≤ 8 := fun h => by simp only [eNum, Option.some.injEq] at h; subst h; simp [be8_len]
theorem ePair_len : ∀ {b : Int × Int} {e : List UInt8}, ePair b = some e → e.length ≤ 16 := fun h => by simp only [ePair, Option.some.injEq] at h; subst h; simp [be8_len]
theorem eText_len {s e : List UInt8} (h : eText s = some e) : e.length ≤ 65537 := encMany_len (K := 1) (fun _ _ _ h => eByte_len h) h
theorem wSmall_len {op : Int} {e : List UInt8} (h : wSmall op = some e) : e.length = 1 := by
  unfold wSmall at h
  split at h
  · simp only [Option.some.injEq] at h; subst h; rfl
  · cases h
theorem eEvt_len {x : Evt} {e : List UInt8} (h : eEvt x = some e) : e.length ≤ 524323 := by
  unfold eEvt at h
  cases h1 : wSmall x.kind with
  | none => rw [h1] at h; cases h
  | some u =>
    cases h2 : encMany eNum x.cards with
    | none => rw [h1, h2] at h; cases h
    | some w =>
      rw [h1, h2] at h
      simp only [Option.bind_some, Option.map_some, Option.some.injEq] at h
      subst h
      have := wSmall_len h1
      have := encMany_len (K := 8) (fun _ _ _ h => eNum_len h) h2
      simp [be8_len]
      omega
/-! the functions that write -/
theorem bytesM {m : Mp} {bc : Nat} {la : Addr} {v : Value} {xs : List UInt8} {each : Int} (hv : Wc m la v) (hb : BytesE m v xs) : WC 61 bc [.pointer (some ⟨bc, 0, none⟩), .pointer (some la), .int .i64 each, .func (.func 24) [.pointer (some ⟨bc, 0, none⟩)].toArray [].toArray] m 549755748000 (eText xs) := by
  obtain ⟨a, c0, rfl, hA, hm, g⟩ := hb
  exact manyB (enc := eByte) (xs := xs) hv hA (K := 1) (fun _ _ _ h => eByte_len h) (fun i hi m' hl => byteC ((g i hi).mono hl)) (Nat.le_refl _) 549755748000 (by decide) hm
theorem numsC {m : Mp} {bc : Nat} {la : Addr} {v : Value} {xs : List Int} {each : Int} (hv : Wc m la v) (hb : IntsE m v xs) : WC 64 bc [.pointer (some ⟨bc, 0, none⟩), .pointer (some la), .int .i64 each, .func (.func 47) [.pointer (some ⟨bc, 0, none⟩)].toArray [].toArray] m 549750000000 (encMany eNum xs) := by
  obtain ⟨a, c0, rfl, hA, hm, g⟩ := hb
  exact manyI (enc := eNum) (xs := xs) hv hA (K := 8) (fun _ _ _ h => eNum_len h) (fun i hi m' hl => numC ((g i hi).1.mono hl) (g i hi).2) (Nat.le_refl _) 549750000000 (by decide) hm
theorem bytesC {m : Mp} {bc : Nat} {la : Addr} {v : Value} {xs : List UInt8} (hv : Wc m la v) (hb : BytesE m v xs) : WC 46 bc [.pointer (some ⟨bc, 0, none⟩), .pointer (some la)] m 549755748000 (eText xs) := by
  intro A1 c1 out hl
  refine CSP_of [] Try.func46 rfl rfl rfl ?_
  unfold curE
  refine TS_region ?_
  iterate 3 (refine VS_pure (P_move rfl) rfl rfl rfl ?_)
  refine VS_pure (P_makeFunc rfl rfl) rfl rfl rfl ?_
  refine VS_step (S_callP cl61 rfl (.cons .here (.cons .here .nil)) (fun m' hm he => (bytesM (hv.mono hm) (hb.mono hm)) A1 c1 (out) (by first | omega | (simp; omega))) rfl ?_ ?_) rfl
  · rintro v L' ⟨hn1, at_, rfl⟩
    skip
    exact QS_pan [] (Pick.nil _) ⟨hn1, at_, rfl⟩
  rintro v L' ⟨e1, hs1, rfl, A2, c2, rfl⟩
  unfold curE
  refine VS_nil ?_
  exact QS_retPN [] trivial (curE bc A2 c2 (out ++ e1)) (Pick.refl _) ⟨e1, hs1, rfl, _, _, rfl⟩
set_option maxHeartbeats 4000000 in
theorem textC {m : Mp} {bc : Nat} {la : Addr} {s : List UInt8} (hv : Wc m la (sV s)) (hm : s.length ≤ 140737488355328) : WC 48 bc [.pointer (some ⟨bc, 0, none⟩), .pointer (some la)] m 549755748000 (eText s) := by
  intro A1 c1 out hl
  refine CSP_of [] Try.func48 rfl rfl rfl ?_
  unfold curE
  refine TS_seq ?_
  refine TS_region ?_
  refine VS_pure (P_move rfl) rfl rfl rfl ?_
  refine VS_pure (P_nilCheck rfl) rfl rfl rfl ?_
  refine VS_read (S_loadW sg9 rfl hv) rfl rfl rfl ?_
  refine VS_step (S_sbytes st9 bt22 rfl rfl (fun e b1 k1 => ?_)) rfl
  refine VS_step (S_alloc zl22 rfl (fun b2 => ?_)) rfl
  refine VS_step (S_store co22 rfl rfl rfl (.here) (.here) ?_) rfl
  refine VS_nil ?_
  refine QS_then ?_
  refine TS_seq ?_
  refine TS_region ?_
  refine VS_pure (P_move rfl) rfl rfl rfl ?_
  have hh : ∀ m', HE [cel b2 [.slice (some ⟨b1, 0, none⟩) s.length k1] 22, bstr b1 s k1 e] m' → BytesE m' (.slice (some ⟨b1, 0, none⟩) s.length k1) s ∧ Wc m' ⟨b2, 0, none⟩ (.slice (some ⟨b1, 0, none⟩) s.length k1) := fun m' he =>
    ⟨⟨_, _, rfl, fun _ => rfl, hm, fun i hi => Wc.bstr (HE0 (HE1 he)) hi⟩, Wc.he he rfl⟩
  refine VS_step (S_callP cl46 rfl (.cons (.there (.there .here)) (.cons (.there (.there .here)) .nil)) (fun m' hm he => (bytesC (hh m' he).2 (hh m' he).1) A1 c1 (out) (by first | omega | (simp; omega))) rfl ?_ ?_) rfl
  · rintro v L' ⟨hn1, at_, rfl⟩
    refine QS_then_pan ?_
    exact QS_pan [] (Pick.nil _) ⟨hn1, at_, rfl⟩
  rintro v L' ⟨e1, hs1, rfl, A2, c2, rfl⟩
  unfold curE
  refine VS_nil ?_
  refine QS_then ?_
  refine TS_region ?_
  refine VS_pure (P_move rfl) rfl rfl rfl ?_
  refine VS_read (S_loadB sg22 rfl (.there (.there (.here))) rfl) rfl rfl rfl ?_
  have hr : ∀ h, HS m [cel bc [.slice A2 (out ++ e1).length c2, .int .i64 0, .bool false] 86, own 5 1 A2 (out ++ e1).length c2 ((out ++ e1).map byteV), cel b2 [.slice (some ⟨b1, 0, none⟩) s.length k1] 22, bstr b1 s k1 e] h → Rd (mp h) (some ⟨b1, 0, none⟩) (s.map byteV) := fun h hs i u hi => by
    rw [List.getElem?_map] at hi
    cases hsi : s[i]? with
    | none => rw [hsi] at hi; cases hi
    | some w =>
      rw [hsi] at hi
      simp only [Option.map_some, Option.some.injEq] at hi
      subst hi
      obtain ⟨hlt, rfl⟩ := List.getElem?_eq_some_iff.1 hsi
      exact ⟨rfl, (Wc.bstr (hs.get (.there (.there (.there .here)))) hlt).1⟩
  refine VS_read (fun h hs => R_bstr bt22 st9 rfl rfl (hr h hs)) rfl rfl rfl ?_
  refine VS_pure (P_nilCheck rfl) rfl rfl rfl ?_
  refine VS_step (S_storeSame co9 rfl rfl rfl hv ?_) rfl
  refine VS_nil ?_
  exact QS_retPN [] trivial (curE bc A2 c2 (out ++ e1)) (.cons .here (.cons .here (.nil _))) ⟨e1, hs1, rfl, _, _, rfl⟩
set_option maxHeartbeats 4000000 in
theorem pairC {m : Mp} {bc : Nat} {xa : Addr} {p : Int × Int} (h1 : Wc m (xa.add 0) (iV p.1)) (h2 : Wc m (xa.add 1) (iV p.2)) (r1 : I64 p.1) (r2 : I64 p.2) : WC 66 bc [.pointer (some ⟨bc, 0, none⟩), .pointer (some xa)] m 549755813000 (ePair p) := by
  intro A1 c1 out hl
  refine CSP_of [] Try.func66 rfl rfl rfl ?_
  unfold curE
  refine TS_seq ?_
  refine TS_region ?_
  refine VS_pure (P_move rfl) rfl rfl rfl ?_
  refine VS_pure (P_move rfl) rfl rfl rfl ?_
  refine VS_pure (P_nilCheck rfl) rfl rfl rfl ?_
  refine VS_pure (P_fieldAddr fo132_0 rfl) rfl rfl rfl ?_
  refine VS_step (S_callP cl47 rfl (.cons .here (.cons .here .nil)) (fun m' hm he => (numC (h1.mono hm) r1) A1 c1 (out) (by first | omega | (simp; omega))) rfl ?_ ?_) rfl
  · rintro v L' ⟨hn1, at_, rfl⟩
    refine QS_then_pan ?_
    exact QS_pan [] (Pick.nil _) ⟨(by cases hn1), at_, rfl⟩
  rintro v L' ⟨e1, hs1, rfl, A2, c2, rfl⟩
  unfold curE
  refine VS_nil ?_
  refine QS_then ?_
  refine TS_region ?_
  refine VS_pure (P_move rfl) rfl rfl rfl ?_
  refine VS_pure (P_move rfl) rfl rfl rfl ?_
  refine VS_pure (P_nilCheck rfl) rfl rfl rfl ?_
  refine VS_pure (P_fieldAddr fo132_1 rfl) rfl rfl rfl ?_
  cases hs1
  refine VS_step (S_callP cl47 rfl (.cons .here (.cons .here .nil)) (fun m' hm he => (numC (h2.mono hm) r2) A2 c2 (out ++ be8 p.1) (by first | omega | (simp [be8_len]; omega))) rfl ?_ ?_) rfl
  · rintro v L' ⟨hn2, at_, rfl⟩
    skip
    exact QS_pan [] (Pick.nil _) ⟨(by cases hn2), at_, rfl⟩
  rintro v L' ⟨e2, hs2, rfl, A3, c3, rfl⟩
  unfold curE
  refine VS_nil ?_
  cases hs2
  exact QS_retPN [] trivial (curE bc A3 c3 (out ++ (be8 p.1 ++ be8 p.2))) (by rw [← List.append_assoc]; exact Pick.refl _) ⟨_, rfl, rfl, _, _, rfl⟩
theorem pairsC {m : Mp} {bc : Nat} {la : Addr} {v : Value} {xs : List (Int × Int)} {each : Int} (hv : Wc m la v) (hb : PairsE m v xs) : WC 65 bc [.pointer (some ⟨bc, 0, none⟩), .pointer (some la), .int .i64 each, .func (.func 66) [.pointer (some ⟨bc, 0, none⟩)].toArray [].toArray] m 549750000000 (encMany ePair xs) := by
  obtain ⟨a, c0, rfl, hA, hm, g⟩ := hb
  exact manyP (enc := ePair) (xs := xs) hv hA (K := 16) (fun _ _ _ h => ePair_len h) (fun i hi m' hl => pairC ((g i hi).1.mono hl) ((g i hi).2.1.mono hl) (g i hi).2.2.1 (g i hi).2.2.2) (by decide) 549750000000 (by decide) hm
theorem textsC {m : Mp} {bc : Nat} {la : Addr} {v : Value} {xs : List (List UInt8)} {each : Int} (hv : Wc m la v) (hb : StrsE m v xs) (hl : ∀ s ∈ xs, s.length ≤ 140737488355328) : WC 49 bc [.pointer (some ⟨bc, 0, none⟩), .pointer (some la), .int .i64 each, .func (.func 48) [.pointer (some ⟨bc, 0, none⟩)].toArray [].toArray] m 500000000000 (encMany eText xs) := by
  obtain ⟨a, c0, rfl, hA, hm, g⟩ := hb
  exact manyS (enc := eText) (xs := xs) hv hA (K := 65537) (fun _ _ _ h => eText_len h) (fun i hi m' hm' => textC ((g i hi).mono hm') (hl _ (List.getElem_mem hi))) (by decide) 500000000000 (by decide) hm
set_option maxHeartbeats 8000000 in
theorem actC {m : Mp} {bc : Nat} {xa : Addr} {x : Acn} (hx : ActE m xa x) : WC 50 bc [.pointer (some ⟨bc, 0, none⟩), .pointer (some xa)] m 549700000000 (eAct x) := by
  obtain ⟨vi, vp, w0, w1, w2, w3, w4, w5, hi, hp, r0, r1, r2, r3⟩ := hx
  intro A1 c1 out hl
  refine CSP_of [] Try.func50 rfl rfl rfl ?_
  unfold curE
  refine TS_seq ?_
  refine TS_region ?_
  refine VS_pure (P_move rfl) rfl rfl rfl ?_
  refine VS_pure (P_move rfl) rfl rfl rfl ?_
  refine VS_pure (P_nilCheck rfl) rfl rfl rfl ?_
  refine VS_pure (P_fieldAddr fo28_0 rfl) rfl rfl rfl ?_
  refine VS_step (S_callP cl63 rfl (.cons .here (.cons .here .nil)) (fun m' hm he => (smallC (w0.mono hm) r0) A1 c1 (out) (by first | omega | (simp; omega))) rfl ?_ ?_) rfl
  · rintro v L' ⟨hn1, at_, rfl⟩
    refine QS_then_pan ?_
    exact QS_pan [] (Pick.nil _) ⟨(by rw [eAct, hn1]; rfl), at_, rfl⟩
  rintro v L' ⟨e1, hs1, rfl, A2, c2, rfl⟩
  unfold curE
  refine VS_nil ?_
  refine QS_then ?_
  refine TS_seq ?_
  refine TS_seq ?_
  refine TS_draw (.step 0 .pure (.step 1 .pure (.step 2 .pure (.step 3 .pure (.step 4 .pure (.step 5 .pure (.step 6 .pure (.step 7 .pure (.step 8 .pure (.step 11 .pure (.step 9 .kept (.step 10 .pure (.done))))))))))))) mixed (by kernel_rfl) (fun _ _ _ _ hq => hq) ?_
  refine VTS_pure rfl (P_move rfl) rfl rfl rfl ?_
  refine VTS_pure rfl (P_nilCheck rfl) rfl rfl rfl ?_
  refine VTS_pure rfl (P_fieldAddr fo28_1 rfl) rfl rfl rfl ?_
  refine VTS_pure rfl (P_move rfl) rfl rfl rfl ?_
  refine VTS_pure rfl (P_nilCheck rfl) rfl rfl rfl ?_
  refine VTS_pure rfl (P_fieldAddr fo28_2 rfl) rfl rfl rfl ?_
  refine VTS_pure rfl (P_move rfl) rfl rfl rfl ?_
  refine VTS_pure rfl (P_nilCheck rfl) rfl rfl rfl ?_
  refine VTS_pure rfl (P_fieldAddr fo28_3 rfl) rfl rfl rfl ?_
  refine VTS_pure rfl (P_move rfl) rfl rfl rfl ?_
  refine VTS_kept rfl (S_buildSlice sl141 rfl rfl rfl rfl (fun b1 => ?_)) rfl
  refine VTS_pure rfl (P_len il141 rfl) rfl rfl rfl ?_
  refine VTS_nil ?_
  refine QS_then ?_
  refine TS_block ?_
  have hl1 := wSmall_len hs1
  have hget : ∀ j, j < 3 → ∃ n, [x.side, x.place, x.target][j]? = some n ∧ Wc m (xa.add (1 + j)) (iV n) ∧ I64 n := by
    intro j hj
    rcases j with _ | _ | _ | j
    · exact ⟨_, rfl, w1, r1⟩
    · exact ⟨_, rfl, w2, r2⟩
    · exact ⟨_, rfl, w3, r3⟩
    · omega
  have hptr : ∀ j, j < 3 → ([.pointer (some (xa.add 1)), .pointer (some (xa.add 2)), .pointer (some (xa.add 3))] : List Value)[j]? = some (.pointer (some (xa.add (1 + j)))) := by
    intro j hj
    rcases j with _ | _ | _ | j <;> first | rfl | omega
  refine TS_loop3 (fun j _ _ => [(0, .pointer (some ⟨bc, 0, none⟩)), (1, .pointer (some xa)), (20, .slice (some ⟨b1, 0, none⟩) 3 3), (21, .int .i64 3), (22, .int .i64 (j : Nat))]) (fun j A c => curE bc A c (out ++ e1 ++ ([x.side, x.place, x.target].take j).flatMap be8) ++ [cel b1 [.pointer (some (xa.add 1)), .pointer (some (xa.add 2)), .pointer (some (xa.add 3))] 117]) (fun j => j ≤ 3) (fun j => 3 - j) 0 A2 c2 ⟨rfl, rfl, rfl, rfl, rfl, trivial⟩ (by simp only [List.take_zero, List.flatMap_nil, List.append_nil]; exact .cons (.there .here) (.cons (.there .here) (.cons .here (.nil _)))) (by omega) ?_
  intro j A3 c3 hj
  unfold curE
  by_cases hlt : j < 3
  · obtain ⟨n, hn, hw, hr⟩ := hget j hlt
    have hp1 := hptr j hlt
    have hbl : (([x.side, x.place, x.target].take j).flatMap be8).length ≤ 24 := by
      have : j = 0 ∨ j = 1 ∨ j = 2 := by omega
      rcases this with rfl | rfl | rfl <;> simp [be8_len]
    refine TS_seq ?_
    refine TS_region ?_
    refine VS_pure (dt (P_lss rfl rfl) (by omega)) rfl rfl rfl ?_
    refine VS_nil ?_
    refine QS_then ?_
    refine TS_seq ?_
    refine TS_true rfl ?_
    refine TS_skip ?_
    refine QS_then ?_
    refine TS_seq ?_
    refine TS_block ?_
    refine TS_seq ?_
    refine TS_region ?_
    refine VS_pure (P_indexAddr1N ez141 rfl rfl rfl (by omega)) rfl rfl rfl ?_
    refine VS_read (S_loadE sg117 rfl (.there (.there (.here))) hp1) rfl rfl rfl ?_
    refine VS_pure (P_assign rfl) rfl rfl rfl ?_
    refine VS_nil ?_
    refine QS_then ?_
    refine TS_region ?_
    refine VS_pure (P_move rfl) rfl rfl rfl ?_
    refine VS_pure (P_move rfl) rfl rfl rfl ?_
    refine VS_step (S_callP cl47 rfl (.cons .here (.cons .here .nil)) (fun m' hm he => (numC (hw.mono hm) hr) A3 c3 (out ++ e1 ++ ([x.side, x.place, x.target].take j).flatMap be8) (by simp only [List.length_append]; omega)) rfl ?_ ?_) rfl
    · rintro v L' ⟨hn1, _⟩
      cases hn1
    rintro v L' ⟨e, hs2, rfl, A4, c4, rfl⟩
    cases hs2
    unfold curE
    refine VS_nil ?_
    refine QS_block ?_
    refine QS_then ?_
    refine TS_region ?_
    refine VS_pure (P_add rfl rfl (w64 (by omega) (by omega))) rfl rfl rfl ?_
    refine VS_pure (P_move rfl) rfl rfl rfl ?_
    refine VS_nil ?_
    refine QS_round3 (j + 1) A4 c4 ⟨rfl, rfl, rfl, rfl, rfl, trivial⟩ ?_ (by omega) (by omega)
    have e : ([x.side, x.place, x.target].take (j + 1)).flatMap be8 = ([x.side, x.place, x.target].take j).flatMap be8 ++ be8 n := by rw [List.take_add_one, hn, Option.toList_some, List.flatMap_append]; simp
    rw [e, ← List.append_assoc]
    exact .cons .here (.cons .here (.cons .here (.nil _)))
  · have hj' : j = 3 := by omega
    subst hj'
    rw [show [x.side, x.place, x.target].take 3 = [x.side, x.place, x.target] from rfl]
    have hfl : ([x.side, x.place, x.target].flatMap be8).length = 24 := by simp [be8_len]
    refine TS_seq ?_
    refine TS_region ?_
    refine VS_pure (df (P_lss rfl rfl) (by omega)) rfl rfl rfl ?_
    refine VS_nil ?_
    refine QS_then ?_
    refine TS_seq ?_
    refine TS_false rfl ?_
    refine TS_exit ?_
    refine QS_then_exit ?_
    refine QS_round3_exit ?_
    refine QS_block_here ?_
    refine QS_then ?_
    refine TS_seq ?_
    refine TS_region ?_
    refine VS_pure (P_move rfl) rfl rfl rfl ?_
    refine VS_pure (P_move rfl) rfl rfl rfl ?_
    refine VS_pure (P_nilCheck rfl) rfl rfl rfl ?_
    refine VS_pure (P_fieldAddr fo28_4 rfl) rfl rfl rfl ?_
    refine VS_pure (P_move rfl) rfl rfl rfl ?_
    refine VS_pure (P_makeFunc rfl rfl) rfl rfl rfl ?_
    refine VS_step (S_callP cl64 rfl (.cons .here (.cons .here .nil)) (fun m' hm he => (numsC (w4.mono hm) (hi.mono hm)) A3 c3 (out ++ e1 ++ [x.side, x.place, x.target].flatMap be8) (by first | omega | (simp only [List.length_append]; omega))) rfl ?_ ?_) rfl
    · rintro v L' ⟨hn3, at_, rfl⟩
      refine QS_then_pan ?_
      exact QS_pan [] (Pick.nil _) ⟨(by rw [eAct, hs1, Option.bind_some, hn3]; rfl), at_, rfl⟩
    rintro v L' ⟨e3, hs3, rfl, A4, c4, rfl⟩
    unfold curE
    refine VS_nil ?_
    refine QS_then ?_
    refine TS_region ?_
    refine VS_pure (P_move rfl) rfl rfl rfl ?_
    refine VS_pure (P_move rfl) rfl rfl rfl ?_
    refine VS_pure (P_nilCheck rfl) rfl rfl rfl ?_
    refine VS_pure (P_fieldAddr fo28_5 rfl) rfl rfl rfl ?_
    refine VS_pure (P_move rfl) rfl rfl rfl ?_
    refine VS_pure (P_makeFunc rfl rfl) rfl rfl rfl ?_
    have hl3 := encMany_len (K := 8) (fun _ _ _ h => eNum_len h) hs3
    refine VS_step (S_callP cl65 rfl (.cons .here (.cons .here .nil)) (fun m' hm he => (pairsC (w5.mono hm) (hp.mono hm)) A4 c4 (out ++ e1 ++ [x.side, x.place, x.target].flatMap be8 ++ e3) (by first | omega | (simp only [List.length_append]; omega))) rfl ?_ ?_) rfl
    · rintro v L' ⟨hn4, at_, rfl⟩
      skip
      exact QS_pan [] (Pick.nil _) ⟨(by rw [eAct, hs1, Option.bind_some, hs3, Option.bind_some, hn4]; rfl), at_, rfl⟩
    rintro v L' ⟨e4, hs4, rfl, A5, c5, rfl⟩
    unfold curE
    refine VS_nil ?_
    exact QS_retPN [] trivial (curE bc A5 c5 (out ++ (e1 ++ [x.side, x.place, x.target].flatMap be8 ++ e3 ++ e4))) (by rw [← List.append_assoc, ← List.append_assoc, ← List.append_assoc]; exact .cons .here (.cons .here (.nil _))) ⟨_, by rw [eAct, hs1, Option.bind_some, hs3, Option.bind_some, hs4]; rfl, rfl, _, _, rfl⟩
set_option maxHeartbeats 8000000 in
theorem evtC {m : Mp} {bc : Nat} {xa : Addr} {x : Evt} (hx : EvtE m xa x) : WC 52 bc [.pointer (some ⟨bc, 0, none⟩), .pointer (some xa)] m 549700000000 (eEvt x) := by
  obtain ⟨vi, w0, w1, w2, w3, w4, w5, w6, hi, r0, r1, r2, r3, r4, r5⟩ := hx
  intro A1 c1 out hl
  refine CSP_of [] Try.func52 rfl rfl rfl ?_
  unfold curE
  refine TS_seq ?_
  refine TS_region ?_
  refine VS_pure (P_move rfl) rfl rfl rfl ?_
  refine VS_pure (P_move rfl) rfl rfl rfl ?_
  refine VS_pure (P_nilCheck rfl) rfl rfl rfl ?_
  refine VS_pure (P_fieldAddr fo55_0 rfl) rfl rfl rfl ?_
  refine VS_step (S_callP cl63 rfl (.cons .here (.cons .here .nil)) (fun m' hm he => (smallC (w0.mono hm) r0) A1 c1 (out) (by first | omega | (simp; omega))) rfl ?_ ?_) rfl
  · rintro v L' ⟨hn1, at_, rfl⟩
    refine QS_then_pan ?_
    exact QS_pan [] (Pick.nil _) ⟨(by rw [eEvt, hn1]; rfl), at_, rfl⟩
  rintro v L' ⟨e1, hs1, rfl, A2, c2, rfl⟩
  unfold curE
  refine VS_nil ?_
  refine QS_then ?_
  refine TS_seq ?_
  refine TS_seq ?_
  refine TS_draw (.step 0 .pure (.step 1 .pure (.step 2 .pure (.step 3 .pure (.step 4 .pure (.step 5 .pure (.step 6 .pure (.step 7 .pure (.step 8 .pure (.step 9 .pure (.step 10 .pure (.step 11 .pure (.step 12 .pure (.step 13 .pure (.step 14 .pure (.step 17 .pure (.step 15 .kept (.step 16 .pure (.done))))))))))))))))))) mixed (by kernel_rfl) (fun _ _ _ _ hq => hq) ?_
  refine VTS_pure rfl (P_move rfl) rfl rfl rfl ?_
  refine VTS_pure rfl (P_nilCheck rfl) rfl rfl rfl ?_
  refine VTS_pure rfl (P_fieldAddr fo55_1 rfl) rfl rfl rfl ?_
  refine VTS_pure rfl (P_move rfl) rfl rfl rfl ?_
  refine VTS_pure rfl (P_nilCheck rfl) rfl rfl rfl ?_
  refine VTS_pure rfl (P_fieldAddr fo55_2 rfl) rfl rfl rfl ?_
  refine VTS_pure rfl (P_move rfl) rfl rfl rfl ?_
  refine VTS_pure rfl (P_nilCheck rfl) rfl rfl rfl ?_
  refine VTS_pure rfl (P_fieldAddr fo55_3 rfl) rfl rfl rfl ?_
  refine VTS_pure rfl (P_move rfl) rfl rfl rfl ?_
  refine VTS_pure rfl (P_nilCheck rfl) rfl rfl rfl ?_
  refine VTS_pure rfl (P_fieldAddr fo55_4 rfl) rfl rfl rfl ?_
  refine VTS_pure rfl (P_move rfl) rfl rfl rfl ?_
  refine VTS_pure rfl (P_nilCheck rfl) rfl rfl rfl ?_
  refine VTS_pure rfl (P_fieldAddr fo55_5 rfl) rfl rfl rfl ?_
  refine VTS_pure rfl (P_move rfl) rfl rfl rfl ?_
  refine VTS_kept rfl (S_buildSlice sl141 rfl rfl rfl rfl (fun b1 => ?_)) rfl
  refine VTS_pure rfl (P_len il141 rfl) rfl rfl rfl ?_
  refine VTS_nil ?_
  refine QS_then ?_
  refine TS_block ?_
  have hl1 := wSmall_len hs1
  have hget : ∀ j, j < 5 → ∃ n, [x.side, x.card, x.id, x.other, x.n][j]? = some n ∧ Wc m (xa.add (1 + j)) (iV n) ∧ I64 n := by
    intro j hj
    rcases j with _ | _ | _ | _ | _ | j
    · exact ⟨_, rfl, w1, r1⟩
    · exact ⟨_, rfl, w2, r2⟩
    · exact ⟨_, rfl, w3, r3⟩
    · exact ⟨_, rfl, w4, r4⟩
    · exact ⟨_, rfl, w5, r5⟩
    · omega
  have hptr : ∀ j, j < 5 → ([.pointer (some (xa.add 1)), .pointer (some (xa.add 2)), .pointer (some (xa.add 3)), .pointer (some (xa.add 4)), .pointer (some (xa.add 5))] : List Value)[j]? = some (.pointer (some (xa.add (1 + j)))) := by
    intro j hj
    rcases j with _ | _ | _ | _ | _ | j <;> first | rfl | omega
  refine TS_loop3 (fun j _ _ => [(0, .pointer (some ⟨bc, 0, none⟩)), (1, .pointer (some xa)), (26, .slice (some ⟨b1, 0, none⟩) 5 5), (27, .int .i64 5), (28, .int .i64 (j : Nat))]) (fun j A c => curE bc A c (out ++ e1 ++ ([x.side, x.card, x.id, x.other, x.n].take j).flatMap be8) ++ [cel b1 [.pointer (some (xa.add 1)), .pointer (some (xa.add 2)), .pointer (some (xa.add 3)), .pointer (some (xa.add 4)), .pointer (some (xa.add 5))] 117]) (fun j => j ≤ 5) (fun j => 5 - j) 0 A2 c2 ⟨rfl, rfl, rfl, rfl, rfl, trivial⟩ (by simp only [List.take_zero, List.flatMap_nil, List.append_nil]; exact .cons (.there .here) (.cons (.there .here) (.cons .here (.nil _)))) (by omega) ?_
  intro j A3 c3 hj
  unfold curE
  by_cases hlt : j < 5
  · obtain ⟨n, hn, hw, hr⟩ := hget j hlt
    have hp1 := hptr j hlt
    have hbl : (([x.side, x.card, x.id, x.other, x.n].take j).flatMap be8).length ≤ 40 := by
      have : j = 0 ∨ j = 1 ∨ j = 2 ∨ j = 3 ∨ j = 4 := by omega
      rcases this with rfl | rfl | rfl | rfl | rfl <;> simp [be8_len]
    refine TS_seq ?_
    refine TS_region ?_
    refine VS_pure (dt (P_lss rfl rfl) (by omega)) rfl rfl rfl ?_
    refine VS_nil ?_
    refine QS_then ?_
    refine TS_seq ?_
    refine TS_true rfl ?_
    refine TS_skip ?_
    refine QS_then ?_
    refine TS_seq ?_
    refine TS_block ?_
    refine TS_seq ?_
    refine TS_region ?_
    refine VS_pure (P_indexAddr1N ez141 rfl rfl rfl (by omega)) rfl rfl rfl ?_
    refine VS_read (S_loadE sg117 rfl (.there (.there (.here))) hp1) rfl rfl rfl ?_
    refine VS_pure (P_assign rfl) rfl rfl rfl ?_
    refine VS_nil ?_
    refine QS_then ?_
    refine TS_region ?_
    refine VS_pure (P_move rfl) rfl rfl rfl ?_
    refine VS_pure (P_move rfl) rfl rfl rfl ?_
    refine VS_step (S_callP cl47 rfl (.cons .here (.cons .here .nil)) (fun m' hm he => (numC (hw.mono hm) hr) A3 c3 (out ++ e1 ++ ([x.side, x.card, x.id, x.other, x.n].take j).flatMap be8) (by simp only [List.length_append]; omega)) rfl ?_ ?_) rfl
    · rintro v L' ⟨hn1, _⟩
      cases hn1
    rintro v L' ⟨e, hs2, rfl, A4, c4, rfl⟩
    cases hs2
    unfold curE
    refine VS_nil ?_
    refine QS_block ?_
    refine QS_then ?_
    refine TS_region ?_
    refine VS_pure (P_add rfl rfl (w64 (by omega) (by omega))) rfl rfl rfl ?_
    refine VS_pure (P_move rfl) rfl rfl rfl ?_
    refine VS_nil ?_
    refine QS_round3 (j + 1) A4 c4 ⟨rfl, rfl, rfl, rfl, rfl, trivial⟩ ?_ (by omega) (by omega)
    have e : ([x.side, x.card, x.id, x.other, x.n].take (j + 1)).flatMap be8 = ([x.side, x.card, x.id, x.other, x.n].take j).flatMap be8 ++ be8 n := by rw [List.take_add_one, hn, Option.toList_some, List.flatMap_append]; simp
    rw [e, ← List.append_assoc]
    exact .cons .here (.cons .here (.cons .here (.nil _)))
  · have hj' : j = 5 := by omega
    subst hj'
    rw [show [x.side, x.card, x.id, x.other, x.n].take 5 = [x.side, x.card, x.id, x.other, x.n] from rfl]
    have hfl : ([x.side, x.card, x.id, x.other, x.n].flatMap be8).length = 40 := by simp [be8_len]
    refine TS_seq ?_
    refine TS_region ?_
    refine VS_pure (df (P_lss rfl rfl) (by omega)) rfl rfl rfl ?_
    refine VS_nil ?_
    refine QS_then ?_
    refine TS_seq ?_
    refine TS_false rfl ?_
    refine TS_exit ?_
    refine QS_then_exit ?_
    refine QS_round3_exit ?_
    refine QS_block_here ?_
    refine QS_then ?_
    refine TS_region ?_
    refine VS_pure (P_move rfl) rfl rfl rfl ?_
    refine VS_pure (P_move rfl) rfl rfl rfl ?_
    refine VS_pure (P_nilCheck rfl) rfl rfl rfl ?_
    refine VS_pure (P_fieldAddr fo55_6 rfl) rfl rfl rfl ?_
    refine VS_pure (P_move rfl) rfl rfl rfl ?_
    refine VS_pure (P_makeFunc rfl rfl) rfl rfl rfl ?_
    refine VS_step (S_callP cl64 rfl (.cons .here (.cons .here .nil)) (fun m' hm he => (numsC (w6.mono hm) (hi.mono hm)) A3 c3 (out ++ e1 ++ [x.side, x.card, x.id, x.other, x.n].flatMap be8) (by first | omega | (simp only [List.length_append]; omega))) rfl ?_ ?_) rfl
    · rintro v L' ⟨hn3, at_, rfl⟩
      skip
      exact QS_pan [] (Pick.nil _) ⟨(by rw [eEvt, hs1, Option.bind_some, hn3]; rfl), at_, rfl⟩
    rintro v L' ⟨e3, hs3, rfl, A4, c4, rfl⟩
    unfold curE
    refine VS_nil ?_
    exact QS_retPN [] trivial (curE bc A4 c4 (out ++ (e1 ++ [x.side, x.card, x.id, x.other, x.n].flatMap be8 ++ e3))) (by rw [← List.append_assoc, ← List.append_assoc]; exact .cons .here (.cons .here (.nil _))) ⟨_, by rw [eEvt, hs1, Option.bind_some, hs3]; rfl, rfl, _, _, rfl⟩
theorem evtsC {m : Mp} {bc : Nat} {la : Addr} {v : Value} {xs : List Evt} {each : Int} (hv : Wc m la v) (hb : EvsE m v xs) : WC 51 bc [.pointer (some ⟨bc, 0, none⟩), .pointer (some la), .int .i64 each, .func (.func 52) [.pointer (some ⟨bc, 0, none⟩)].toArray [].toArray] m 500000000000 (encMany eEvt xs) := by
  obtain ⟨a, c0, rfl, hA, hm, g⟩ := hb
  exact manyE (enc := eEvt) (xs := xs) hv hA (K := 524323) (fun _ _ _ h => eEvt_len h) (fun i hi m' hm' => evtC ((g i hi).mono hm')) (by decide) 500000000000 (by decide) hm
end Go.Proofs.Ytbpihgphicmdiaa
