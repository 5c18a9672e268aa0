/- A part of the proof: contracts of functions of the program. No condition. -/
import Derived.Test.YtbpihgphicmdiaaWiL
namespace Go.Proofs.Ytbpihgphicmdiaa
open Go.Eng Wi
set_option maxRecDepth 100000
def eBody (x : Ltr) : Option (List UInt8) :=
  if x.kind = 1 then eText x.bytes else if x.kind = 64 then some (ub x.to_ :: be8 x.e) else if x.kind = 8 then some [] else
  if x.kind = 2 then (eText x.text).map fun e => be8 x.table ++ e else if x.kind = 3 then (encMany eText x.cards).map fun e => be8 x.table ++ e else if x.kind = 4 then (eAct x.act).map fun e => be8 x.table ++ e else
  if x.kind = 65 ∨ x.kind = 67 then (eText x.bytes).map fun e => be8 x.table ++ e else if x.kind = 66 then (encMany eEvt x.evs).map fun e => be8 x.table ++ e else some (be8 x.table)
def LetE (m : Mp) (v : Value) (xl : Addr) (x : Ltr) : Prop := ∃ vb vc ve, Wc m (xl.add 0) (.int .u8 x.kind) ∧ Wc m (xl.add 1) (iV x.table) ∧ Wc m (xl.add 2) (sV x.text) ∧ Wc m (xl.add 3) vb ∧ Wc m (xl.add 4) vc ∧ ActE m (xl.add 5) x.act ∧ Wc m (xl.add 11) (.int .u8 x.to_) ∧ Wc m (xl.add 12) (iV x.e) ∧ Wc m (xl.add 13) ve ∧
  BytesE m vb x.bytes ∧ StrsE m vc x.cards ∧ EvsE m ve x.evs ∧ I64 x.table ∧ I64 x.e ∧ U8 x.to_ ∧ U8 x.kind ∧ x.text.length ≤ 140737488355328 ∧ (∀ s ∈ x.cards, s.length ≤ 140737488355328) ∧
  (x.kind = 1 → v = .iface 61 (.agg [vb].toArray)) ∧ (x.kind = 64 → v = .iface 64 (.agg [.int .u8 x.to_, iV x.e].toArray))
theorem LetE.mono {m m' : Mp} {v : Value} {xl : Addr} {x : Ltr} (h : LetE m v xl x) (hl : Le m m') : LetE m' v xl x := let ⟨a, b, c, w0, w1, w2, w3, w4, wa, w11, w12, w13, hb, hc, he, r⟩ := h; ⟨a, b, c, w0.mono hl, w1.mono hl, w2.mono hl, w3.mono hl, w4.mono hl, wa.mono hl, w11.mono hl, w12.mono hl, w13.mono hl, hb.mono hl, hc.mono hl, he.mono hl, r⟩
theorem ub_u8 {n : Int} (h : U8 n) : n = ((ub n).toNat : Int) := by rw [← ub_spec, IntKind.wrap_u8]; unfold U8 at h; omega
theorem Wc.u8 {m : Mp} {a : Addr} {n : Int} (h : Wc m a (.int .u8 n)) (hn : U8 n) : Wc m a (byteV (ub n)) := by unfold byteV; rw [← ub_u8 hn]; exact h
set_option maxHeartbeats 8000000 in
theorem let1 {m : Mp} {bc : Nat} {v : Value} {xl : Addr} {x : Ltr} (hx : LetE m v xl x) (hk : x.kind = 1) : WC 25 bc [.pointer (some ⟨bc, 0, none⟩), v, .pointer (some xl)] m 400000000000 (eBody x) := by
  obtain ⟨vb, vc, ve, w0, w1, w2, w3, w4, wa, w11, w12, w13, hb, hc, he_, r1, r2, r3, r4, r5, r6, k1, k64⟩ := hx
  intro A1 c1 out hl
  refine CSP_of [] Try.func25 rfl rfl rfl ?_
  unfold curE
  obtain rfl := k1 hk
  have hb2 := hb
  obtain ⟨a0, d0, rfl, _⟩ := hb2
  refine TS_seq ?_
  refine TS_seq ?_
  refine TS_region ?_
  refine VS_pure (P_move rfl) rfl rfl rfl ?_
  refine VS_pure (P_nilCheck rfl) rfl rfl rfl ?_
  refine VS_pure (P_fieldAddr fo32_0 rfl) rfl rfl rfl ?_
  refine VS_read (S_loadW sg5 rfl w0) rfl rfl rfl ?_
  refine VS_nil ?_
  refine QS_then ?_
  refine TS_block ?_
  refine TS_seq ?_
  refine TS_region ?_
  refine VS_pure (dt (P_eql rfl rfl) (by assumption)) rfl rfl rfl ?_
  refine VS_pure (P_assign rfl) rfl rfl rfl ?_
  refine VS_nil ?_
  refine QS_then ?_
  refine TS_true rfl ?_
  refine TS_seq ?_
  refine TS_region ?_
  refine VS_pure (P_move rfl) rfl rfl rfl ?_
  refine VS_pure (P_assertYes1 ni61 us61 rfl) rfl rfl rfl ?_
  refine VS_step (S_alloc zl61 rfl (fun b1 => ?_)) rfl
  refine VS_step (S_storeAgg ag61 rfl rfl rfl (.here) rfl rfl ?_) rfl
  refine VS_nil ?_
  refine QS_then ?_
  refine TS_seq ?_
  refine TS_region ?_
  refine VS_pure (P_move rfl) rfl rfl rfl ?_
  refine VS_pure (P_fieldAddr0 fo61_0 rfl) rfl rfl rfl ?_
  refine VS_step (S_callP cl46 rfl (.cons (.there .here) (.cons (.there .here) .nil)) (fun m' hm he => (bytesC (Wc.he he rfl) (hb.mono hm)) A1 c1 (out) (by first | omega | (simp [be8_len]; omega))) rfl ?_ ?_) rfl
  · rintro v L' ⟨hn1, at_, rfl⟩
    refine QS_then_pan ?_
    refine QS_block_pan ?_
    refine QS_then_pan ?_
    exact QS_pan [] (Pick.nil _) ⟨(by rw [eBody, if_pos hk, hn1]), at_, rfl⟩
  rintro v L' ⟨e1, hs1, rfl, A2, c2, rfl⟩
  unfold curE
  refine VS_nil ?_
  refine QS_then ?_
  refine TS_seq ?_
  refine TS_region ?_
  refine VS_pure (P_move rfl) rfl rfl rfl ?_
  refine VS_pure (P_fieldAddr0 fo61_0 rfl) rfl rfl rfl ?_
  refine VS_read (S_loadB sg22 rfl (.there (.there (.here))) rfl) rfl rfl rfl ?_
  refine VS_pure (P_nilCheck rfl) rfl rfl rfl ?_
  refine VS_pure (P_fieldAddr fo32_3 rfl) rfl rfl rfl ?_
  refine VS_step (S_storeSame co22 rfl rfl rfl w3 ?_) rfl
  refine VS_nil ?_
  refine QS_then ?_
  refine TS_ret ?_
  refine QS_block_ret ?_
  refine QS_then_ret ?_
  exact QS_retP [] trivial (curE bc A2 c2 (out ++ e1)) (.cons .here (.cons .here (.nil _))) ⟨e1, by rw [eBody, if_pos hk, hs1], rfl, _, _, rfl⟩
set_option maxHeartbeats 8000000 in
theorem let64 {m : Mp} {bc : Nat} {v : Value} {xl : Addr} {x : Ltr} (hx : LetE m v xl x) (hk : x.kind = 64) : WC 25 bc [.pointer (some ⟨bc, 0, none⟩), v, .pointer (some xl)] m 400000000000 (eBody x) := by
  obtain ⟨vb, vc, ve, w0, w1, w2, w3, w4, wa, w11, w12, w13, hb, hc, he_, r1, r2, r3, r4, r5, r6, k1, k64⟩ := hx
  intro A1 c1 out hl
  refine CSP_of [] Try.func25 rfl rfl rfl ?_
  unfold curE
  obtain rfl := k64 hk
  refine TS_seq ?_
  refine TS_seq ?_
  refine TS_region ?_
  refine VS_pure (P_move rfl) rfl rfl rfl ?_
  refine VS_pure (P_nilCheck rfl) rfl rfl rfl ?_
  refine VS_pure (P_fieldAddr fo32_0 rfl) rfl rfl rfl ?_
  refine VS_read (S_loadW sg5 rfl w0) rfl rfl rfl ?_
  refine VS_nil ?_
  refine QS_then ?_
  refine TS_block ?_
  refine TS_seq ?_
  refine TS_region ?_
  refine VS_pure (df (P_eql rfl rfl) (by omega)) rfl rfl rfl ?_
  refine VS_pure (P_assign rfl) rfl rfl rfl ?_
  refine VS_nil ?_
  refine QS_then ?_
  refine TS_false rfl ?_
  refine TS_seq ?_
  refine TS_region ?_
  refine VS_pure (dt (P_eql rfl rfl) (by assumption)) rfl rfl rfl ?_
  refine VS_pure (P_assign rfl) rfl rfl rfl ?_
  refine VS_nil ?_
  refine QS_then ?_
  refine TS_true rfl ?_
  refine TS_seq ?_
  refine TS_region ?_
  refine VS_pure (P_move rfl) rfl rfl rfl ?_
  refine VS_pure (P_assertYes1 ni64 us64 rfl) rfl rfl rfl ?_
  refine VS_step (S_alloc zl64 rfl (fun b1 => ?_)) rfl
  refine VS_step (S_storeAgg ag64 rfl rfl rfl (.here) rfl rfl ?_) rfl
  refine VS_nil ?_
  refine QS_then ?_
  refine TS_seq ?_
  refine TS_region ?_
  refine VS_pure (P_move rfl) rfl rfl rfl ?_
  refine VS_pure (P_fieldAddr0 fo64_0 rfl) rfl rfl rfl ?_
  refine VS_step (S_callP cl24 rfl (.cons (.there .here) (.cons (.there .here) .nil)) (fun m' hm he => (byteC (Wc.u8 (Wc.he he rfl) r3)) A1 c1 (out) (by first | omega | (simp [be8_len]; omega))) rfl ?_ ?_) rfl
  · rintro v L' ⟨hn1, at_, rfl⟩
    refine QS_then_pan ?_
    refine QS_block_pan ?_
    refine QS_then_pan ?_
    exact QS_pan [] (Pick.nil _) ⟨(by cases hn1), at_, rfl⟩
  rintro v L' ⟨e1, hs1, rfl, A2, c2, rfl⟩
  unfold curE
  refine VS_nil ?_
  refine QS_then ?_
  refine TS_seq ?_
  refine TS_region ?_
  refine VS_pure (P_fieldAddr0 fo64_1 rfl) rfl rfl rfl ?_
  refine VS_read (S_loadB sg29 rfl (.there (.there (.here))) rfl) rfl rfl rfl ?_
  refine VS_step (S_alloc zl3 rfl (fun b2 => ?_)) rfl
  refine VS_step (S_store co3 rfl rfl rfl (.here) (.here) ?_) rfl
  refine VS_nil ?_
  refine QS_then ?_
  refine TS_seq ?_
  refine TS_region ?_
  refine VS_pure (P_move rfl) rfl rfl rfl ?_
  cases hs1
  refine VS_step (S_callP cl47 rfl (.cons (.there .here) (.cons (.there .here) .nil)) (fun m' hm he => (numC (Wc.he he rfl) r2) A2 c2 (out ++ [ub x.to_]) (by first | omega | (simp [be8_len]; omega))) rfl ?_ ?_) rfl
  · rintro v L' ⟨hn2, at_, rfl⟩
    refine QS_then_pan ?_
    refine QS_block_pan ?_
    refine QS_then_pan ?_
    exact QS_pan [] (Pick.nil _) ⟨(by cases hn2), at_, rfl⟩
  rintro v L' ⟨e2, hs2, rfl, A3, c3, rfl⟩
  unfold curE
  refine VS_nil ?_
  refine QS_then ?_
  refine TS_seq ?_
  refine TS_region ?_
  refine VS_pure (P_move rfl) rfl rfl rfl ?_
  refine VS_pure (P_move rfl) rfl rfl rfl ?_
  refine VS_pure (P_fieldAddr0 fo64_0 rfl) rfl rfl rfl ?_
  refine VS_read (S_loadB sg5 rfl (.there (.there (.there (.here)))) rfl) rfl rfl rfl ?_
  refine VS_read (S_loadB sg3 rfl (.there (.there (.here))) rfl) rfl rfl rfl ?_
  refine VS_pure (P_nilCheck rfl) rfl rfl rfl ?_
  refine VS_pure (P_fieldAddr fo32_6 rfl) rfl rfl rfl ?_
  refine VS_step (S_storeSame co5 rfl rfl rfl w11 ?_) rfl
  refine VS_pure (P_nilCheck rfl) rfl rfl rfl ?_
  refine VS_pure (P_fieldAddr fo32_7 rfl) rfl rfl rfl ?_
  refine VS_step (S_storeSame co29 rfl rfl rfl w12 ?_) rfl
  refine VS_nil ?_
  refine QS_then ?_
  refine TS_ret ?_
  refine QS_block_ret ?_
  refine QS_then_ret ?_
  cases hs2
  exact QS_retP [] trivial (curE bc A3 c3 (out ++ ([ub x.to_] ++ be8 x.e))) (by rw [← List.append_assoc]; exact .cons .here (.cons .here (.nil _))) ⟨_, by rw [eBody, if_neg (by omega), if_pos hk]; rfl, rfl, _, _, rfl⟩
set_option maxHeartbeats 8000000 in
theorem let8 {m : Mp} {bc : Nat} {v : Value} {xl : Addr} {x : Ltr} (hx : LetE m v xl x) (hk : x.kind = 8) : WC 25 bc [.pointer (some ⟨bc, 0, none⟩), v, .pointer (some xl)] m 400000000000 (eBody x) := by
  obtain ⟨vb, vc, ve, w0, w1, w2, w3, w4, wa, w11, w12, w13, hb, hc, he_, r1, r2, r3, r4, r5, r6, k1, k64⟩ := hx
  intro A1 c1 out hl
  refine CSP_of [] Try.func25 rfl rfl rfl ?_
  unfold curE
  refine TS_seq ?_
  refine TS_seq ?_
  refine TS_region ?_
  refine VS_pure (P_move rfl) rfl rfl rfl ?_
  refine VS_pure (P_nilCheck rfl) rfl rfl rfl ?_
  refine VS_pure (P_fieldAddr fo32_0 rfl) rfl rfl rfl ?_
  refine VS_read (S_loadW sg5 rfl w0) rfl rfl rfl ?_
  refine VS_nil ?_
  refine QS_then ?_
  refine TS_block ?_
  refine TS_seq ?_
  refine TS_region ?_
  refine VS_pure (df (P_eql rfl rfl) (by omega)) rfl rfl rfl ?_
  refine VS_pure (P_assign rfl) rfl rfl rfl ?_
  refine VS_nil ?_
  refine QS_then ?_
  refine TS_false rfl ?_
  refine TS_seq ?_
  refine TS_region ?_
  refine VS_pure (df (P_eql rfl rfl) (by omega)) rfl rfl rfl ?_
  refine VS_pure (P_assign rfl) rfl rfl rfl ?_
  refine VS_nil ?_
  refine QS_then ?_
  refine TS_false rfl ?_
  refine TS_seq ?_
  refine TS_region ?_
  refine VS_pure (dt (P_eql rfl rfl) (by assumption)) rfl rfl rfl ?_
  refine VS_pure (P_assign rfl) rfl rfl rfl ?_
  refine VS_nil ?_
  refine QS_then ?_
  refine TS_true rfl ?_
  refine TS_ret ?_
  refine QS_block_ret ?_
  refine QS_then_ret ?_
  exact QS_retP [] trivial (curE bc A1 c1 (out ++ [])) (by rw [List.append_nil]; exact .cons .here (.cons .here (.nil _))) ⟨_, by rw [eBody, if_neg (by omega), if_neg (by omega), if_pos hk], rfl, _, _, rfl⟩
set_option maxHeartbeats 8000000 in
theorem let2 {m : Mp} {bc : Nat} {v : Value} {xl : Addr} {x : Ltr} (hx : LetE m v xl x) (hk : x.kind = 2) : WC 25 bc [.pointer (some ⟨bc, 0, none⟩), v, .pointer (some xl)] m 400000000000 (eBody x) := by
  obtain ⟨vb, vc, ve, w0, w1, w2, w3, w4, wa, w11, w12, w13, hb, hc, he_, r1, r2, r3, r4, r5, r6, k1, k64⟩ := hx
  intro A1 c1 out hl
  refine CSP_of [] Try.func25 rfl rfl rfl ?_
  unfold curE
  refine TS_seq ?_
  refine TS_seq ?_
  refine TS_region ?_
  refine VS_pure (P_move rfl) rfl rfl rfl ?_
  refine VS_pure (P_nilCheck rfl) rfl rfl rfl ?_
  refine VS_pure (P_fieldAddr fo32_0 rfl) rfl rfl rfl ?_
  refine VS_read (S_loadW sg5 rfl w0) rfl rfl rfl ?_
  refine VS_nil ?_
  refine QS_then ?_
  refine TS_block ?_
  refine TS_seq ?_
  refine TS_region ?_
  refine VS_pure (df (P_eql rfl rfl) (by omega)) rfl rfl rfl ?_
  refine VS_pure (P_assign rfl) rfl rfl rfl ?_
  refine VS_nil ?_
  refine QS_then ?_
  refine TS_false rfl ?_
  refine TS_seq ?_
  refine TS_region ?_
  refine VS_pure (df (P_eql rfl rfl) (by omega)) rfl rfl rfl ?_
  refine VS_pure (P_assign rfl) rfl rfl rfl ?_
  refine VS_nil ?_
  refine QS_then ?_
  refine TS_false rfl ?_
  refine TS_seq ?_
  refine TS_region ?_
  refine VS_pure (df (P_eql rfl rfl) (by omega)) rfl rfl rfl ?_
  refine VS_pure (P_assign rfl) rfl rfl rfl ?_
  refine VS_nil ?_
  refine QS_then ?_
  refine TS_false rfl ?_
  refine TS_skip ?_
  refine QS_block ?_
  refine QS_then ?_
  refine TS_seq ?_
  refine TS_region ?_
  refine VS_pure (P_move rfl) rfl rfl rfl ?_
  refine VS_pure (P_move rfl) rfl rfl rfl ?_
  refine VS_pure (P_nilCheck rfl) rfl rfl rfl ?_
  refine VS_pure (P_fieldAddr fo32_1 rfl) rfl rfl rfl ?_
  refine VS_step (S_callP cl47 rfl (.cons .here (.cons .here .nil)) (fun m' hm he => (numC (w1.mono hm) r1) A1 c1 (out) (by first | omega | (simp [be8_len]; omega))) rfl ?_ ?_) rfl
  · rintro v L' ⟨hn1, at_, rfl⟩
    refine QS_then_pan ?_
    exact QS_pan [] (Pick.nil _) ⟨(by cases hn1), at_, rfl⟩
  rintro v L' ⟨e1, hs1, rfl, A2, c2, rfl⟩
  unfold curE
  refine VS_nil ?_
  refine QS_then ?_
  refine TS_seq ?_
  refine TS_region ?_
  refine VS_pure (P_move rfl) rfl rfl rfl ?_
  refine VS_pure (P_nilCheck rfl) rfl rfl rfl ?_
  refine VS_pure (P_fieldAddr fo32_0 rfl) rfl rfl rfl ?_
  refine VS_read (S_loadW sg5 rfl w0) rfl rfl rfl ?_
  refine VS_nil ?_
  refine QS_then ?_
  refine TS_block ?_
  refine TS_seq ?_
  refine TS_region ?_
  refine VS_pure (dt (P_eql rfl rfl) (by assumption)) rfl rfl rfl ?_
  refine VS_pure (P_assign rfl) rfl rfl rfl ?_
  refine VS_nil ?_
  refine QS_then ?_
  refine TS_true rfl ?_
  refine TS_region ?_
  refine VS_pure (P_move rfl) rfl rfl rfl ?_
  refine VS_pure (P_move rfl) rfl rfl rfl ?_
  refine VS_pure (P_nilCheck rfl) rfl rfl rfl ?_
  refine VS_pure (P_fieldAddr fo32_2 rfl) rfl rfl rfl ?_
  cases hs1
  refine VS_step (S_callP cl48 rfl (.cons .here (.cons .here .nil)) (fun m' hm he => (textC (w2.mono hm) r5) A2 c2 (out ++ be8 x.table) (by first | omega | (simp [be8_len]; omega))) rfl ?_ ?_) rfl
  · rintro v L' ⟨hn2, at_, rfl⟩
    refine QS_block_pan ?_
    exact QS_pan [] (Pick.nil _) ⟨(by rw [eBody, if_neg (by omega), if_neg (by omega), if_neg (by omega), if_pos hk, hn2]; rfl), at_, rfl⟩
  rintro v L' ⟨e2, hs2, rfl, A3, c3, rfl⟩
  unfold curE
  refine VS_nil ?_
  refine QS_block ?_
  exact QS_retPN [] trivial (curE bc A3 c3 (out ++ (be8 x.table ++ e2))) (by rw [← List.append_assoc]; exact .cons .here (.cons .here (.nil _))) ⟨_, by rw [eBody, if_neg (by omega), if_neg (by omega), if_neg (by omega), if_pos hk, hs2]; rfl, rfl, _, _, rfl⟩
set_option maxHeartbeats 8000000 in
theorem let3 {m : Mp} {bc : Nat} {v : Value} {xl : Addr} {x : Ltr} (hx : LetE m v xl x) (hk : x.kind = 3) : WC 25 bc [.pointer (some ⟨bc, 0, none⟩), v, .pointer (some xl)] m 400000000000 (eBody x) := by
  obtain ⟨vb, vc, ve, w0, w1, w2, w3, w4, wa, w11, w12, w13, hb, hc, he_, r1, r2, r3, r4, r5, r6, k1, k64⟩ := hx
  intro A1 c1 out hl
  refine CSP_of [] Try.func25 rfl rfl rfl ?_
  unfold curE
  refine TS_seq ?_
  refine TS_seq ?_
  refine TS_region ?_
  refine VS_pure (P_move rfl) rfl rfl rfl ?_
  refine VS_pure (P_nilCheck rfl) rfl rfl rfl ?_
  refine VS_pure (P_fieldAddr fo32_0 rfl) rfl rfl rfl ?_
  refine VS_read (S_loadW sg5 rfl w0) rfl rfl rfl ?_
  refine VS_nil ?_
  refine QS_then ?_
  refine TS_block ?_
  refine TS_seq ?_
  refine TS_region ?_
  refine VS_pure (df (P_eql rfl rfl) (by omega)) rfl rfl rfl ?_
  refine VS_pure (P_assign rfl) rfl rfl rfl ?_
  refine VS_nil ?_
  refine QS_then ?_
  refine TS_false rfl ?_
  refine TS_seq ?_
  refine TS_region ?_
  refine VS_pure (df (P_eql rfl rfl) (by omega)) rfl rfl rfl ?_
  refine VS_pure (P_assign rfl) rfl rfl rfl ?_
  refine VS_nil ?_
  refine QS_then ?_
  refine TS_false rfl ?_
  refine TS_seq ?_
  refine TS_region ?_
  refine VS_pure (df (P_eql rfl rfl) (by omega)) rfl rfl rfl ?_
  refine VS_pure (P_assign rfl) rfl rfl rfl ?_
  refine VS_nil ?_
  refine QS_then ?_
  refine TS_false rfl ?_
  refine TS_skip ?_
  refine QS_block ?_
  refine QS_then ?_
  refine TS_seq ?_
  refine TS_region ?_
  refine VS_pure (P_move rfl) rfl rfl rfl ?_
  refine VS_pure (P_move rfl) rfl rfl rfl ?_
  refine VS_pure (P_nilCheck rfl) rfl rfl rfl ?_
  refine VS_pure (P_fieldAddr fo32_1 rfl) rfl rfl rfl ?_
  refine VS_step (S_callP cl47 rfl (.cons .here (.cons .here .nil)) (fun m' hm he => (numC (w1.mono hm) r1) A1 c1 (out) (by first | omega | (simp [be8_len]; omega))) rfl ?_ ?_) rfl
  · rintro v L' ⟨hn1, at_, rfl⟩
    refine QS_then_pan ?_
    exact QS_pan [] (Pick.nil _) ⟨(by cases hn1), at_, rfl⟩
  rintro v L' ⟨e1, hs1, rfl, A2, c2, rfl⟩
  unfold curE
  refine VS_nil ?_
  refine QS_then ?_
  refine TS_seq ?_
  refine TS_region ?_
  refine VS_pure (P_move rfl) rfl rfl rfl ?_
  refine VS_pure (P_nilCheck rfl) rfl rfl rfl ?_
  refine VS_pure (P_fieldAddr fo32_0 rfl) rfl rfl rfl ?_
  refine VS_read (S_loadW sg5 rfl w0) rfl rfl rfl ?_
  refine VS_nil ?_
  refine QS_then ?_
  refine TS_block ?_
  refine TS_seq ?_
  refine TS_region ?_
  refine VS_pure (df (P_eql rfl rfl) (by omega)) rfl rfl rfl ?_
  refine VS_pure (P_assign rfl) rfl rfl rfl ?_
  refine VS_nil ?_
  refine QS_then ?_
  refine TS_false rfl ?_
  refine TS_seq ?_
  refine TS_region ?_
  refine VS_pure (dt (P_eql rfl rfl) (by assumption)) rfl rfl rfl ?_
  refine VS_pure (P_assign rfl) rfl rfl rfl ?_
  refine VS_nil ?_
  refine QS_then ?_
  refine TS_true rfl ?_
  refine TS_region ?_
  refine VS_pure (P_move rfl) rfl rfl rfl ?_
  refine VS_pure (P_move rfl) rfl rfl rfl ?_
  refine VS_pure (P_nilCheck rfl) rfl rfl rfl ?_
  refine VS_pure (P_fieldAddr fo32_4 rfl) rfl rfl rfl ?_
  refine VS_pure (P_move rfl) rfl rfl rfl ?_
  refine VS_pure (P_makeFunc rfl rfl) rfl rfl rfl ?_
  cases hs1
  refine VS_step (S_callP cl49 rfl (.cons .here (.cons .here .nil)) (fun m' hm he => (textsC (w4.mono hm) (hc.mono hm) r6) A2 c2 (out ++ be8 x.table) (by first | omega | (simp [be8_len]; omega))) rfl ?_ ?_) rfl
  · rintro v L' ⟨hn2, at_, rfl⟩
    refine QS_block_pan ?_
    exact QS_pan [] (Pick.nil _) ⟨(by rw [eBody, if_neg (by omega), if_neg (by omega), if_neg (by omega), if_neg (by omega), if_pos hk, hn2]; rfl), at_, rfl⟩
  rintro v L' ⟨e2, hs2, rfl, A3, c3, rfl⟩
  unfold curE
  refine VS_nil ?_
  refine QS_block ?_
  exact QS_retPN [] trivial (curE bc A3 c3 (out ++ (be8 x.table ++ e2))) (by rw [← List.append_assoc]; exact .cons .here (.cons .here (.nil _))) ⟨_, by rw [eBody, if_neg (by omega), if_neg (by omega), if_neg (by omega), if_neg (by omega), if_pos hk, hs2]; rfl, rfl, _, _, rfl⟩
set_option maxHeartbeats 8000000 in
theorem let4 {m : Mp} {bc : Nat} {v : Value} {xl : Addr} {x : Ltr} (hx : LetE m v xl x) (hk : x.kind = 4) : WC 25 bc [.pointer (some ⟨bc, 0, none⟩), v, .pointer (some xl)] m 400000000000 (eBody x) := by
  obtain ⟨vb, vc, ve, w0, w1, w2, w3, w4, wa, w11, w12, w13, hb, hc, he_, r1, r2, r3, r4, r5, r6, k1, k64⟩ := hx
  intro A1 c1 out hl
  refine CSP_of [] Try.func25 rfl rfl rfl ?_
  unfold curE
  refine TS_seq ?_
  refine TS_seq ?_
  refine TS_region ?_
  refine VS_pure (P_move rfl) rfl rfl rfl ?_
  refine VS_pure (P_nilCheck rfl) rfl rfl rfl ?_
  refine VS_pure (P_fieldAddr fo32_0 rfl) rfl rfl rfl ?_
  refine VS_read (S_loadW sg5 rfl w0) rfl rfl rfl ?_
  refine VS_nil ?_
  refine QS_then ?_
  refine TS_block ?_
  refine TS_seq ?_
  refine TS_region ?_
  refine VS_pure (df (P_eql rfl rfl) (by omega)) rfl rfl rfl ?_
  refine VS_pure (P_assign rfl) rfl rfl rfl ?_
  refine VS_nil ?_
  refine QS_then ?_
  refine TS_false rfl ?_
  refine TS_seq ?_
  refine TS_region ?_
  refine VS_pure (df (P_eql rfl rfl) (by omega)) rfl rfl rfl ?_
  refine VS_pure (P_assign rfl) rfl rfl rfl ?_
  refine VS_nil ?_
  refine QS_then ?_
  refine TS_false rfl ?_
  refine TS_seq ?_
  refine TS_region ?_
  refine VS_pure (df (P_eql rfl rfl) (by omega)) rfl rfl rfl ?_
  refine VS_pure (P_assign rfl) rfl rfl rfl ?_
  refine VS_nil ?_
  refine QS_then ?_
  refine TS_false rfl ?_
  refine TS_skip ?_
  refine QS_block ?_
  refine QS_then ?_
  refine TS_seq ?_
  refine TS_region ?_
  refine VS_pure (P_move rfl) rfl rfl rfl ?_
  refine VS_pure (P_move rfl) rfl rfl rfl ?_
  refine VS_pure (P_nilCheck rfl) rfl rfl rfl ?_
  refine VS_pure (P_fieldAddr fo32_1 rfl) rfl rfl rfl ?_
  refine VS_step (S_callP cl47 rfl (.cons .here (.cons .here .nil)) (fun m' hm he => (numC (w1.mono hm) r1) A1 c1 (out) (by first | omega | (simp [be8_len]; omega))) rfl ?_ ?_) rfl
  · rintro v L' ⟨hn1, at_, rfl⟩
    refine QS_then_pan ?_
    exact QS_pan [] (Pick.nil _) ⟨(by cases hn1), at_, rfl⟩
  rintro v L' ⟨e1, hs1, rfl, A2, c2, rfl⟩
  unfold curE
  refine VS_nil ?_
  refine QS_then ?_
  refine TS_seq ?_
  refine TS_region ?_
  refine VS_pure (P_move rfl) rfl rfl rfl ?_
  refine VS_pure (P_nilCheck rfl) rfl rfl rfl ?_
  refine VS_pure (P_fieldAddr fo32_0 rfl) rfl rfl rfl ?_
  refine VS_read (S_loadW sg5 rfl w0) rfl rfl rfl ?_
  refine VS_nil ?_
  refine QS_then ?_
  refine TS_block ?_
  refine TS_seq ?_
  refine TS_region ?_
  refine VS_pure (df (P_eql rfl rfl) (by omega)) rfl rfl rfl ?_
  refine VS_pure (P_assign rfl) rfl rfl rfl ?_
  refine VS_nil ?_
  refine QS_then ?_
  refine TS_false rfl ?_
  refine TS_seq ?_
  refine TS_region ?_
  refine VS_pure (df (P_eql rfl rfl) (by omega)) rfl rfl rfl ?_
  refine VS_pure (P_assign rfl) rfl rfl rfl ?_
  refine VS_nil ?_
  refine QS_then ?_
  refine TS_false rfl ?_
  refine TS_seq ?_
  refine TS_region ?_
  refine VS_pure (dt (P_eql rfl rfl) (by assumption)) rfl rfl rfl ?_
  refine VS_pure (P_assign rfl) rfl rfl rfl ?_
  refine VS_nil ?_
  refine QS_then ?_
  refine TS_true rfl ?_
  refine TS_region ?_
  refine VS_pure (P_move rfl) rfl rfl rfl ?_
  refine VS_pure (P_move rfl) rfl rfl rfl ?_
  refine VS_pure (P_nilCheck rfl) rfl rfl rfl ?_
  refine VS_pure (P_fieldAddr fo32_5 rfl) rfl rfl rfl ?_
  cases hs1
  refine VS_step (S_callP cl50 rfl (.cons .here (.cons .here .nil)) (fun m' hm he => (actC (wa.mono hm)) A2 c2 (out ++ be8 x.table) (by first | omega | (simp [be8_len]; omega))) rfl ?_ ?_) rfl
  · rintro v L' ⟨hn2, at_, rfl⟩
    refine QS_block_pan ?_
    exact QS_pan [] (Pick.nil _) ⟨(by rw [eBody, if_neg (by omega), if_neg (by omega), if_neg (by omega), if_neg (by omega), if_neg (by omega), if_pos hk, hn2]; rfl), at_, rfl⟩
  rintro v L' ⟨e2, hs2, rfl, A3, c3, rfl⟩
  unfold curE
  refine VS_nil ?_
  refine QS_block ?_
  exact QS_retPN [] trivial (curE bc A3 c3 (out ++ (be8 x.table ++ e2))) (by rw [← List.append_assoc]; exact .cons .here (.cons .here (.nil _))) ⟨_, by rw [eBody, if_neg (by omega), if_neg (by omega), if_neg (by omega), if_neg (by omega), if_neg (by omega), if_pos hk, hs2]; rfl, rfl, _, _, rfl⟩
set_option maxHeartbeats 8000000 in
theorem let65 {m : Mp} {bc : Nat} {v : Value} {xl : Addr} {x : Ltr} (hx : LetE m v xl x) (hk : x.kind = 65) : WC 25 bc [.pointer (some ⟨bc, 0, none⟩), v, .pointer (some xl)] m 400000000000 (eBody x) := by
  obtain ⟨vb, vc, ve, w0, w1, w2, w3, w4, wa, w11, w12, w13, hb, hc, he_, r1, r2, r3, r4, r5, r6, k1, k64⟩ := hx
  intro A1 c1 out hl
  refine CSP_of [] Try.func25 rfl rfl rfl ?_
  unfold curE
  refine TS_seq ?_
  refine TS_seq ?_
  refine TS_region ?_
  refine VS_pure (P_move rfl) rfl rfl rfl ?_
  refine VS_pure (P_nilCheck rfl) rfl rfl rfl ?_
  refine VS_pure (P_fieldAddr fo32_0 rfl) rfl rfl rfl ?_
  refine VS_read (S_loadW sg5 rfl w0) rfl rfl rfl ?_
  refine VS_nil ?_
  refine QS_then ?_
  refine TS_block ?_
  refine TS_seq ?_
  refine TS_region ?_
  refine VS_pure (df (P_eql rfl rfl) (by omega)) rfl rfl rfl ?_
  refine VS_pure (P_assign rfl) rfl rfl rfl ?_
  refine VS_nil ?_
  refine QS_then ?_
  refine TS_false rfl ?_
  refine TS_seq ?_
  refine TS_region ?_
  refine VS_pure (df (P_eql rfl rfl) (by omega)) rfl rfl rfl ?_
  refine VS_pure (P_assign rfl) rfl rfl rfl ?_
  refine VS_nil ?_
  refine QS_then ?_
  refine TS_false rfl ?_
  refine TS_seq ?_
  refine TS_region ?_
  refine VS_pure (df (P_eql rfl rfl) (by omega)) rfl rfl rfl ?_
  refine VS_pure (P_assign rfl) rfl rfl rfl ?_
  refine VS_nil ?_
  refine QS_then ?_
  refine TS_false rfl ?_
  refine TS_skip ?_
  refine QS_block ?_
  refine QS_then ?_
  refine TS_seq ?_
  refine TS_region ?_
  refine VS_pure (P_move rfl) rfl rfl rfl ?_
  refine VS_pure (P_move rfl) rfl rfl rfl ?_
  refine VS_pure (P_nilCheck rfl) rfl rfl rfl ?_
  refine VS_pure (P_fieldAddr fo32_1 rfl) rfl rfl rfl ?_
  refine VS_step (S_callP cl47 rfl (.cons .here (.cons .here .nil)) (fun m' hm he => (numC (w1.mono hm) r1) A1 c1 (out) (by first | omega | (simp [be8_len]; omega))) rfl ?_ ?_) rfl
  · rintro v L' ⟨hn1, at_, rfl⟩
    refine QS_then_pan ?_
    exact QS_pan [] (Pick.nil _) ⟨(by cases hn1), at_, rfl⟩
  rintro v L' ⟨e1, hs1, rfl, A2, c2, rfl⟩
  unfold curE
  refine VS_nil ?_
  refine QS_then ?_
  refine TS_seq ?_
  refine TS_region ?_
  refine VS_pure (P_move rfl) rfl rfl rfl ?_
  refine VS_pure (P_nilCheck rfl) rfl rfl rfl ?_
  refine VS_pure (P_fieldAddr fo32_0 rfl) rfl rfl rfl ?_
  refine VS_read (S_loadW sg5 rfl w0) rfl rfl rfl ?_
  refine VS_nil ?_
  refine QS_then ?_
  refine TS_block ?_
  refine TS_seq ?_
  refine TS_region ?_
  refine VS_pure (df (P_eql rfl rfl) (by omega)) rfl rfl rfl ?_
  refine VS_pure (P_assign rfl) rfl rfl rfl ?_
  refine VS_nil ?_
  refine QS_then ?_
  refine TS_false rfl ?_
  refine TS_seq ?_
  refine TS_region ?_
  refine VS_pure (df (P_eql rfl rfl) (by omega)) rfl rfl rfl ?_
  refine VS_pure (P_assign rfl) rfl rfl rfl ?_
  refine VS_nil ?_
  refine QS_then ?_
  refine TS_false rfl ?_
  refine TS_seq ?_
  refine TS_region ?_
  refine VS_pure (df (P_eql rfl rfl) (by omega)) rfl rfl rfl ?_
  refine VS_pure (P_assign rfl) rfl rfl rfl ?_
  refine VS_nil ?_
  refine QS_then ?_
  refine TS_false rfl ?_
  refine TS_seq ?_
  refine TS_seq ?_
  refine TS_region ?_
  refine VS_pure (dt (P_eql rfl rfl) (by assumption)) rfl rfl rfl ?_
  refine VS_pure (P_assign rfl) rfl rfl rfl ?_
  refine VS_nil ?_
  refine QS_then ?_
  refine TS_true rfl ?_
  refine TS_skip ?_
  refine QS_then ?_
  refine TS_true rfl ?_
  refine TS_region ?_
  refine VS_pure (P_move rfl) rfl rfl rfl ?_
  refine VS_pure (P_move rfl) rfl rfl rfl ?_
  refine VS_pure (P_nilCheck rfl) rfl rfl rfl ?_
  refine VS_pure (P_fieldAddr fo32_3 rfl) rfl rfl rfl ?_
  cases hs1
  refine VS_step (S_callP cl46 rfl (.cons .here (.cons .here .nil)) (fun m' hm he => (bytesC (w3.mono hm) (hb.mono hm)) A2 c2 (out ++ be8 x.table) (by first | omega | (simp [be8_len]; omega))) rfl ?_ ?_) rfl
  · rintro v L' ⟨hn2, at_, rfl⟩
    refine QS_block_pan ?_
    exact QS_pan [] (Pick.nil _) ⟨(by rw [eBody, if_neg (by omega), if_neg (by omega), if_neg (by omega), if_neg (by omega), if_neg (by omega), if_neg (by omega), if_pos (by omega), hn2]; rfl), at_, rfl⟩
  rintro v L' ⟨e2, hs2, rfl, A3, c3, rfl⟩
  unfold curE
  refine VS_nil ?_
  refine QS_block ?_
  exact QS_retPN [] trivial (curE bc A3 c3 (out ++ (be8 x.table ++ e2))) (by rw [← List.append_assoc]; exact .cons .here (.cons .here (.nil _))) ⟨_, by rw [eBody, if_neg (by omega), if_neg (by omega), if_neg (by omega), if_neg (by omega), if_neg (by omega), if_neg (by omega), if_pos (by omega), hs2]; rfl, rfl, _, _, rfl⟩
set_option maxHeartbeats 8000000 in
theorem let67 {m : Mp} {bc : Nat} {v : Value} {xl : Addr} {x : Ltr} (hx : LetE m v xl x) (hk : x.kind = 67) : WC 25 bc [.pointer (some ⟨bc, 0, none⟩), v, .pointer (some xl)] m 400000000000 (eBody x) := by
  obtain ⟨vb, vc, ve, w0, w1, w2, w3, w4, wa, w11, w12, w13, hb, hc, he_, r1, r2, r3, r4, r5, r6, k1, k64⟩ := hx
  intro A1 c1 out hl
  refine CSP_of [] Try.func25 rfl rfl rfl ?_
  unfold curE
  refine TS_seq ?_
  refine TS_seq ?_
  refine TS_region ?_
  refine VS_pure (P_move rfl) rfl rfl rfl ?_
  refine VS_pure (P_nilCheck rfl) rfl rfl rfl ?_
  refine VS_pure (P_fieldAddr fo32_0 rfl) rfl rfl rfl ?_
  refine VS_read (S_loadW sg5 rfl w0) rfl rfl rfl ?_
  refine VS_nil ?_
  refine QS_then ?_
  refine TS_block ?_
  refine TS_seq ?_
  refine TS_region ?_
  refine VS_pure (df (P_eql rfl rfl) (by omega)) rfl rfl rfl ?_
  refine VS_pure (P_assign rfl) rfl rfl rfl ?_
  refine VS_nil ?_
  refine QS_then ?_
  refine TS_false rfl ?_
  refine TS_seq ?_
  refine TS_region ?_
  refine VS_pure (df (P_eql rfl rfl) (by omega)) rfl rfl rfl ?_
  refine VS_pure (P_assign rfl) rfl rfl rfl ?_
  refine VS_nil ?_
  refine QS_then ?_
  refine TS_false rfl ?_
  refine TS_seq ?_
  refine TS_region ?_
  refine VS_pure (df (P_eql rfl rfl) (by omega)) rfl rfl rfl ?_
  refine VS_pure (P_assign rfl) rfl rfl rfl ?_
  refine VS_nil ?_
  refine QS_then ?_
  refine TS_false rfl ?_
  refine TS_skip ?_
  refine QS_block ?_
  refine QS_then ?_
  refine TS_seq ?_
  refine TS_region ?_
  refine VS_pure (P_move rfl) rfl rfl rfl ?_
  refine VS_pure (P_move rfl) rfl rfl rfl ?_
  refine VS_pure (P_nilCheck rfl) rfl rfl rfl ?_
  refine VS_pure (P_fieldAddr fo32_1 rfl) rfl rfl rfl ?_
  refine VS_step (S_callP cl47 rfl (.cons .here (.cons .here .nil)) (fun m' hm he => (numC (w1.mono hm) r1) A1 c1 (out) (by first | omega | (simp [be8_len]; omega))) rfl ?_ ?_) rfl
  · rintro v L' ⟨hn1, at_, rfl⟩
    refine QS_then_pan ?_
    exact QS_pan [] (Pick.nil _) ⟨(by cases hn1), at_, rfl⟩
  rintro v L' ⟨e1, hs1, rfl, A2, c2, rfl⟩
  unfold curE
  refine VS_nil ?_
  refine QS_then ?_
  refine TS_seq ?_
  refine TS_region ?_
  refine VS_pure (P_move rfl) rfl rfl rfl ?_
  refine VS_pure (P_nilCheck rfl) rfl rfl rfl ?_
  refine VS_pure (P_fieldAddr fo32_0 rfl) rfl rfl rfl ?_
  refine VS_read (S_loadW sg5 rfl w0) rfl rfl rfl ?_
  refine VS_nil ?_
  refine QS_then ?_
  refine TS_block ?_
  refine TS_seq ?_
  refine TS_region ?_
  refine VS_pure (df (P_eql rfl rfl) (by omega)) rfl rfl rfl ?_
  refine VS_pure (P_assign rfl) rfl rfl rfl ?_
  refine VS_nil ?_
  refine QS_then ?_
  refine TS_false rfl ?_
  refine TS_seq ?_
  refine TS_region ?_
  refine VS_pure (df (P_eql rfl rfl) (by omega)) rfl rfl rfl ?_
  refine VS_pure (P_assign rfl) rfl rfl rfl ?_
  refine VS_nil ?_
  refine QS_then ?_
  refine TS_false rfl ?_
  refine TS_seq ?_
  refine TS_region ?_
  refine VS_pure (df (P_eql rfl rfl) (by omega)) rfl rfl rfl ?_
  refine VS_pure (P_assign rfl) rfl rfl rfl ?_
  refine VS_nil ?_
  refine QS_then ?_
  refine TS_false rfl ?_
  refine TS_seq ?_
  refine TS_seq ?_
  refine TS_region ?_
  refine VS_pure (df (P_eql rfl rfl) (by omega)) rfl rfl rfl ?_
  refine VS_pure (P_assign rfl) rfl rfl rfl ?_
  refine VS_nil ?_
  refine QS_then ?_
  refine TS_false rfl ?_
  refine TS_region ?_
  refine VS_pure (dt (P_eql rfl rfl) (by assumption)) rfl rfl rfl ?_
  refine VS_pure (P_assign rfl) rfl rfl rfl ?_
  refine VS_nil ?_
  refine QS_then ?_
  refine TS_true rfl ?_
  refine TS_region ?_
  refine VS_pure (P_move rfl) rfl rfl rfl ?_
  refine VS_pure (P_move rfl) rfl rfl rfl ?_
  refine VS_pure (P_nilCheck rfl) rfl rfl rfl ?_
  refine VS_pure (P_fieldAddr fo32_3 rfl) rfl rfl rfl ?_
  cases hs1
  refine VS_step (S_callP cl46 rfl (.cons .here (.cons .here .nil)) (fun m' hm he => (bytesC (w3.mono hm) (hb.mono hm)) A2 c2 (out ++ be8 x.table) (by first | omega | (simp [be8_len]; omega))) rfl ?_ ?_) rfl
  · rintro v L' ⟨hn2, at_, rfl⟩
    refine QS_block_pan ?_
    exact QS_pan [] (Pick.nil _) ⟨(by rw [eBody, if_neg (by omega), if_neg (by omega), if_neg (by omega), if_neg (by omega), if_neg (by omega), if_neg (by omega), if_pos (by omega), hn2]; rfl), at_, rfl⟩
  rintro v L' ⟨e2, hs2, rfl, A3, c3, rfl⟩
  unfold curE
  refine VS_nil ?_
  refine QS_block ?_
  exact QS_retPN [] trivial (curE bc A3 c3 (out ++ (be8 x.table ++ e2))) (by rw [← List.append_assoc]; exact .cons .here (.cons .here (.nil _))) ⟨_, by rw [eBody, if_neg (by omega), if_neg (by omega), if_neg (by omega), if_neg (by omega), if_neg (by omega), if_neg (by omega), if_pos (by omega), hs2]; rfl, rfl, _, _, rfl⟩
set_option maxHeartbeats 8000000 in
theorem let66 {m : Mp} {bc : Nat} {v : Value} {xl : Addr} {x : Ltr} (hx : LetE m v xl x) (hk : x.kind = 66) : WC 25 bc [.pointer (some ⟨bc, 0, none⟩), v, .pointer (some xl)] m 400000000000 (eBody x) := by
  obtain ⟨vb, vc, ve, w0, w1, w2, w3, w4, wa, w11, w12, w13, hb, hc, he_, r1, r2, r3, r4, r5, r6, k1, k64⟩ := hx
  intro A1 c1 out hl
  refine CSP_of [] Try.func25 rfl rfl rfl ?_
  unfold curE
  refine TS_seq ?_
  refine TS_seq ?_
  refine TS_region ?_
  refine VS_pure (P_move rfl) rfl rfl rfl ?_
  refine VS_pure (P_nilCheck rfl) rfl rfl rfl ?_
  refine VS_pure (P_fieldAddr fo32_0 rfl) rfl rfl rfl ?_
  refine VS_read (S_loadW sg5 rfl w0) rfl rfl rfl ?_
  refine VS_nil ?_
  refine QS_then ?_
  refine TS_block ?_
  refine TS_seq ?_
  refine TS_region ?_
  refine VS_pure (df (P_eql rfl rfl) (by omega)) rfl rfl rfl ?_
  refine VS_pure (P_assign rfl) rfl rfl rfl ?_
  refine VS_nil ?_
  refine QS_then ?_
  refine TS_false rfl ?_
  refine TS_seq ?_
  refine TS_region ?_
  refine VS_pure (df (P_eql rfl rfl) (by omega)) rfl rfl rfl ?_
  refine VS_pure (P_assign rfl) rfl rfl rfl ?_
  refine VS_nil ?_
  refine QS_then ?_
  refine TS_false rfl ?_
  refine TS_seq ?_
  refine TS_region ?_
  refine VS_pure (df (P_eql rfl rfl) (by omega)) rfl rfl rfl ?_
  refine VS_pure (P_assign rfl) rfl rfl rfl ?_
  refine VS_nil ?_
  refine QS_then ?_
  refine TS_false rfl ?_
  refine TS_skip ?_
  refine QS_block ?_
  refine QS_then ?_
  refine TS_seq ?_
  refine TS_region ?_
  refine VS_pure (P_move rfl) rfl rfl rfl ?_
  refine VS_pure (P_move rfl) rfl rfl rfl ?_
  refine VS_pure (P_nilCheck rfl) rfl rfl rfl ?_
  refine VS_pure (P_fieldAddr fo32_1 rfl) rfl rfl rfl ?_
  refine VS_step (S_callP cl47 rfl (.cons .here (.cons .here .nil)) (fun m' hm he => (numC (w1.mono hm) r1) A1 c1 (out) (by first | omega | (simp [be8_len]; omega))) rfl ?_ ?_) rfl
  · rintro v L' ⟨hn1, at_, rfl⟩
    refine QS_then_pan ?_
    exact QS_pan [] (Pick.nil _) ⟨(by cases hn1), at_, rfl⟩
  rintro v L' ⟨e1, hs1, rfl, A2, c2, rfl⟩
  unfold curE
  refine VS_nil ?_
  refine QS_then ?_
  refine TS_seq ?_
  refine TS_region ?_
  refine VS_pure (P_move rfl) rfl rfl rfl ?_
  refine VS_pure (P_nilCheck rfl) rfl rfl rfl ?_
  refine VS_pure (P_fieldAddr fo32_0 rfl) rfl rfl rfl ?_
  refine VS_read (S_loadW sg5 rfl w0) rfl rfl rfl ?_
  refine VS_nil ?_
  refine QS_then ?_
  refine TS_block ?_
  refine TS_seq ?_
  refine TS_region ?_
  refine VS_pure (df (P_eql rfl rfl) (by omega)) rfl rfl rfl ?_
  refine VS_pure (P_assign rfl) rfl rfl rfl ?_
  refine VS_nil ?_
  refine QS_then ?_
  refine TS_false rfl ?_
  refine TS_seq ?_
  refine TS_region ?_
  refine VS_pure (df (P_eql rfl rfl) (by omega)) rfl rfl rfl ?_
  refine VS_pure (P_assign rfl) rfl rfl rfl ?_
  refine VS_nil ?_
  refine QS_then ?_
  refine TS_false rfl ?_
  refine TS_seq ?_
  refine TS_region ?_
  refine VS_pure (df (P_eql rfl rfl) (by omega)) rfl rfl rfl ?_
  refine VS_pure (P_assign rfl) rfl rfl rfl ?_
  refine VS_nil ?_
  refine QS_then ?_
  refine TS_false rfl ?_
  refine TS_seq ?_
  refine TS_seq ?_
  refine TS_region ?_
  refine VS_pure (df (P_eql rfl rfl) (by omega)) rfl rfl rfl ?_
  refine VS_pure (P_assign rfl) rfl rfl rfl ?_
  refine VS_nil ?_
  refine QS_then ?_
  refine TS_false rfl ?_
  refine TS_region ?_
  refine VS_pure (df (P_eql rfl rfl) (by omega)) rfl rfl rfl ?_
  refine VS_pure (P_assign rfl) rfl rfl rfl ?_
  refine VS_nil ?_
  refine QS_then ?_
  refine TS_false rfl ?_
  refine TS_seq ?_
  refine TS_region ?_
  refine VS_pure (dt (P_eql rfl rfl) (by assumption)) rfl rfl rfl ?_
  refine VS_pure (P_assign rfl) rfl rfl rfl ?_
  refine VS_nil ?_
  refine QS_then ?_
  refine TS_true rfl ?_
  refine TS_region ?_
  refine VS_pure (P_move rfl) rfl rfl rfl ?_
  refine VS_pure (P_move rfl) rfl rfl rfl ?_
  refine VS_pure (P_nilCheck rfl) rfl rfl rfl ?_
  refine VS_pure (P_fieldAddr fo32_8 rfl) rfl rfl rfl ?_
  refine VS_pure (P_move rfl) rfl rfl rfl ?_
  refine VS_pure (P_makeFunc rfl rfl) rfl rfl rfl ?_
  cases hs1
  refine VS_step (S_callP cl51 rfl (.cons .here (.cons .here .nil)) (fun m' hm he => (evtsC (w13.mono hm) (he_.mono hm)) A2 c2 (out ++ be8 x.table) (by first | omega | (simp [be8_len]; omega))) rfl ?_ ?_) rfl
  · rintro v L' ⟨hn2, at_, rfl⟩
    refine QS_block_pan ?_
    exact QS_pan [] (Pick.nil _) ⟨(by rw [eBody, if_neg (by omega), if_neg (by omega), if_neg (by omega), if_neg (by omega), if_neg (by omega), if_neg (by omega), if_neg (by omega), if_pos hk, hn2]; rfl), at_, rfl⟩
  rintro v L' ⟨e2, hs2, rfl, A3, c3, rfl⟩
  unfold curE
  refine VS_nil ?_
  refine QS_block ?_
  exact QS_retPN [] trivial (curE bc A3 c3 (out ++ (be8 x.table ++ e2))) (by rw [← List.append_assoc]; exact .cons .here (.cons .here (.nil _))) ⟨_, by rw [eBody, if_neg (by omega), if_neg (by omega), if_neg (by omega), if_neg (by omega), if_neg (by omega), if_neg (by omega), if_neg (by omega), if_pos hk, hs2]; rfl, rfl, _, _, rfl⟩
set_option maxHeartbeats 8000000 in
theorem letO {m : Mp} {bc : Nat} {v : Value} {xl : Addr} {x : Ltr} (hx : LetE m v xl x) (hk : x.kind = 5 ∨ x.kind = 6 ∨ x.kind = 7) : WC 25 bc [.pointer (some ⟨bc, 0, none⟩), v, .pointer (some xl)] m 400000000000 (eBody x) := by
  obtain ⟨vb, vc, ve, w0, w1, w2, w3, w4, wa, w11, w12, w13, hb, hc, he_, r1, r2, r3, r4, r5, r6, k1, k64⟩ := hx
  intro A1 c1 out hl
  refine CSP_of [] Try.func25 rfl rfl rfl ?_
  unfold curE
  refine TS_seq ?_
  refine TS_seq ?_
  refine TS_region ?_
  refine VS_pure (P_move rfl) rfl rfl rfl ?_
  refine VS_pure (P_nilCheck rfl) rfl rfl rfl ?_
  refine VS_pure (P_fieldAddr fo32_0 rfl) rfl rfl rfl ?_
  refine VS_read (S_loadW sg5 rfl w0) rfl rfl rfl ?_
  refine VS_nil ?_
  refine QS_then ?_
  refine TS_block ?_
  refine TS_seq ?_
  refine TS_region ?_
  refine VS_pure (df (P_eql rfl rfl) (by omega)) rfl rfl rfl ?_
  refine VS_pure (P_assign rfl) rfl rfl rfl ?_
  refine VS_nil ?_
  refine QS_then ?_
  refine TS_false rfl ?_
  refine TS_seq ?_
  refine TS_region ?_
  refine VS_pure (df (P_eql rfl rfl) (by omega)) rfl rfl rfl ?_
  refine VS_pure (P_assign rfl) rfl rfl rfl ?_
  refine VS_nil ?_
  refine QS_then ?_
  refine TS_false rfl ?_
  refine TS_seq ?_
  refine TS_region ?_
  refine VS_pure (df (P_eql rfl rfl) (by omega)) rfl rfl rfl ?_
  refine VS_pure (P_assign rfl) rfl rfl rfl ?_
  refine VS_nil ?_
  refine QS_then ?_
  refine TS_false rfl ?_
  refine TS_skip ?_
  refine QS_block ?_
  refine QS_then ?_
  refine TS_seq ?_
  refine TS_region ?_
  refine VS_pure (P_move rfl) rfl rfl rfl ?_
  refine VS_pure (P_move rfl) rfl rfl rfl ?_
  refine VS_pure (P_nilCheck rfl) rfl rfl rfl ?_
  refine VS_pure (P_fieldAddr fo32_1 rfl) rfl rfl rfl ?_
  refine VS_step (S_callP cl47 rfl (.cons .here (.cons .here .nil)) (fun m' hm he => (numC (w1.mono hm) r1) A1 c1 (out) (by first | omega | (simp [be8_len]; omega))) rfl ?_ ?_) rfl
  · rintro v L' ⟨hn1, at_, rfl⟩
    refine QS_then_pan ?_
    exact QS_pan [] (Pick.nil _) ⟨(by cases hn1), at_, rfl⟩
  rintro v L' ⟨e1, hs1, rfl, A2, c2, rfl⟩
  unfold curE
  refine VS_nil ?_
  refine QS_then ?_
  refine TS_seq ?_
  refine TS_region ?_
  refine VS_pure (P_move rfl) rfl rfl rfl ?_
  refine VS_pure (P_nilCheck rfl) rfl rfl rfl ?_
  refine VS_pure (P_fieldAddr fo32_0 rfl) rfl rfl rfl ?_
  refine VS_read (S_loadW sg5 rfl w0) rfl rfl rfl ?_
  refine VS_nil ?_
  refine QS_then ?_
  refine TS_block ?_
  refine TS_seq ?_
  refine TS_region ?_
  refine VS_pure (df (P_eql rfl rfl) (by omega)) rfl rfl rfl ?_
  refine VS_pure (P_assign rfl) rfl rfl rfl ?_
  refine VS_nil ?_
  refine QS_then ?_
  refine TS_false rfl ?_
  refine TS_seq ?_
  refine TS_region ?_
  refine VS_pure (df (P_eql rfl rfl) (by omega)) rfl rfl rfl ?_
  refine VS_pure (P_assign rfl) rfl rfl rfl ?_
  refine VS_nil ?_
  refine QS_then ?_
  refine TS_false rfl ?_
  refine TS_seq ?_
  refine TS_region ?_
  refine VS_pure (df (P_eql rfl rfl) (by omega)) rfl rfl rfl ?_
  refine VS_pure (P_assign rfl) rfl rfl rfl ?_
  refine VS_nil ?_
  refine QS_then ?_
  refine TS_false rfl ?_
  refine TS_seq ?_
  refine TS_seq ?_
  refine TS_region ?_
  refine VS_pure (df (P_eql rfl rfl) (by omega)) rfl rfl rfl ?_
  refine VS_pure (P_assign rfl) rfl rfl rfl ?_
  refine VS_nil ?_
  refine QS_then ?_
  refine TS_false rfl ?_
  refine TS_region ?_
  refine VS_pure (df (P_eql rfl rfl) (by omega)) rfl rfl rfl ?_
  refine VS_pure (P_assign rfl) rfl rfl rfl ?_
  refine VS_nil ?_
  refine QS_then ?_
  refine TS_false rfl ?_
  refine TS_seq ?_
  refine TS_region ?_
  refine VS_pure (df (P_eql rfl rfl) (by omega)) rfl rfl rfl ?_
  refine VS_pure (P_assign rfl) rfl rfl rfl ?_
  refine VS_nil ?_
  refine QS_then ?_
  refine TS_false rfl ?_
  refine TS_skip ?_
  refine QS_block ?_
  cases hs1
  exact QS_retPN [] trivial (curE bc A2 c2 (out ++ be8 x.table)) (.cons .here (.cons .here (.nil _))) ⟨_, by rw [eBody, if_neg (by omega), if_neg (by omega), if_neg (by omega), if_neg (by omega), if_neg (by omega), if_neg (by omega), if_neg (by omega), if_neg (by omega)], rfl, _, _, rfl⟩
theorem letC {m : Mp} {bc : Nat} {v : Value} {xl : Addr} {x : Ltr} (hx : LetE m v xl x) (hk : known x.kind = true) : WC 25 bc [.pointer (some ⟨bc, 0, none⟩), v, .pointer (some xl)] m 400000000000 (eBody x) := by
  rcases known_or hk with h | h | h | h | h | h | h | h | h | h | h | h
  · exact let1 hx h
  · exact let2 hx h
  · exact let3 hx h
  · exact let4 hx h
  · exact letO hx (.inl h)
  · exact letO hx (.inr (.inl h))
  · exact letO hx (.inr (.inr h))
  · exact let8 hx h
  · exact let64 hx h
  · exact let65 hx h
  · exact let66 hx h
  · exact let67 hx h
end Go.Proofs.Ytbpihgphicmdiaa
