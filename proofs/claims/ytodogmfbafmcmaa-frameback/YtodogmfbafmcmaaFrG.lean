/- A part of the proof: contracts of functions of the program. No condition. -/
import Derived.Test.YtodogmfbafmcmaaFrF
namespace Go.Proofs.Ytodogmfbafmcmaa
open Go.Eng Fr

theorem hi_byte (n : Nat) (h : n ≤ 4096) : IntKind.u8.wrap ((n : Int) / 2 ^ Int.toNat 8) = ((UInt8.ofNat (n / 256)).toNat : Int) := by
  rw [IntKind.wrap_u8, UInt8.toNat_ofNat']
  have : (2 : Int) ^ Int.toNat 8 = 256 := by decide
  rw [this]
  omega
theorem lo_byte (n : Nat) : IntKind.u8.wrap (n : Int) = ((UInt8.ofNat n).toNat : Int) := by
  rw [IntKind.wrap_u8, UInt8.toNat_ofNat']
  omega
def WriteRes (h0 : Heap) (l : List UInt8) (v : Value) (h : Heap) : Prop :=
  if l.length = 0 then v = .tuple #[.slice none 0 0, .int .i64 2] ∧ h = h0
  else if 4096 < l.length then v = .tuple #[.slice none 0 0, .int .i64 3] ∧ h = h0
  else ∃ A c, v = .tuple #[.slice A (2 + l.length) c, .int .i64 0] ∧ Own (mp h) 5 1 A (2 + l.length) c ((hdr l.length ++ l).map byteV) ∧ Le (mp h0) (mp h) ∧ ∀ k o, mp h0 k = some o → inB A k = false

theorem Write_ok (h : Heap) (B : Option Addr) (cB : Nat) (l : List UInt8) (hB : Rd (mp h) B (l.map byteV)) (hlen : l.length ≤ 1000000) :
    C Try.prog 13 [.slice B l.length cB].toArray h (WriteRes h l) := by
  refine C_of [2, 3] Try.func13 rfl rfl rfl ?_
  by_cases h0 : l.length = 0
  · refine T_seq ?_
    refine T_region ?_
    refine V_pure (P_assign rfl) rfl rfl rfl ?_
    refine V_pure (P_assign rfl) rfl rfl rfl ?_
    refine V_nil ?_
    refine thenQ_normal ?_
    refine T_seq ?_
    refine T_region ?_
    refine V_pure (P_move rfl) rfl rfl rfl ?_
    refine V_pure (P_len il22 rfl) rfl rfl rfl ?_
    refine V_pure (P_assign rfl) rfl rfl rfl ?_
    refine V_nil ?_
    refine thenQ_normal ?_
    refine T_block ?_
    refine T_seq ?_
    refine T_region ?_
    refine V_pure (P_move rfl) rfl rfl rfl ?_
    refine V_pure (dt (P_eql rfl rfl) (by first | assumption | rfl | omega | decide)) rfl rfl rfl ?_
    refine V_pure (P_assign rfl) rfl rfl rfl ?_
    refine V_nil ?_
    refine thenQ_normal ?_
    refine T_true rfl ?_
    refine T_seq ?_
    refine T_region ?_
    refine V_pure (P_assign rfl) rfl rfl rfl ?_
    refine V_pure (P_assign rfl) rfl rfl rfl ?_
    refine V_nil ?_
    refine thenQ_normal ?_
    refine T_ret ?_
    refine blockQ_ret ?_
    refine retQ_ret rfl ?_
    unfold WriteRes
    rw [if_pos h0]
    exact ⟨rfl, rfl⟩
  · by_cases hbig : 4096 < l.length
    · refine T_seq ?_
      refine T_region ?_
      refine V_pure (P_assign rfl) rfl rfl rfl ?_
      refine V_pure (P_assign rfl) rfl rfl rfl ?_
      refine V_nil ?_
      refine thenQ_normal ?_
      refine T_seq ?_
      refine T_region ?_
      refine V_pure (P_move rfl) rfl rfl rfl ?_
      refine V_pure (P_len il22 rfl) rfl rfl rfl ?_
      refine V_pure (P_assign rfl) rfl rfl rfl ?_
      refine V_nil ?_
      refine thenQ_normal ?_
      refine T_block ?_
      refine T_seq ?_
      refine T_region ?_
      refine V_pure (P_move rfl) rfl rfl rfl ?_
      refine V_pure (df (P_eql rfl rfl) (by first | assumption | omega | decide | exact fun hx => hx (by assumption))) rfl rfl rfl ?_
      refine V_pure (P_assign rfl) rfl rfl rfl ?_
      refine V_nil ?_
      refine thenQ_normal ?_
      refine T_false rfl ?_
      refine T_seq ?_
      refine T_region ?_
      refine V_pure (P_move rfl) rfl rfl rfl ?_
      refine V_pure (dt (P_gtr rfl rfl) (by first | assumption | rfl | omega | decide)) rfl rfl rfl ?_
      refine V_pure (P_assign rfl) rfl rfl rfl ?_
      refine V_nil ?_
      refine thenQ_normal ?_
      refine T_true rfl ?_
      refine T_seq ?_
      refine T_region ?_
      refine V_pure (P_assign rfl) rfl rfl rfl ?_
      refine V_pure (P_assign rfl) rfl rfl rfl ?_
      refine V_nil ?_
      refine thenQ_normal ?_
      refine T_ret ?_
      refine blockQ_ret ?_
      refine retQ_ret rfl ?_
      unfold WriteRes
      rw [if_neg h0, if_pos hbig]
      exact ⟨rfl, rfl⟩
    · have e1 := hi_byte l.length (by omega)
      have e2 := lo_byte l.length
      refine T_seq ?_
      refine T_region ?_
      refine V_pure (P_assign rfl) rfl rfl rfl ?_
      refine V_pure (P_assign rfl) rfl rfl rfl ?_
      refine V_nil ?_
      refine thenQ_normal ?_
      refine T_seq ?_
      refine T_region ?_
      refine V_pure (P_move rfl) rfl rfl rfl ?_
      refine V_pure (P_len il22 rfl) rfl rfl rfl ?_
      refine V_pure (P_assign rfl) rfl rfl rfl ?_
      refine V_nil ?_
      refine thenQ_normal ?_
      refine T_block ?_
      refine T_seq ?_
      refine T_region ?_
      refine V_pure (P_move rfl) rfl rfl rfl ?_
      refine V_pure (df (P_eql rfl rfl) (by first | assumption | omega | decide | exact fun hx => hx (by assumption))) rfl rfl rfl ?_
      refine V_pure (P_assign rfl) rfl rfl rfl ?_
      refine V_nil ?_
      refine thenQ_normal ?_
      refine T_false rfl ?_
      refine T_seq ?_
      refine T_region ?_
      refine V_pure (P_move rfl) rfl rfl rfl ?_
      refine V_pure (df (P_gtr rfl rfl) (by first | assumption | omega | decide | exact fun hx => hx (by assumption))) rfl rfl rfl ?_
      refine V_pure (P_assign rfl) rfl rfl rfl ?_
      refine V_nil ?_
      refine thenQ_normal ?_
      refine T_false rfl ?_
      refine T_seq ?_
      refine T_region ?_
      refine V_pure (P_move rfl) rfl rfl rfl ?_
      refine V_pure (P_shr rfl rfl (by decide) (by decide) rfl) rfl rfl rfl ?_
      refine V_pure (P_conv_int us3 ik5 rfl rfl) rfl rfl rfl ?_
      refine V_pure (P_move rfl) rfl rfl rfl ?_
      refine V_pure (P_conv_int us3 ik5 rfl rfl) rfl rfl rfl ?_
      refine V_step (E_buildSlice sl22 rfl rfl rfl rfl (fun b1 h1 hn1 hb1 hl1 => ?_)) rfl
      replace hB := hB.mono hl1
      refine V_pure (P_move rfl) rfl rfl rfl ?_
      have hb2 : mp h1 b1 = some (.cells ((hdr l.length).map byteV).toArray 5 (0, 0)) := by
        rw [hb1]
        simp only [hdr, List.map_cons, List.map_nil, byteV]
        rw [← e1, ← e2]
        rfl
      refine V_step ((E_append (xs := (hdr l.length).map byteV) (news := l.map byteV) sl22 rfl rfl rfl rfl (Own.new hb2 rfl (by decide)) hB (by simp) (oneV_bytes _) (by simp only [maxLen]; omega) (by omega) rfl ?_)) rfl
      rintro A c h2 ho hg
      refine V_pure (P_assign rfl) rfl rfl rfl ?_
      refine V_pure (P_assign rfl) rfl rfl rfl ?_
      refine V_nil ?_
      refine thenQ_normal ?_
      refine T_ret ?_
      refine blockQ_ret ?_
      refine retQ_ret rfl ?_
      obtain ⟨hle, hO⟩ := hg.fresh hl1 hn1 rfl
      unfold WriteRes
      rw [if_neg h0, if_neg (by assumption)]
      exact ⟨A, c, rfl, by rw [List.map_append]; exact ho, hle, hO⟩
theorem WriteR_ok (h : Heap) (B : Option Addr) (cB : Nat) (l : List UInt8) (hB : Rd (mp h) B (l.map byteV)) (hlen : l.length ≤ 1000000) :
    C Try.prog 14 [.slice B l.length cB].toArray h (WriteRes h l) := by
  refine C_of [2, 3] Try.func14 rfl rfl rfl ?_
  by_cases h0 : l.length = 0
  · refine T_seq ?_
    refine T_region ?_
    refine V_pure (P_assign rfl) rfl rfl rfl ?_
    refine V_pure (P_assign rfl) rfl rfl rfl ?_
    refine V_nil ?_
    refine thenQ_normal ?_
    refine T_seq ?_
    refine T_seq ?_
    refine T_region ?_
    refine V_pure (P_move rfl) rfl rfl rfl ?_
    refine V_pure (P_len il22 rfl) rfl rfl rfl ?_
    refine V_pure (dt (P_eql rfl rfl) (by first | assumption | rfl | omega | decide)) rfl rfl rfl ?_
    refine V_nil ?_
    refine thenQ_normal ?_
    refine T_true rfl ?_
    refine T_seq ?_
    refine T_region ?_
    refine V_pure (P_assign rfl) rfl rfl rfl ?_
    refine V_pure (P_assign rfl) rfl rfl rfl ?_
    refine V_nil ?_
    refine thenQ_normal ?_
    refine T_ret ?_
    refine thenQ_ret ?_
    refine retQ_ret rfl ?_
    unfold WriteRes
    rw [if_pos h0]
    exact ⟨rfl, rfl⟩
  · by_cases hbig : 4096 < l.length
    · refine T_seq ?_
      refine T_region ?_
      refine V_pure (P_assign rfl) rfl rfl rfl ?_
      refine V_pure (P_assign rfl) rfl rfl rfl ?_
      refine V_nil ?_
      refine thenQ_normal ?_
      refine T_seq ?_
      refine T_seq ?_
      refine T_region ?_
      refine V_pure (P_move rfl) rfl rfl rfl ?_
      refine V_pure (P_len il22 rfl) rfl rfl rfl ?_
      refine V_pure (df (P_eql rfl rfl) (by first | assumption | omega | decide | exact fun hx => hx (by assumption))) rfl rfl rfl ?_
      refine V_nil ?_
      refine thenQ_normal ?_
      refine T_false rfl ?_
      refine T_skip ?_
      refine thenQ_normal ?_
      refine T_seq ?_
      refine T_seq ?_
      refine T_region ?_
      refine V_pure (P_move rfl) rfl rfl rfl ?_
      refine V_pure (P_len il22 rfl) rfl rfl rfl ?_
      refine V_pure (dt (P_gtr rfl rfl) (by first | assumption | rfl | omega | decide)) rfl rfl rfl ?_
      refine V_nil ?_
      refine thenQ_normal ?_
      refine T_true rfl ?_
      refine T_seq ?_
      refine T_region ?_
      refine V_pure (P_assign rfl) rfl rfl rfl ?_
      refine V_pure (P_assign rfl) rfl rfl rfl ?_
      refine V_nil ?_
      refine thenQ_normal ?_
      refine T_ret ?_
      refine thenQ_ret ?_
      refine retQ_ret rfl ?_
      unfold WriteRes
      rw [if_neg h0, if_pos hbig]
      exact ⟨rfl, rfl⟩
    · have e1 := hi_byte l.length (by omega)
      have e2 := lo_byte l.length
      refine T_seq ?_
      refine T_region ?_
      refine V_pure (P_assign rfl) rfl rfl rfl ?_
      refine V_pure (P_assign rfl) rfl rfl rfl ?_
      refine V_nil ?_
      refine thenQ_normal ?_
      refine T_seq ?_
      refine T_seq ?_
      refine T_region ?_
      refine V_pure (P_move rfl) rfl rfl rfl ?_
      refine V_pure (P_len il22 rfl) rfl rfl rfl ?_
      refine V_pure (df (P_eql rfl rfl) (by first | assumption | omega | decide | exact fun hx => hx (by assumption))) rfl rfl rfl ?_
      refine V_nil ?_
      refine thenQ_normal ?_
      refine T_false rfl ?_
      refine T_skip ?_
      refine thenQ_normal ?_
      refine T_seq ?_
      refine T_seq ?_
      refine T_region ?_
      refine V_pure (P_move rfl) rfl rfl rfl ?_
      refine V_pure (P_len il22 rfl) rfl rfl rfl ?_
      refine V_pure (df (P_gtr rfl rfl) (by first | assumption | omega | decide | exact fun hx => hx (by assumption))) rfl rfl rfl ?_
      refine V_nil ?_
      refine thenQ_normal ?_
      refine T_false rfl ?_
      refine T_skip ?_
      refine thenQ_normal ?_
      refine T_seq ?_
      refine T_region ?_
      refine V_pure (P_move rfl) rfl rfl rfl ?_
      refine V_pure (P_len il22 rfl) rfl rfl rfl ?_
      refine V_pure (P_shr rfl rfl (by decide) (by decide) rfl) rfl rfl rfl ?_
      refine V_pure (P_conv_int us3 ik5 rfl rfl) rfl rfl rfl ?_
      refine V_pure (P_move rfl) rfl rfl rfl ?_
      refine V_pure (P_len il22 rfl) rfl rfl rfl ?_
      refine V_pure (P_conv_int us3 ik5 rfl rfl) rfl rfl rfl ?_
      refine V_step (E_buildSlice sl22 rfl rfl rfl rfl (fun b1 h1 hn1 hb1 hl1 => ?_)) rfl
      replace hB := hB.mono hl1
      refine V_pure (P_assign rfl) rfl rfl rfl ?_
      refine V_nil ?_
      refine thenQ_normal ?_
      refine T_seq ?_
      refine T_region ?_
      refine V_pure (P_move rfl) rfl rfl rfl ?_
      refine V_pure (P_move rfl) rfl rfl rfl ?_
      have hb2 : mp h1 b1 = some (.cells ((hdr l.length).map byteV).toArray 5 (0, 0)) := by
        rw [hb1]
        simp only [hdr, List.map_cons, List.map_nil, byteV]
        rw [← e1, ← e2]
        rfl
      refine V_step ((E_append (xs := (hdr l.length).map byteV) (news := l.map byteV) sl22 rfl rfl rfl rfl (Own.new hb2 rfl (by decide)) hB (by simp) (oneV_bytes _) (by simp only [maxLen]; omega) (by omega) rfl ?_)) rfl
      rintro A c h2 ho hg
      refine V_pure (P_assign rfl) rfl rfl rfl ?_
      refine V_pure (P_assign rfl) rfl rfl rfl ?_
      refine V_nil ?_
      refine thenQ_normal ?_
      refine T_ret ?_
      refine retQ_ret rfl ?_
      obtain ⟨hle, hO⟩ := hg.fresh hl1 hn1 rfl
      unfold WriteRes
      rw [if_neg h0, if_neg (by assumption)]
      exact ⟨A, c, rfl, by rw [List.map_append]; exact ho, hle, hO⟩

theorem loads_ok (h : Heap) (A B : Option Addr) (ca cb : Nat) (ss ts : List (Option Addr × Nat × Nat)) (ls ms : List (List UInt8)) (hA : Rd (mp h) A (ss.map slv)) (hB : Rd (mp h) B (ts.map slv)) (rA : Rows (mp h) ss ls) (rB : Rows (mp h) ts ms)
    (hl : ls.length ≤ 1000000) (hm : ms.length ≤ 1000000) :
    C Try.prog 15 [.slice A ls.length ca, .slice B ms.length cb].toArray h fun v h' => v = .bool (decide (ls = ms)) ∧ h' = h := by
  refine C_of [4] Try.func15 rfl rfl rfl ?_
  by_cases hlen : ls.length = ms.length
  · refine T_seq ?_
    refine T_region ?_
    refine V_pure (P_assign rfl) rfl rfl rfl ?_
    refine V_nil ?_
    refine thenQ_normal ?_
    refine T_seq ?_
    refine T_seq ?_
    refine T_region ?_
    refine V_pure (P_move rfl) rfl rfl rfl ?_
    refine V_pure (P_len il31 rfl) rfl rfl rfl ?_
    refine V_pure (P_move rfl) rfl rfl rfl ?_
    refine V_pure (P_len il31 rfl) rfl rfl rfl ?_
    refine V_pure (df (P_neq rfl rfl) (by first | assumption | omega | decide | exact fun hx => hx (by assumption))) rfl rfl rfl ?_
    refine V_nil ?_
    refine thenQ_normal ?_
    refine T_false rfl ?_
    refine T_skip ?_
    refine thenQ_normal ?_
    refine T_seq ?_
    refine T_seq ?_
    refine T_region ?_
    refine V_pure (P_move rfl) rfl rfl rfl ?_
    refine V_pure (P_len il31 rfl) rfl rfl rfl ?_
    refine V_pure (P_move rfl) rfl rfl rfl ?_
    refine V_nil ?_
    refine thenQ_normal ?_
    refine T_block ?_
    refine T_loop (fun k : Nat => [(0, .slice A ls.length ca), (1, .slice B ms.length cb), (12, .int .i64 ls.length), (13, .int .i64 k)]) (fun k h' => h' = h ∧ k ≤ ls.length ∧ ls.take k = ms.take k) (fun k => ls.length - k) 0 ⟨rfl, rfl, rfl, rfl, trivial⟩ ⟨rfl, Nat.zero_le _, by simp⟩ ?_
    rintro k h ⟨rfl, hk, htk⟩
    by_cases hlt : k < ls.length
    · have hks : k < ss.length := by rw [rA.1]; exact hlt
      have hkt : k < ts.length := by rw [rB.1]; omega
      have hkm : k < ms.length := by omega
      have hcA : mc (mp h) ((sa A).add k) = some (slv ss[k]) := hA.map hks
      have hcB : mc (mp h) ((sa B).add k) = some (slv ts[k]) := hB.map hkt
      have hsA : A.isSome = true := hA.isSome (by simp; omega)
      have hsB : B.isSome = true := hB.isSome (by simp; omega)
      obtain ⟨ra1, ra2⟩ := rA.2 k ss[k] ls[k] (List.getElem?_eq_getElem hks) (List.getElem?_eq_getElem hlt)
      obtain ⟨rb1, rb2⟩ := rB.2 k ts[k] ms[k] (List.getElem?_eq_getElem hkt) (List.getElem?_eq_getElem hkm)
      have kA := Kept.mk hA
      have kB := Kept.mk hB
      clear hA hB
      have ra3 : ls[k].length = ss[k].2.1 := ra2.symm
      have rb3 : ms[k].length = ts[k].2.1 := rb2.symm
      by_cases he : ls[k] = ms[k]
      · refine T_seq ?_
        refine T_region ?_
        refine V_pure (dt (P_lss rfl rfl) (by first | assumption | rfl | omega | decide)) rfl rfl rfl ?_
        refine V_nil ?_
        refine thenQ_normal ?_
        refine T_seq ?_
        refine T_true rfl ?_
        refine T_skip ?_
        refine thenQ_normal ?_
        refine T_seq ?_
        refine T_block ?_
        refine T_seq ?_
        refine T_region ?_
        refine V_pure (P_move rfl) rfl rfl rfl ?_
        refine V_pure (P_assign rfl) rfl rfl rfl ?_
        refine V_nil ?_
        refine thenQ_normal ?_
        refine T_seq ?_
        refine T_draw [(0, .pure), (1, .pure), (2, .pure), (5, .pure), (6, .pure), (7, .pure), (3, .read), (4, .read), (8, .read), (9, .read), (10, .pure)] mixed (by kernel_rfl) (fun _ _ _ _ hq => hq) ?_
        refine VD_pure rfl (P_move rfl) rfl rfl rfl ?_
        refine VD_pure rfl (P_move rfl) rfl rfl rfl ?_
        refine VD_pure rfl (P_indexAddr1 ez31 rfl rfl hsA (by omega) (by omega)) rfl rfl rfl ?_
        refine VD_pure rfl (P_move rfl) rfl rfl rfl ?_
        refine VD_pure rfl (P_move rfl) rfl rfl rfl ?_
        refine VD_pure rfl (P_indexAddr1 ez31 rfl rfl hsB (by omega) (by omega)) rfl rfl rfl ?_
        refine VD_read rfl (R_load sg22 rfl hcA) rfl rfl rfl ?_
        refine VD_read rfl (R_bstr bt22 st9 rfl (by first | rfl | omega) ra1) rfl rfl rfl ?_
        refine VD_read rfl (R_load sg22 rfl hcB) rfl rfl rfl ?_
        refine VD_read rfl (R_bstr bt22 st9 rfl (by first | rfl | omega) rb1) rfl rfl rfl ?_
        refine VD_pure rfl (df (P_sneq rfl rfl) (by first | assumption | omega | decide | exact fun hx => hx (by assumption))) rfl rfl rfl ?_
        refine VD_nil ?_
        refine thenQ_normal ?_
        refine T_false rfl ?_
        refine T_skip ?_
        refine blockQ_normal ?_
        refine thenQ_normal ?_
        refine T_region ?_
        refine V_pure (P_add rfl rfl (w64 (by omega) (by omega))) rfl rfl rfl ?_
        refine V_pure (P_move rfl) rfl rfl rfl ?_
        refine V_nil ?_
        refine ⟨k + 1, ⟨rfl, rfl, rfl, rfl, trivial⟩, ⟨rfl, by omega, ?_⟩, by show ls.length - (k + 1) < ls.length - k; omega⟩
        rw [List.take_succ_eq_append_getElem hlt, List.take_succ_eq_append_getElem hkm, htk, he]
      · refine T_seq ?_
        refine T_region ?_
        refine V_pure (dt (P_lss rfl rfl) (by first | assumption | rfl | omega | decide)) rfl rfl rfl ?_
        refine V_nil ?_
        refine thenQ_normal ?_
        refine T_seq ?_
        refine T_true rfl ?_
        refine T_skip ?_
        refine thenQ_normal ?_
        refine T_seq ?_
        refine T_block ?_
        refine T_seq ?_
        refine T_region ?_
        refine V_pure (P_move rfl) rfl rfl rfl ?_
        refine V_pure (P_assign rfl) rfl rfl rfl ?_
        refine V_nil ?_
        refine thenQ_normal ?_
        refine T_seq ?_
        refine T_draw [(0, .pure), (1, .pure), (2, .pure), (5, .pure), (6, .pure), (7, .pure), (3, .read), (4, .read), (8, .read), (9, .read), (10, .pure)] mixed (by kernel_rfl) (fun _ _ _ _ hq => hq) ?_
        refine VD_pure rfl (P_move rfl) rfl rfl rfl ?_
        refine VD_pure rfl (P_move rfl) rfl rfl rfl ?_
        refine VD_pure rfl (P_indexAddr1 ez31 rfl rfl hsA (by omega) (by omega)) rfl rfl rfl ?_
        refine VD_pure rfl (P_move rfl) rfl rfl rfl ?_
        refine VD_pure rfl (P_move rfl) rfl rfl rfl ?_
        refine VD_pure rfl (P_indexAddr1 ez31 rfl rfl hsB (by omega) (by omega)) rfl rfl rfl ?_
        refine VD_read rfl (R_load sg22 rfl hcA) rfl rfl rfl ?_
        refine VD_read rfl (R_bstr bt22 st9 rfl (by first | rfl | omega) ra1) rfl rfl rfl ?_
        refine VD_read rfl (R_load sg22 rfl hcB) rfl rfl rfl ?_
        refine VD_read rfl (R_bstr bt22 st9 rfl (by first | rfl | omega) rb1) rfl rfl rfl ?_
        refine VD_pure rfl (dt (P_sneq rfl rfl) (by first | assumption | rfl | omega | decide)) rfl rfl rfl ?_
        refine VD_nil ?_
        refine thenQ_normal ?_
        refine T_true rfl ?_
        refine T_seq ?_
        refine T_region ?_
        refine V_pure (P_assign rfl) rfl rfl rfl ?_
        refine V_nil ?_
        refine thenQ_normal ?_
        refine T_ret ?_
        refine blockQ_ret ?_
        refine thenQ_ret ?_
        refine roundQ_ret ?_
        refine blockQ_ret ?_
        refine thenQ_ret ?_
        refine retQ_ret1 rfl ?_
        refine ⟨?_, rfl⟩
        rw [decide_eq_false]
        rintro rfl
        exact he rfl
    · refine T_seq ?_
      refine T_region ?_
      refine V_pure (df (P_lss rfl rfl) (by first | assumption | omega | decide | exact fun hx => hx (by assumption))) rfl rfl rfl ?_
      refine V_nil ?_
      refine thenQ_normal ?_
      refine T_seq ?_
      refine T_false rfl ?_
      refine T_exit ?_
      refine thenQ_exit ?_
      refine roundQ_exit ?_
      refine blockQ_here ?_
      refine thenQ_normal ?_
      refine T_seq ?_
      refine T_region ?_
      refine V_pure (P_assign rfl) rfl rfl rfl ?_
      refine V_nil ?_
      refine thenQ_normal ?_
      refine T_ret ?_
      refine retQ_ret1 rfl ?_
      refine ⟨?_, rfl⟩
      rw [List.take_of_length_le (by omega), List.take_of_length_le (by omega)] at htk
      rw [decide_eq_true htk]
  · refine T_seq ?_
    refine T_region ?_
    refine V_pure (P_assign rfl) rfl rfl rfl ?_
    refine V_nil ?_
    refine thenQ_normal ?_
    refine T_seq ?_
    refine T_seq ?_
    refine T_region ?_
    refine V_pure (P_move rfl) rfl rfl rfl ?_
    refine V_pure (P_len il31 rfl) rfl rfl rfl ?_
    refine V_pure (P_move rfl) rfl rfl rfl ?_
    refine V_pure (P_len il31 rfl) rfl rfl rfl ?_
    refine V_pure (dt (P_neq rfl rfl) (by first | assumption | rfl | omega | decide)) rfl rfl rfl ?_
    refine V_nil ?_
    refine thenQ_normal ?_
    refine T_true rfl ?_
    refine T_seq ?_
    refine T_region ?_
    refine V_pure (P_assign rfl) rfl rfl rfl ?_
    refine V_nil ?_
    refine thenQ_normal ?_
    refine T_ret ?_
    refine thenQ_ret ?_
    refine retQ_ret1 rfl ?_
    exact ⟨by rw [decide_eq_false]; intro e; exact hlen (congrArg List.length e), rfl⟩
end Go.Proofs.Ytodogmfbafmcmaa
