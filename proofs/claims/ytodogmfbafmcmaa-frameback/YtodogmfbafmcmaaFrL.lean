/- A part of the proof: contracts of functions of the program. No condition. -/
import Derived.Test.YtodogmfbafmcmaaFrK
namespace Go.Proofs.Ytodogmfbafmcmaa
open Go.Eng Fr

def intV (z : Int) : Value := .int .i64 z
structure Go3 where
  i : Nat
  k : Nat
  p : List UInt8
  d : Nat
  need : Int
  st : Value
  br : Bool
  A : Option Addr
  c : Nat
  E : Option Addr
  ce : Nat
  O : Option Addr
  cO : Nat
  os : List (Option Addr × Nat × Nat)
  B : Option Addr
  cB : Nat
  rest : List UInt8
structure BackInv (hb : Heap) (g : Nat) (ls : List (List UInt8)) (tl : List UInt8) (y : Go3) (h : Heap) : Prop where
  told : Told hb g ls y.p y.d y.need y.st y.br [] y.A y.c y.E y.ce y.O y.cO y.os y.k h
  fits : Fits g y.p y.d y.need y.st y.br
  okp : okP y.p
  rd : Rd (mp hb) y.B (y.rest.map byteV)
  rc : y.rest.length ≤ y.cB
  same : y.br = false → y.p ++ y.rest = strm (ls.drop y.k) ++ tl
  done : y.br = true → y.k = ls.length ∧ tl ≠ []
  cnt : y.i + y.rest.length ≤ 20000
  pl : y.p.length ≤ 20000

theorem back_core (h : Heap) (a : Option Addr) (ca : Nat) (ss : List (Option Addr × Nat × Nat)) (ls : List (List UInt8)) (b : Option Addr) (cb : Nat) (zs : List Int) (br : Bool) (e : Option Addr) (ce : Nat) (more : List UInt8)
    (ra : Rd (mp h) a (ss.map slv)) (rows : Rows (mp h) ss ls) (hca : ls.length ≤ ca) (hcm : ca ≤ maxLen) (rb : Rd (mp h) b (zs.map intV)) (hz : zs.length ≤ maxLen) (hzr : ∀ z ∈ zs, -9223372036854775808 ≤ z ∧ z ≤ 9223372036854775807)
    (re : Rd (mp h) e (more.map byteV)) (hm : more.length ≤ maxLen) :
    C Try.prog 5 [.slice a ls.length ca, .slice b zs.length cb, .bool br, .slice e more.length ce].toArray h fun v h' => v = .bool true ∧ Le (mp h) (mp h') := by
  simp only [maxLen] at hcm hz hm
  obtain ⟨V, hV⟩ : ∃ V, V = Value.bool br := ⟨_, rfl⟩
  rw [← hV]
  refine C_of [8] Try.func5 rfl rfl rfl ?_
  by_cases h20 : 20 < ls.length
  · refine T_seq ?_
    refine T_region ?_
    refine V_pure (P_assign rfl) rfl rfl rfl ?_
    refine V_nil ?_
    refine thenQ_normal ?_
    refine T_seq ?_
    refine T_seq ?_
    refine T_region ?_
    refine V_pure (P_move rfl) rfl rfl rfl ?_
    refine V_pure (P_len il31 rfl) rfl rfl rfl ?_
    refine V_pure (dt (P_gtr rfl rfl) (by first | assumption | rfl | omega | decide)) rfl rfl rfl ?_
    refine V_pure (P_move rfl) rfl rfl rfl ?_
    refine V_skip rfl rfl rfl ?_
    refine V_skip rfl rfl rfl ?_
    refine V_skip rfl rfl rfl ?_
    refine V_pure (P_pick_t rfl rfl) rfl rfl rfl ?_
    refine V_nil ?_
    refine thenQ_normal ?_
    refine T_true rfl ?_
    refine T_seq ?_
    refine T_region ?_
    refine V_step (E_call cl10 rfl ((wakes_ok h)) rfl ?_) rfl
    rintro _ h2 ⟨rfl, hl⟩
    refine V_pure (P_assign rfl) rfl rfl rfl ?_
    refine V_nil ?_
    refine thenQ_normal ?_
    refine T_ret ?_
    refine thenQ_ret ?_
    refine retQ_ret1 rfl ?_
    exact ⟨rfl, hl⟩
  by_cases h1000 : 1000 < more.length
  · refine T_seq ?_
    refine T_region ?_
    refine V_pure (P_assign rfl) rfl rfl rfl ?_
    refine V_nil ?_
    refine thenQ_normal ?_
    refine T_seq ?_
    refine T_seq ?_
    refine T_region ?_
    refine V_pure (P_move rfl) rfl rfl rfl ?_
    refine V_pure (P_len il31 rfl) rfl rfl rfl ?_
    refine V_pure (df (P_gtr rfl rfl) (by first | assumption | omega | decide | exact fun hx => hx (by assumption))) rfl rfl rfl ?_
    refine V_pure (P_move rfl) rfl rfl rfl ?_
    refine V_pure (P_move rfl) rfl rfl rfl ?_
    refine V_pure (P_len il22 rfl) rfl rfl rfl ?_
    refine V_pure (dt (P_gtr rfl rfl) (by first | assumption | rfl | omega | decide)) rfl rfl rfl ?_
    refine V_pure (P_pick_f rfl rfl) rfl rfl rfl ?_
    refine V_nil ?_
    refine thenQ_normal ?_
    refine T_true rfl ?_
    refine T_seq ?_
    refine T_region ?_
    refine V_step (E_call cl10 rfl ((wakes_ok h)) rfl ?_) rfl
    rintro _ h2 ⟨rfl, hl⟩
    refine V_pure (P_assign rfl) rfl rfl rfl ?_
    refine V_nil ?_
    refine thenQ_normal ?_
    refine T_ret ?_
    refine thenQ_ret ?_
    refine retQ_ret1 rfl ?_
    exact ⟨rfl, hl⟩
  refine T_seq ?_
  refine T_region ?_
  refine V_pure (P_assign rfl) rfl rfl rfl ?_
  refine V_nil ?_
  refine thenQ_normal ?_
  refine T_seq ?_
  refine T_seq ?_
  refine T_region ?_
  refine V_pure (P_move rfl) rfl rfl rfl ?_
  refine V_pure (P_len il31 rfl) rfl rfl rfl ?_
  refine V_pure (df (P_gtr rfl rfl) (by first | assumption | omega | decide | exact fun hx => hx (by assumption))) rfl rfl rfl ?_
  refine V_pure (P_move rfl) rfl rfl rfl ?_
  refine V_pure (P_move rfl) rfl rfl rfl ?_
  refine V_pure (P_len il22 rfl) rfl rfl rfl ?_
  refine V_pure (df (P_gtr rfl rfl) (by first | assumption | omega | decide | exact fun hx => hx (by assumption))) rfl rfl rfl ?_
  refine V_pure (P_pick_f rfl rfl) rfl rfl rfl ?_
  refine V_nil ?_
  refine thenQ_normal ?_
  refine T_false rfl ?_
  refine T_skip ?_
  refine thenQ_normal ?_
  refine T_seq ?_
  refine T_region ?_
  refine V_pure (P_assign rfl) rfl rfl rfl ?_
  refine V_nil ?_
  refine thenQ_normal ?_
  refine T_seq ?_
  refine T_seq ?_
  refine T_region ?_
  refine V_pure (P_move rfl) rfl rfl rfl ?_
  refine V_pure (P_len il31 rfl) rfl rfl rfl ?_
  refine V_pure (P_move rfl) rfl rfl rfl ?_
  refine V_nil ?_
  refine thenQ_normal ?_
  refine T_block ?_
  refine T_loop (fun y : Nat × Option Addr × Nat => [(0, .slice a ls.length ca), (1, .slice b zs.length cb), (2, V), (3, .slice e more.length ce), (9, .slice y.2.1 (strm (ls.take y.1)).length y.2.2), (34, .slice a ls.length ca), (35, .int .i64 ls.length), (36, .int .i64 y.1)])
    (fun y h1 => y.1 ≤ ls.length ∧ Small (ls.take y.1) ∧ Own (mp h1) 5 1 y.2.1 (strm (ls.take y.1)).length y.2.2 ((strm (ls.take y.1)).map byteV) ∧ Le (mp h) (hideO (mp h1) y.2.1))
    (fun y => ls.length - y.1) (0, none, 0) ⟨rfl, rfl, rfl, rfl, rfl, rfl, rfl, rfl, trivial⟩ ⟨Nat.zero_le _, fun l hl => by (simp at hl), Own.nil _ _ _, fun k o hk => hideP_mk hk rfl⟩ ?_
  rintro ⟨k, A, c⟩ h1 ⟨hk, hsm, hown, hle⟩
  simp only at hk hsm hown hle ⊢
  have hsl := strm_length _ hsm
  rw [List.length_take, Nat.min_eq_left hk] at hsl
  by_cases hlt : k < ls.length
  · have hks : k < ss.length := by rw [rows.1]; exact hlt
    have hle1 := hle.trans (hideO_le _ _)
    have hcA : mc (mp h1) ((sa a).add k) = some (slv ss[k]) := (ra.mono hle1).map hks
    have hsA : a.isSome = true := ra.isSome (by simp; omega)
    obtain ⟨ra1, ra2⟩ := rows.2 k ss[k] ls[k] (List.getElem?_eq_getElem hks) (List.getElem?_eq_getElem hlt)
    have ra1' := ra1.mono hle1
    have htk := strm_take_succ hlt
    have htl : ls.take (k + 1) = ls.take k ++ [ls[k]] := List.take_succ_eq_append_getElem hlt
    generalize ss[k] = s at *
    generalize ls[k] = l at *
    obtain ⟨B, n, cB⟩ := s
    simp only [slv] at hcA ra1 ra2 ra1'
    subst ra2
    have ka := Kept.mk ra
    have kb := Kept.mk rb
    have ke := Kept.mk re
    clear ra rb re ra1
    by_cases hs1 : 1 ≤ l.length ∧ l.length ≤ 500
    · obtain ⟨hs1, hs2⟩ := hs1
      refine T_seq ?_
      refine T_region ?_
      refine V_pure (dt (P_lss rfl rfl) (by first | assumption | rfl | omega | decide)) rfl rfl rfl ?_
      refine V_nil ?_
      refine thenQ_normal ?_
      refine T_seq ?_
      refine T_true rfl ?_
      refine T_skip ?_
      refine thenQ_normal ?_
      refine T_seq ?_
      refine T_block ?_
      refine T_seq ?_
      refine T_region ?_
      refine V_pure (P_indexAddr1 ez31 rfl rfl hsA (by omega) (by omega)) rfl rfl rfl ?_
      refine V_read (R_load sg22 rfl hcA) rfl rfl rfl ?_
      refine V_pure (P_assign rfl) rfl rfl rfl ?_
      refine V_nil ?_
      refine thenQ_normal ?_
      refine T_seq ?_
      refine T_seq ?_
      refine T_region ?_
      refine V_pure (P_move rfl) rfl rfl rfl ?_
      refine V_pure (P_len il22 rfl) rfl rfl rfl ?_
      refine V_pure (df (P_lss rfl rfl) (by first | assumption | omega | decide | exact fun hx => hx (by assumption))) rfl rfl rfl ?_
      refine V_pure (P_move rfl) rfl rfl rfl ?_
      refine V_pure (P_move rfl) rfl rfl rfl ?_
      refine V_pure (P_len il22 rfl) rfl rfl rfl ?_
      refine V_pure (df (P_gtr rfl rfl) (by first | assumption | omega | decide | exact fun hx => hx (by assumption))) rfl rfl rfl ?_
      refine V_pure (P_pick_f rfl rfl) rfl rfl rfl ?_
      refine V_nil ?_
      refine thenQ_normal ?_
      refine T_false rfl ?_
      refine T_skip ?_
      refine thenQ_normal ?_
      refine T_seq ?_
      refine T_region ?_
      refine V_pure (P_move rfl) rfl rfl rfl ?_
      refine V_step (E_call cl13 rfl ((Write_ok h1 B cB l ra1' (by omega))) rfl ?_) rfl
      rintro v3 h2 r3
      unfold WriteRes at r3
      rw [if_neg (by omega), if_neg (by omega)] at r3
      obtain ⟨A3, c3, rfl, ho3, le3, _⟩ := r3
      have hown2 := hown.mono le3
      have hl2 : (hdr l.length ++ l).length = 2 + l.length := by simp [hdr]; omega
      have hr3 := ho3.rd
      clear hcA ra1' hown ho3
      refine V_pure (P_move rfl) rfl rfl rfl ?_
      refine V_pure (P_extract rfl rfl) rfl rfl rfl ?_
      refine V_pure (P_extract rfl rfl) rfl rfl rfl ?_
      refine V_pure (P_assign rfl) rfl rfl rfl ?_
      refine V_pure (P_assign rfl) rfl rfl rfl ?_
      refine V_nil ?_
      refine thenQ_normal ?_
      refine T_seq ?_
      refine T_seq ?_
      refine T_region ?_
      refine V_pure (P_move rfl) rfl rfl rfl ?_
      refine V_pure (df (P_neq rfl rfl) (by first | assumption | omega | decide | exact fun hx => hx (by assumption))) rfl rfl rfl ?_
      refine V_pure (P_move rfl) rfl rfl rfl ?_
      refine V_pure (P_move rfl) rfl rfl rfl ?_
      refine V_pure (P_len il22 rfl) rfl rfl rfl ?_
      refine V_pure (P_move rfl) rfl rfl rfl ?_
      refine V_pure (P_len il22 rfl) rfl rfl rfl ?_
      refine V_pure (P_add rfl rfl (w64 (by omega) (by omega))) rfl rfl rfl ?_
      refine V_pure (df (P_neq rfl rfl) (by first | assumption | omega | decide | exact fun hx => hx (by assumption))) rfl rfl rfl ?_
      refine V_pure (P_pick_f rfl rfl) rfl rfl rfl ?_
      refine V_nil ?_
      refine thenQ_normal ?_
      refine T_false rfl ?_
      refine T_skip ?_
      refine thenQ_normal ?_
      refine T_region ?_
      refine V_pure (P_move rfl) rfl rfl rfl ?_
      refine V_pure (P_move rfl) rfl rfl rfl ?_
      refine V_step ((E_append (news := (hdr l.length ++ l).map byteV) sl22 rfl rfl rfl rfl hown2 hr3 (by rw [List.length_map, hl2]; omega) (oneV_bytes _) (by simp only [maxLen]; omega) (by omega) rfl ?_)) rfl
      rintro A' c' h3 ho hg
      refine V_pure (P_assign rfl) rfl rfl rfl ?_
      refine V_nil ?_
      refine blockQ_normal ?_
      refine thenQ_normal ?_
      refine T_region ?_
      refine V_pure (P_add rfl rfl (w64 (by omega) (by omega))) rfl rfl rfl ?_
      refine V_pure (P_move rfl) rfl rfl rfl ?_
      refine V_nil ?_
      have hlen : (strm (ls.take (k + 1))).length = (strm (ls.take k)).length + (2 + l.length) := by rw [htk, List.length_append, frm_length]; omega
      refine ⟨(k + 1, A', c'), ⟨rfl, rfl, rfl, rfl, by rw [hlen]; rfl, rfl, rfl, rfl, trivial⟩, ⟨by omega, ?_, ?_, ?_⟩, by show ls.length - (k + 1) < ls.length - k; omega⟩
      · simp only
        rw [htl]
        intro x hx
        rcases List.mem_append.1 hx with hx | hx
        · exact hsm x hx
        · simp at hx; subst hx; exact ⟨hs1, hs2⟩
      · simp only
        rw [hlen, htk, List.map_append]
        exact ho
      · exact hle.trans ((hideO_mono le3 A).trans hg.rest)
    · by_cases h0 : l.length < 1
      · refine T_seq ?_
        refine T_region ?_
        refine V_pure (dt (P_lss rfl rfl) (by first | assumption | rfl | omega | decide)) rfl rfl rfl ?_
        refine V_nil ?_
        refine thenQ_normal ?_
        refine T_seq ?_
        refine T_true rfl ?_
        refine T_skip ?_
        refine thenQ_normal ?_
        refine T_seq ?_
        refine T_block ?_
        refine T_seq ?_
        refine T_region ?_
        refine V_pure (P_indexAddr1 ez31 rfl rfl hsA (by omega) (by omega)) rfl rfl rfl ?_
        refine V_read (R_load sg22 rfl hcA) rfl rfl rfl ?_
        refine V_pure (P_assign rfl) rfl rfl rfl ?_
        refine V_nil ?_
        refine thenQ_normal ?_
        refine T_seq ?_
        refine T_seq ?_
        refine T_region ?_
        refine V_pure (P_move rfl) rfl rfl rfl ?_
        refine V_pure (P_len il22 rfl) rfl rfl rfl ?_
        refine V_pure (dt (P_lss rfl rfl) (by first | assumption | rfl | omega | decide)) rfl rfl rfl ?_
        refine V_pure (P_move rfl) rfl rfl rfl ?_
        refine V_skip rfl rfl rfl ?_
        refine V_skip rfl rfl rfl ?_
        refine V_skip rfl rfl rfl ?_
        refine V_pure (P_pick_t rfl rfl) rfl rfl rfl ?_
        refine V_nil ?_
        refine thenQ_normal ?_
        refine T_true rfl ?_
        refine T_seq ?_
        refine T_region ?_
        refine V_step (E_call cl10 rfl ((wakes_ok h1)) rfl ?_) rfl
        rintro _ h2 ⟨rfl, hl⟩
        refine V_pure (P_assign rfl) rfl rfl rfl ?_
        refine V_nil ?_
        refine thenQ_normal ?_
        refine T_ret ?_
        refine thenQ_ret ?_
        refine blockQ_ret ?_
        refine thenQ_ret ?_
        refine roundQ_ret ?_
        refine blockQ_ret ?_
        refine thenQ_ret ?_
        refine retQ_ret1 rfl ?_
        exact ⟨rfl, hle1.trans hl⟩
      · have h501 : 500 < l.length := by omega
        refine T_seq ?_
        refine T_region ?_
        refine V_pure (dt (P_lss rfl rfl) (by first | assumption | rfl | omega | decide)) rfl rfl rfl ?_
        refine V_nil ?_
        refine thenQ_normal ?_
        refine T_seq ?_
        refine T_true rfl ?_
        refine T_skip ?_
        refine thenQ_normal ?_
        refine T_seq ?_
        refine T_block ?_
        refine T_seq ?_
        refine T_region ?_
        refine V_pure (P_indexAddr1 ez31 rfl rfl hsA (by omega) (by omega)) rfl rfl rfl ?_
        refine V_read (R_load sg22 rfl hcA) rfl rfl rfl ?_
        refine V_pure (P_assign rfl) rfl rfl rfl ?_
        refine V_nil ?_
        refine thenQ_normal ?_
        refine T_seq ?_
        refine T_seq ?_
        refine T_region ?_
        refine V_pure (P_move rfl) rfl rfl rfl ?_
        refine V_pure (P_len il22 rfl) rfl rfl rfl ?_
        refine V_pure (df (P_lss rfl rfl) (by first | assumption | omega | decide | exact fun hx => hx (by assumption))) rfl rfl rfl ?_
        refine V_pure (P_move rfl) rfl rfl rfl ?_
        refine V_pure (P_move rfl) rfl rfl rfl ?_
        refine V_pure (P_len il22 rfl) rfl rfl rfl ?_
        refine V_pure (dt (P_gtr rfl rfl) (by first | assumption | rfl | omega | decide)) rfl rfl rfl ?_
        refine V_pure (P_pick_f rfl rfl) rfl rfl rfl ?_
        refine V_nil ?_
        refine thenQ_normal ?_
        refine T_true rfl ?_
        refine T_seq ?_
        refine T_region ?_
        refine V_step (E_call cl10 rfl ((wakes_ok h1)) rfl ?_) rfl
        rintro _ h2 ⟨rfl, hl⟩
        refine V_pure (P_assign rfl) rfl rfl rfl ?_
        refine V_nil ?_
        refine thenQ_normal ?_
        refine T_ret ?_
        refine thenQ_ret ?_
        refine blockQ_ret ?_
        refine thenQ_ret ?_
        refine roundQ_ret ?_
        refine blockQ_ret ?_
        refine thenQ_ret ?_
        refine retQ_ret1 rfl ?_
        exact ⟨rfl, hle1.trans hl⟩
  have hkk : k = ls.length := by omega
  subst hkk
  rw [List.take_length] at hsm hown hsl
  rw [List.take_length]
  refine T_seq ?_
  refine T_region ?_
  refine V_pure (df (P_lss rfl rfl) (by first | assumption | omega | decide | exact fun hx => hx (by assumption))) rfl rfl rfl ?_
  refine V_nil ?_
  refine thenQ_normal ?_
  refine T_seq ?_
  refine T_false rfl ?_
  refine T_exit ?_
  refine thenQ_exit ?_
  refine roundQ_exit ?_
  refine blockQ_here ?_
  refine thenQ_normal ?_
  refine T_seq ?_
  refine T_region ?_
  refine V_pure (P_move rfl) rfl rfl rfl ?_
  refine V_pure (P_len il22 rfl) rfl rfl rfl ?_
  refine V_pure (P_assign rfl) rfl rfl rfl ?_
  refine V_nil ?_
  refine thenQ_normal ?_
  refine T_seq ?_
  refine T_seq ?_
  refine T_region ?_
  refine V_pure (P_move rfl) rfl rfl rfl ?_
  refine V_nil ?_
  refine thenQ_normal ?_
  have htl : Tail (if br then 0 :: 0 :: more else []) := by
    cases br
    · exact .inl rfl
    · exact .inr ⟨more, rfl⟩
  have hcut : cutF (strm ls ++ (if br then 0 :: 0 :: more else [])) = (ls, (if br then 0 :: 0 :: more else []).length, br) := by
    rw [cut_strm ls _ hsm]
    cases br
    · simp [cut_nil]
    · rw [if_pos rfl, cut_zero]; simp
  have htlen : (if br then 0 :: 0 :: more else []).length ≤ 1002 := by
    cases br
    · simp
    · simp; omega
  have htb : (if br then 0 :: 0 :: more else []) = [] ↔ br = false := by cases br <;> simp
  refine T_cut (fun y : Option Addr × Nat => [(0, .slice a ls.length ca), (1, .slice b zs.length cb), (2, .bool br), (9, .slice y.1 (strm ls ++ (if br then 0 :: 0 :: more else [])).length y.2), (14, .int .i64 (strm ls).length)])
    (fun y h2 => Own (mp h2) 5 1 y.1 (strm ls ++ (if br then 0 :: 0 :: more else [])).length y.2 ((strm ls ++ (if br then 0 :: 0 :: more else [])).map byteV) ∧ Le (mp h) (mp h2)) ?_ ?_
  · subst hV
    cases br with
    | false =>
      refine T_false rfl ?_
      refine T_skip ?_
      refine ⟨(A, c), ⟨rfl, rfl, rfl, ?_, rfl, trivial⟩, ⟨?_, hle.trans (hideO_le _ _)⟩, Nat.zero_lt_one⟩
      · simp only [Bool.false_eq_true, if_false, List.append_nil]; rfl
      · simp only [Bool.false_eq_true, if_false, List.append_nil]; exact hown
    | true =>
      have ka := Kept.mk ra
      have kb := Kept.mk rb
      have ke := Kept.mk re
      have ko := Kept.mk hown
      have kl := Kept.mk hle
      clear ra rb re hown hle
      refine T_true rfl ?_
      refine T_region ?_
      refine V_pure (P_move rfl) rfl rfl rfl ?_
      refine V_step (E_buildSlice sl22 rfl rfl rfl rfl (fun b1 h2 hn1 hb1 hl1 => ?_)) rfl
      have hown2 := ko.out.mono hl1
      refine V_step ((E_append (news := [0, 0].map byteV) sl22 rfl rfl rfl rfl hown2 (Rd.blk hb1) rfl (oneV_bytes _) (by simp only [maxLen]; omega) (by omega) rfl ?_)) rfl
      rintro A2 c2 h3 ho3 hg3
      have hle3 : Le (mp h) (hideO (mp h3) A2) := kl.out.trans ((hideO_mono hl1 A).trans hg3.rest)
      have he3 := ke.out.mono (hle3.trans (hideO_le _ _))
      refine V_pure (P_move rfl) rfl rfl rfl ?_
      refine V_step ((E_append (news := more.map byteV) sl22 rfl rfl rfl rfl ho3 he3 (by simp) (oneV_bytes _) (by simp only [maxLen]; omega) (by omega) rfl ?_)) rfl
      rintro A4 c4 h4 ho4 hg4
      refine V_pure (P_assign rfl) rfl rfl rfl ?_
      refine V_nil ?_
      have hn : (strm ls ++ 0 :: 0 :: more).length = (strm ls).length + 2 + more.length := by simp; omega
      refine ⟨(A4, c4), ⟨rfl, rfl, rfl, ?_, rfl, trivial⟩, ⟨?_, hle3.trans (hg4.rest.trans (hideO_le _ _))⟩, Nat.zero_lt_one⟩
      · simp only [if_true]; rw [hn]; rfl
      · simp only [if_true]; rw [hn]
        simpa using ho4
  clear hown hle hV re hm h1000
  generalize (if br then 0 :: 0 :: more else []) = tl at *
  clear more
  rintro ⟨A9, c9⟩ h2 ⟨hall, hle⟩
  simp only at hall hle ⊢
  have hl9 : ((strm ls ++ tl).length : Int) = (strm ls).length + tl.length := by simp
  have hl9' : (strm ls ++ tl).length ≤ 12000 := by simp; omega
  have ra2 := ra.mono hle
  have rb2 := rb.mono hle
  have rows2 := rows.mono hle
  clear ra rb rows
  refine T_seq ?_
  refine T_region ?_
  refine V_pure (P_move rfl) rfl rfl rfl ?_
  refine V_step (E_call cl11 rfl ((Cut_ok h2 A9 c9 (strm ls ++ tl) hall.rd (by omega) hall.le)) rfl ?_) rfl
  rintro v3 h3 r3
  rw [hcut] at r3
  have q3 := cutRes_loads r3
  simp only at q3
  obtain ⟨X, cX, sX, rfl, rdX, rowX, leX⟩ := q3
  have ra3 := ra2.mono leX
  have rb3 := rb2.mono leX
  have rows3 := rows2.mono leX
  have rall3 := hall.rd.mono leX
  have hcap9 := hall.le
  have hle3 := hle.trans leX
  clear r3 ra2 rb2 rows2 hall leX hle h2
  refine V_pure (P_move rfl) rfl rfl rfl ?_
  refine V_pure (P_extract rfl rfl) rfl rfl rfl ?_
  refine V_pure (P_extract rfl rfl) rfl rfl rfl ?_
  refine V_pure (P_extract rfl rfl) rfl rfl rfl ?_
  refine V_pure (P_assign rfl) rfl rfl rfl ?_
  refine V_pure (P_assign rfl) rfl rfl rfl ?_
  refine V_pure (P_assign rfl) rfl rfl rfl ?_
  refine V_nil ?_
  refine thenQ_normal ?_
  refine T_seq ?_
  refine T_seq ?_
  refine T_region ?_
  refine V_pure (P_move rfl) rfl rfl rfl ?_
  refine V_pure (P_move rfl) rfl rfl rfl ?_
  refine V_step (E_call cl15 rfl ((loads_ok h3 X a _ _ sX ss ls ls rdX ra3 rowX rows3 (by omega) (by omega))) rfl ?_) rfl
  rintro v4 h3 ⟨hv4, rfl⟩
  rw [decide_eq_true rfl] at hv4
  subst hv4
  clear rdX rowX
  have hz70 : decide (¬ (if br = true then (70 : Int) else 0) = 0) = br := by cases br <;> rfl
  refine V_pure (P_not rfl) rfl rfl rfl ?_
  refine V_pure (P_move rfl) rfl rfl rfl ?_
  refine V_pure (P_move rfl) rfl rfl rfl ?_
  refine V_pure (P_move rfl) rfl rfl rfl ?_
  refine V_pure (P_len il22 rfl) rfl rfl rfl ?_
  refine V_pure (P_move rfl) rfl rfl rfl ?_
  refine V_pure (P_sub rfl rfl (w64 (by omega) (by omega))) rfl rfl rfl ?_
  refine V_pure (df (P_neq rfl rfl) (by first | assumption | omega | decide | exact fun hx => hx (by assumption))) rfl rfl rfl ?_
  refine V_pure (P_pick_f rfl rfl) rfl rfl rfl ?_
  refine V_pure (P_move rfl) rfl rfl rfl ?_
  refine V_pure (P_move rfl) rfl rfl rfl ?_
  refine V_pure ((pv (P_neq rfl rfl) hz70)) rfl rfl rfl ?_
  refine V_pure (P_move rfl) rfl rfl rfl ?_
  refine V_pure ((pv (P_bneq bo4 rfl rfl) (by simp : (br != br) = false))) rfl rfl rfl ?_
  refine V_pure (P_pick_f rfl rfl) rfl rfl rfl ?_
  refine V_nil ?_
  refine thenQ_normal ?_
  refine T_false rfl ?_
  refine T_skip ?_
  refine thenQ_normal ?_
  refine T_seq ?_
  refine T_region ?_
  refine V_step (E_call cl16 rfl ((New_ok h3)) rfl ?_) rfl
  rintro _ h4 ⟨g, rfl, hng, hg, hl4⟩
  refine V_pure (P_assign rfl) rfl rfl rfl ?_
  refine V_nil ?_
  refine thenQ_normal ?_
  refine T_seq ?_
  refine T_seq ?_
  refine T_region ?_
  refine V_pure (P_move rfl) rfl rfl rfl ?_
  refine V_pure (P_peql_nil pt23 rfl rfl) rfl rfl rfl ?_
  refine V_nil ?_
  refine thenQ_normal ?_
  refine T_false rfl ?_
  refine T_skip ?_
  refine thenQ_normal ?_
  refine T_seq ?_
  refine T_region ?_
  refine V_pure (P_assign rfl) rfl rfl rfl ?_
  refine V_nil ?_
  refine thenQ_normal ?_
  refine T_seq ?_
  refine T_seq ?_
  refine T_region ?_
  refine V_pure (P_assign rfl) rfl rfl rfl ?_
  refine V_nil ?_
  refine thenQ_normal ?_
  refine T_block ?_
  refine T_loop (fun y : Go3 => [(0, .slice a ls.length ca), (1, .slice b zs.length cb), (2, .bool br), (9, .slice y.B y.rest.length y.cB), (18, ptr g), (19, .slice y.O y.k y.cO), (20, .int .i64 y.i)])
    (BackInv h3 g ls tl) (fun y => y.rest.length) ⟨0, 0, [], 0, 0, stepV 17 g, false, none, 0, none, 0, none, 0, [], A9, c9, strm ls ++ tl⟩ ⟨rfl, rfl, rfl, rfl, rfl, rfl, rfl, trivial⟩
    ⟨⟨⟨hg, Own.nil _ _ _, Own.nil _ _ _⟩, Own.nil _ _ _, Rows.nil _, fun k o hk => hideP_mk (hl4 k o hk) (by have := ne_of hk hng; simp [regT, regS, inB, ownB, this]), Nat.zero_le _⟩, .inr ⟨rfl, rfl, rfl, rfl⟩, trivial, rall3, hcap9, fun _ => rfl, fun h => by (cases h), by simp only; omega, Nat.zero_le _⟩ ?_
  clear hg hng hl4 h4 rall3 hcap9 hl9 hl9' hz70
  rintro ⟨i, k, p, d, need, st, br', A, c, E, ce, O, cO, os, B, cB, rest⟩ h5 ⟨ht, hf, hp, hrd, hrc, hsame, hdone, hcnt, hpl⟩
  simp only at ht hf hp hrd hrc hsame hdone hcnt hpl ⊢
  have hle5 := ht.le.trans (hideP_le _ _)
  by_cases hr0 : rest.length = 0
  · have hr0' : rest = [] := List.eq_nil_of_length_eq_zero hr0
    obtain ⟨hk5, hbr5, hp5⟩ : k = ls.length ∧ br' = br ∧ p = [] := by
      cases br' with
      | false =>
        have h6 := hsame rfl
        rw [hr0', List.append_nil] at h6
        obtain ⟨g1, g2, g3⟩ := feed_end htl (hsm.drop k) hp h6
        have := congrArg List.length g1
        simp at this
        exact ⟨by have := ht.tle; omega, (htb.1 g2).symm, g3⟩
      | true =>
        obtain ⟨g1, g2⟩ := hdone rfl
        refine ⟨g1, ?_, hf.nil rfl⟩
        cases br with
        | true => rfl
        | false => exact absurd (htb.2 rfl) g2
    subst hbr5 hp5 hr0'
    subst hk5
    have rO := ht.own.rd
    have rowO := ht.rows.mono (hideP_le _ _)
    rw [List.take_length] at rowO
    have ra5 := ra3.mono hle5
    have rows5 := rows3.mono hle5
    have hcl := ht.rd.cells
    clear ht hrd hsame ra3 rows3 rb3
    refine T_seq ?_
    refine T_seq ?_
    refine T_region ?_
    refine V_pure (P_move rfl) rfl rfl rfl ?_
    refine V_pure (P_len il22 rfl) rfl rfl rfl ?_
    refine V_pure (df (P_gtr rfl rfl) (by first | assumption | omega | decide | exact fun hx => hx (by assumption))) rfl rfl rfl ?_
    refine V_nil ?_
    refine thenQ_normal ?_
    refine T_false rfl ?_
    refine T_exit ?_
    refine thenQ_exit ?_
    refine roundQ_exit ?_
    refine blockQ_here ?_
    refine thenQ_normal ?_
    refine T_seq ?_
    refine T_region ?_
    refine V_pure (P_move rfl) rfl rfl rfl ?_
    refine V_pure (P_move rfl) rfl rfl rfl ?_
    refine V_step (E_call cl15 rfl ((loads_ok h5 O a _ _ os ss ls ls rO ra5 rowO rows5 (by omega) (by omega))) rfl ?_) rfl
    rintro v4 h5 ⟨hv4, rfl⟩
    rw [decide_eq_true rfl] at hv4
    subst hv4
    refine V_pure (P_move rfl) rfl rfl rfl ?_
    refine V_pure (P_move rfl) rfl rfl rfl ?_
    refine V_step (E_call cl8 rfl ((Broken_ok h5 g _ _ _ _ _ _ hcl)) rfl ?_) rfl
    rintro _ h5 ⟨rfl, rfl⟩
    refine V_pure (P_move rfl) rfl rfl rfl ?_
    refine V_pure ((pv (P_beql bo4 rfl rfl) (by simp : (br' == br') = true))) rfl rfl rfl ?_
    refine V_pure (P_pick_t rfl rfl) rfl rfl rfl ?_
    refine V_pure (P_move rfl) rfl rfl rfl ?_
    refine V_pure (P_move rfl) rfl rfl rfl ?_
    refine V_step (E_call cl9 rfl ((Held_ok h5 g _ _ _ _ _ _ _ _ hcl)) rfl ?_) rfl
    rintro _ h5 ⟨rfl, rfl⟩
    refine V_pure (dt (P_eql rfl rfl) (by first | assumption | rfl | omega | decide)) rfl rfl rfl ?_
    refine V_pure (P_pick_t rfl rfl) rfl rfl rfl ?_
    refine V_pure (P_move rfl) rfl rfl rfl ?_
    refine V_step (E_call cl10 rfl ((wakes_ok h5)) rfl ?_) rfl
    rintro _ h6 ⟨rfl, le6⟩
    refine V_pure (P_pick_t rfl rfl) rfl rfl rfl ?_
    refine V_pure (P_assign rfl) rfl rfl rfl ?_
    refine V_nil ?_
    refine thenQ_normal ?_
    refine T_ret ?_
    refine retQ_ret1 rfl ?_
    exact ⟨rfl, (hle3.trans hle5).trans le6⟩
  have hdr2 : 0 < rest.length := by omega
  refine T_seq ?_
  refine T_seq ?_
  refine T_region ?_
  refine V_pure (P_move rfl) rfl rfl rfl ?_
  refine V_pure (P_len il22 rfl) rfl rfl rfl ?_
  refine V_pure (dt (P_gtr rfl rfl) (by first | assumption | rfl | omega | decide)) rfl rfl rfl ?_
  refine V_nil ?_
  refine thenQ_normal ?_
  refine T_true rfl ?_
  refine T_skip ?_
  refine thenQ_normal ?_
  refine T_seq ?_
  refine T_block ?_
  refine T_seq ?_
  refine T_region ?_
  refine V_pure (P_move rfl) rfl rfl rfl ?_
  refine V_pure (P_len il22 rfl) rfl rfl rfl ?_
  refine V_pure (P_assign rfl) rfl rfl rfl ?_
  refine V_nil ?_
  refine thenQ_normal ?_
  refine T_seq ?_
  refine T_seq ?_
  refine T_region ?_
  refine V_pure (P_move rfl) rfl rfl rfl ?_
  refine V_pure (P_len il38 rfl) rfl rfl rfl ?_
  refine V_pure ((P_gtr rfl rfl)) rfl rfl rfl ?_
  refine V_nil ?_
  refine thenQ_normal ?_
  skip
  refine T_cut (fun n : Nat => [(0, .slice a ls.length ca), (1, .slice b zs.length cb), (2, .bool br), (9, .slice B rest.length cB), (18, ptr g), (19, .slice O k cO), (20, .int .i64 i), (21, .int .i64 n)])
    (fun n h6 => h6 = h5 ∧ 1 ≤ n ∧ n ≤ rest.length) ?_ ?_
  · by_cases hzs : 0 < zs.length
    · have hmod : i % zs.length < zs.length := Nat.mod_lt _ hzs
      have hmi : (i : Int).tmod zs.length = ((i % zs.length : Nat) : Int) := (Int.ofNat_tmod _ _).symm
      generalize i % zs.length = q at hmod hmi
      have rb5 := rb3.mono hle5
      have hcz : mc (mp h5) ((sa b).add q) = some (intV zs[q]) := rb5.map hmod
      have hsb : b.isSome = true := rb5.isSome (by simp; omega)
      have hr1 := Int.tmod_lt_of_pos zs[q] (b := (rest.length : Int)) (by omega)
      have hr2 := Int.lt_tmod_of_pos zs[q] (b := (rest.length : Int)) (by omega)
      generalize hrr : zs[q].tmod (rest.length : Int) = r at hr1 hr2
      have kra := Kept.mk ra3
      have krb := Kept.mk rb3
      have kb5 := Kept.mk rb5
      clear ra3 rb3 rb5
      rw [decide_eq_true (by omega : (0 : Int) < zs.length)]
      refine T_true rfl ?_
      refine T_seq ?_
      refine T_region ?_
      refine V_pure (P_move rfl) rfl rfl rfl ?_
      refine V_pure (P_move rfl) rfl rfl rfl ?_
      refine V_pure (P_move rfl) rfl rfl rfl ?_
      refine V_pure (P_len il38 rfl) rfl rfl rfl ?_
      refine V_pure ((P_rem rfl rfl (by omega) hmi)) rfl rfl rfl ?_
      refine V_pure (P_indexAddr1 ez38 rfl rfl hsb (by omega) (by omega)) rfl rfl rfl ?_
      refine V_read (R_load sg3 rfl hcz) rfl rfl rfl ?_
      refine V_pure (P_move rfl) rfl rfl rfl ?_
      refine V_pure ((P_rem rfl rfl (by omega) hrr)) rfl rfl rfl ?_
      refine V_pure (P_assign rfl) rfl rfl rfl ?_
      refine V_nil ?_
      refine thenQ_normal ?_
      refine T_region ?_
      refine V_pure (P_move rfl) rfl rfl rfl ?_
      refine V_pure (P_move rfl) rfl rfl rfl ?_
      refine V_pure (P_neg rfl (w64 (by omega) (by omega))) rfl rfl rfl ?_
      refine V_pure (P_max3 rfl rfl rfl) rfl rfl rfl ?_
      refine V_pure (P_assign rfl) rfl rfl rfl ?_
      refine V_nil ?_
      refine ⟨(max (max r (0 - r)) 1).toNat, ⟨rfl, rfl, rfl, rfl, rfl, rfl, rfl, ?_, trivial⟩, ⟨rfl, by omega, by omega⟩, Nat.zero_lt_one⟩
      rw [Int.toNat_of_nonneg (by omega)]
      rfl
    · rw [decide_eq_false (by omega : ¬ (0 : Int) < zs.length)]
      refine T_false rfl ?_
      refine T_skip ?_
      exact ⟨rest.length, ⟨rfl, rfl, rfl, rfl, rfl, rfl, rfl, rfl, trivial⟩, ⟨rfl, by omega, Nat.le_refl _⟩, Nat.zero_lt_one⟩
  rintro n h5 ⟨rfl, hn1, hn2⟩
  have htkl : (rest.take n).length = n := by simp; omega
  have hBn : Rd (hideP (mp h5) (regS g A E)) (cutA B 0 cB 1) ((rest.take n).map byteV) := by
    rw [cutA_zero, List.map_take]
    exact (hrd.mono (ht.le.trans regT_S)).take n
  have hF := Feed_any h5 g p (rest.take n) d need st br' A c E ce (cutA B 0 cB 1) cB ht.rd hf hp hBn (by rw [htkl]; omega)
  rw [htkl] at hF
  refine T_seq ?_
  refine T_region ?_
  refine V_pure (P_move rfl) rfl rfl rfl ?_
  refine V_pure (P_move rfl) rfl rfl rfl ?_
  refine V_pure (P_move rfl) rfl rfl rfl ?_
  refine V_pure ((P_slice_h n ez22 rfl rfl rfl (by omega))) rfl rfl rfl ?_
  refine V_step (E_call cl7 rfl (hF) rfl ?_) rfl
  rintro _ h6 ⟨R', p', br2, d', need', st', A', c', E', ce', he, hf', hr', hch⟩
  obtain ⟨j, hkj, hR, hp', hsame', hdone'⟩ := step_strm htl hsm ht.tle n hp hsame (fun h => ⟨(hdone h).1, (hdone h).2, hf.nil h⟩) he
  subst hR
  have ht6 := ht.fed hch hr'
  have heq6 : ls.take k ++ (ls.drop k).take j = ls.take (k + j) := (List.take_add).symm
  have hLs := (strm_length ((ls.drop k).take j) ((hsm.drop k).take j))
  have hLl : ((ls.drop k).take j).length ≤ 20 := by simp; omega
  have hpl' : p'.length ≤ 13000 := by
    cases br2 with
    | true => rw [hf'.nil rfl]; exact Nat.zero_le _
    | false =>
      have h7 := congrArg List.length (hsame' rfl)
      have h8 := strm_length _ (hsm.drop (k + j))
      simp only [List.length_append, List.length_drop] at h7 h8
      omega
  have hd' := hf'.le
  generalize (ls.drop k).take j = Ls at *
  refine V_nil ?_
  refine thenQ_normal ?_
  refine T_seq ?_
  refine T_region ?_
  refine V_pure (P_move rfl) rfl rfl rfl ?_
  refine V_pure (P_move rfl) rfl rfl rfl ?_
  refine V_pure ((P_slice_l n ez22 rfl rfl rfl (by omega))) rfl rfl rfl ?_
  refine V_pure (P_assign rfl) rfl rfl rfl ?_
  refine V_nil ?_
  refine thenQ_normal ?_
  refine T_seq ?_
  refine T_region ?_
  refine V_pure (P_move rfl) rfl rfl rfl ?_
  refine V_step (E_call cl6 rfl ((Next_inv h3 h6 g ls (k + j) p' d' need' st' br2 Ls A' c' E' ce' O cO os k ht6 heq6 (by omega) hd')) rfl ?_) rfl
  rintro _ h7 ⟨s, x, ok, Ls', A7, c7, E7, ce7, rfl, hin, hmu⟩
  refine V_pure (P_move rfl) rfl rfl rfl ?_
  refine V_pure (P_extract rfl rfl) rfl rfl rfl ?_
  refine V_pure (P_extract rfl rfl) rfl rfl rfl ?_
  refine V_pure (P_assign rfl) rfl rfl rfl ?_
  refine V_pure (P_assign rfl) rfl rfl rfl ?_
  refine V_nil ?_
  refine thenQ_normal ?_
  refine T_block ?_
  refine T_loop (fun y : Gi => [(0, .slice a ls.length ca), (1, .slice b zs.length cb), (2, .bool br), (9, .slice (cutA B n cB 1) (rest.length - n) (cB - n)), (18, ptr g), (19, .slice y.O y.t y.cO), (20, .int .i64 i), (23, slv y.s), (24, .bool y.ok)])
    (fun y h8 => InInv h3 g ls (k + j) p' d' need' st' br2 y h8 ∧ y.Ls.length ≤ 20) (fun y => y.Ls.length + (if y.ok then 1 else 0)) ⟨s, x, ok, Ls', A7, c7, E7, ce7, O, cO, os, k⟩
    ⟨rfl, rfl, rfl, rfl, rfl, rfl, rfl, rfl, rfl, trivial⟩ ⟨hin, by simp only; omega⟩ ?_
  clear hin hmu ht6 heq6 hLs hLl ht hf hp hsame hdone he hr' hch hF hBn htkl
  clear s x ok Ls' A7 c7 E7 ce7 h7 h6 O cO os Ls A c E ce A' c' E' ce'
  rintro ⟨s, x, ok, Ls, A, c, E, ce, O, cO, os, t⟩ h8 ⟨⟨ht8, hrow8, heq8, hfin8⟩, hLl⟩
  simp only at ht8 hrow8 heq8 hfin8 hLl ⊢
  cases ok with
  | false =>
    refine T_seq ?_
    refine T_seq ?_
    refine T_region ?_
    refine V_pure (P_move rfl) rfl rfl rfl ?_
    refine V_nil ?_
    refine thenQ_normal ?_
    refine T_false rfl ?_
    refine T_exit ?_
    refine thenQ_exit ?_
    refine roundQ_exit ?_
    refine blockQ_here ?_
    refine blockQ_normal ?_
    refine thenQ_normal ?_
    refine T_region ?_
    refine V_pure (P_move rfl) rfl rfl rfl ?_
    refine V_pure (P_add rfl rfl (w64 (by omega) (by omega))) rfl rfl rfl ?_
    refine V_pure (P_assign rfl) rfl rfl rfl ?_
    refine V_nil ?_
    have htt : t = k + j := by
      have h9 := congrArg List.length heq8
      have h10 := ht8.tle
      simp at h9
      omega
    subst htt
    have hL0 := hfin8 rfl
    subst hL0
    refine ⟨⟨i + 1, k + j, p', d', need', st', br2, A, c, E, ce, O, cO, os, cutA B n cB 1, cB - n, rest.drop n⟩, ⟨rfl, rfl, rfl, ?_, rfl, rfl, rfl, trivial⟩, ⟨ht8, hf', hp', ?_, ?_, hsame', fun h => ⟨(hdone' h).1, (hdone' h).2.1⟩, ?_, by simp only; omega⟩, ?_⟩
    · simp only [List.length_drop]; rfl
    · have := hrd.cut (l := n) (mm := cB) (sz := 1) (rest.length - n) (by omega)
      rw [Nat.mul_one, Nat.mul_one, ← List.map_drop, ← List.map_take, List.take_of_length_le (by simp)] at this
      exact this
    · simp only [List.length_drop]; omega
    · simp only [List.length_drop]; omega
    · simp only [List.length_drop]; omega
  | true =>
    simp only [if_true] at heq8
    obtain ⟨htlt, hts⟩ := take_succ_of ht8.tle heq8
    have kt := Kept.mk ht8
    have kr := Kept.mk hrow8
    clear ht8 hrow8
    refine T_seq ?_
    refine T_seq ?_
    refine T_region ?_
    refine V_pure (P_move rfl) rfl rfl rfl ?_
    refine V_nil ?_
    refine thenQ_normal ?_
    refine T_true rfl ?_
    refine T_skip ?_
    refine thenQ_normal ?_
    refine T_seq ?_
    refine T_block ?_
    refine T_seq ?_
    refine T_region ?_
    refine V_pure (P_move rfl) rfl rfl rfl ?_
    refine V_pure (P_move rfl) rfl rfl rfl ?_
    refine V_step (E_buildSlice sl31 rfl rfl rfl rfl (fun b1 h2 hn3 hb1 hl1 => ?_)) rfl
    have hown9 := kt.out.own.mono hl1
    refine V_step ((E_append (news := [slv s]) sl31 rfl rfl rfl rfl hown9 (Rd.blk hb1) rfl (by simp [slv, oneV]) (by simp only [maxLen]; omega) (by omega) rfl ?_)) rfl
    rintro O' cO' h10 ho10 hg10
    have ht10 := kt.out.push hl1 hg10 ho10 kr.out hts htlt
    have heq10 : ls.take (t + 1) ++ Ls = ls.take (k + j) := by rw [hts, ← heq8]; simp
    have hLs := strm_length Ls (fun l hl => hsm l (List.mem_of_mem_take (by rw [← heq8]; simp [hl] : l ∈ ls.take (k + j))))
    clear hown9 hb1 hg10 ho10
    refine V_pure (P_assign rfl) rfl rfl rfl ?_
    refine V_nil ?_
    refine thenQ_normal ?_
    refine T_seq ?_
    refine T_region ?_
    refine V_pure (P_move rfl) rfl rfl rfl ?_
    refine V_pure (P_len il31 rfl) rfl rfl rfl ?_
    refine V_pure (P_move rfl) rfl rfl rfl ?_
    refine V_pure (P_len il31 rfl) rfl rfl rfl ?_
    refine V_pure (df (P_gtr rfl rfl) (by first | assumption | omega | decide | exact fun hx => hx (by assumption))) rfl rfl rfl ?_
    refine V_nil ?_
    refine thenQ_normal ?_
    refine T_false rfl ?_
    refine T_skip ?_
    refine blockQ_normal ?_
    refine thenQ_normal ?_
    refine T_region ?_
    refine V_pure (P_move rfl) rfl rfl rfl ?_
    refine V_step (E_call cl6 rfl ((Next_inv h3 h10 g ls (k + j) p' d' need' st' br2 Ls A c E ce O' cO' (os ++ [s]) (t + 1) ht10 heq10 (by omega) hd')) rfl ?_) rfl
    rintro _ h11 ⟨s', x', ok', Ls', A7, c7, E7, ce7, rfl, hin, hmu⟩
    refine V_pure (P_move rfl) rfl rfl rfl ?_
    refine V_pure (P_extract rfl rfl) rfl rfl rfl ?_
    refine V_pure (P_extract rfl rfl) rfl rfl rfl ?_
    refine V_pure (P_assign rfl) rfl rfl rfl ?_
    refine V_pure (P_assign rfl) rfl rfl rfl ?_
    refine V_nil ?_
    exact ⟨⟨s', x', ok', Ls', A7, c7, E7, ce7, O', cO', os ++ [s], t + 1⟩, ⟨rfl, rfl, rfl, rfl, rfl, rfl, rfl, rfl, rfl, trivial⟩, ⟨hin, by simp only; omega⟩, by show Ls'.length + (if ok' then 1 else 0) < Ls.length + 1; omega⟩
end Go.Proofs.Ytodogmfbafmcmaa
