/- A part of the proof: contracts of functions of the program. No condition. -/
import Derived.Test.YtigmehimficmlaaLaE
namespace Go.Proofs.Ytigmehimficmlaa
open Go.Eng La

def rightC (x : CardT) : Bool := rightS 0 x.played && (rightS 0 x.dead && rightS 0 x.dawn)
def checkP : List CardT → List Int
  | [] => [0, 0]
  | x :: r => if rightC x then checkP r else [140, x.at_]
theorem checkP_len : ∀ l, (checkP l).length = 2
  | [] => rfl
  | x :: r => by unfold checkP; split; exact checkP_len r; rfl
theorem checkP_take {l : List CardT} {i : Nat} (h : ∀ x ∈ l.take i, rightC x = true) : checkP l = checkP (l.drop i) := by
  induction l generalizing i with
  | nil => simp
  | cons x r ih =>
    cases i with
    | zero => rfl
    | succ i =>
      rw [checkP, if_pos (h x (by simp)), List.drop_succ_cons]
      exact ih fun y hy => h y (by simp [hy])
def faultV (l : List Int) : Value := .agg (intL [.i64, .i64] l).toArray
theorem Check_ok {m : Mp} {A : Option Addr} {len c : Nat} {l : List CardT} (hl : CardsR m A len l) (h : Heap) (hle : Le m (mp h)) : C Try.prog 20 [.slice A len c].toArray h fun v h' => v = faultV (checkP l) ∧ Le (mp h) (mp h') := by
  obtain ⟨rfl, hm, vs, hr, hv, hk⟩ := hl
  simp only [maxLen] at hm
  refine C_ofc [.cell 2 48] Try.func20 rfl rfl rfl ?_
  have kle := Kept.mk hle
  clear hle
  refine T_seq ?_
  refine T_region ?_
  refine V_step (E_alloc zl48 rfl (fun b1 h1 hn1 hb1 hl1 => ?_)) rfl
  refine V_nil ?_
  refine thenQ_normal ?_
  refine T_seq ?_
  refine T_region ?_
  refine V_pure (P_build zl65 pl65 rfl rfl) rfl rfl rfl ?_
  have kl1 := Kept.mk hl1
  have kb1 := Kept.mk hb1
  have kn1 := Kept.mk hn1
  clear hl1 hb1 hn1
  refine V_step (E_alloc zl65 rfl (fun b2 h2 hn1 hb1 hl1 => ?_)) rfl
  refine V_step (E_storeAgg ag65 rfl rfl rfl hb1 rfl rfl (fun h3 hb2 hl2 hn2 => ?_)) rfl
  refine V_nil ?_
  refine thenQ_normal ?_
  refine T_seq ?_
  refine T_seq ?_
  refine T_region ?_
  refine V_pure (P_move rfl) rfl rfl rfl ?_
  refine V_pure (P_len il40 rfl) rfl rfl rfl ?_
  refine V_pure (P_move rfl) rfl rfl rfl ?_
  refine V_nil ?_
  refine thenQ_normal ?_
  refine T_block ?_
  have hl13 := hl1.stored hn1 hl2
  have hl03 := kl1.out.trans hl13
  have hb13 := hl13 _ _ kb1.out
  refine T_loop (fun i : Nat => [(2, ptr b1), (3, ptr b2), (7, .slice A l.length c), (8, .int .i64 l.length), (9, .int .i64 i)]) (fun i h' => i ≤ l.length ∧ (∀ x ∈ l.take i, rightC x = true) ∧ Le (mp h3) (mp h')) (fun i => l.length - i) 0 ⟨rfl, rfl, rfl, rfl, rfl, trivial⟩ ⟨Nat.zero_le _, by simp, Le.refl _⟩ ?_
  have kl03 := Kept.mk hl03
  have kb13 := Kept.mk hb13
  have kb2 := Kept.mk hb2
  clear hl1 hn1 hl2 hl13 hl03 hb13 hb2 hb1 hn2
  rintro i h2 ⟨hi, hright, hle2⟩
  have hbr := hle2 _ _ kb13.out
  have hbc := hle2 _ _ kb2.out
  have kle2 := Kept.mk hle2
  have kl02 := Kept.mk (kl03.out.trans hle2)
  by_cases hlt : i < l.length
  · have hA : A.isSome = true := hr.isSome (by omega)
    have hat := (hr.elem (i * 12) 12).mono (kle.out.trans kl02.out)
    obtain ⟨P, lp, cp, D, ld, cd, W, lw, cw, hc, _, hP, hD, hW, _⟩ := hk i hlt
    have hcx := hc
    rw [hc] at hat
    have hcp : checkP l = if rightC l[i] then checkP (l.drop (i + 1)) else [140, l[i].at_] := by
      rw [checkP_take hright, List.drop_eq_getElem_cons hlt, checkP]
    have hyes : rightC l[i] = true → ∀ x ∈ l.take (i + 1), rightC x = true := fun hx x hm => by
      rw [List.take_succ_eq_append_getElem hlt] at hm
      rcases List.mem_append.1 hm with hm | hm
      · exact hright x hm
      · simp at hm; subst hm; exact hx
    have cP := fun h' (hh : Le (mp h) (mp h')) => all_ok (c := cp) hP 0 h' (kle.out.trans hh)
    have cD := fun h' (hh : Le (mp h) (mp h')) => all_ok (c := cd) hD 0 h' (kle.out.trans hh)
    have cW := fun h' (hh : Le (mp h) (mp h')) => all_ok (c := cw) hW 0 h' (kle.out.trans hh)
    generalize l[i] = x at *
    clear hle2 hc hat
    have hbr2 := Kept.mk hbr
    have hbc2 := Kept.mk hbc
    clear hbr hbc
    have hat := (hr.elem (i * 12) 12).mono (kle.out.trans kl02.out)
    rw [hcx] at hat
    refine T_seq ?_
    refine T_region ?_
    refine V_pure (dt (P_lss rfl rfl) (by first | assumption | rfl | omega | decide)) rfl rfl rfl ?_
    refine V_nil ?_
    refine thenQ_normal ?_
    refine T_seq ?_
    refine T_true rfl ?_
    refine T_skip ?_
    refine thenQ_normal ?_
    refine T_seq ?_
    refine T_block ?_
    refine T_seq ?_
    refine T_region ?_
    refine V_pure (P_indexAddr ez40 rfl rfl hA (by omega) (by omega)) rfl rfl rfl ?_
    refine V_read (R_loadAt ag56 rfl rfl hat) rfl rfl rfl ?_
    refine V_step (E_alloc zl56 rfl (fun b3 h4 hn1 hb1 hl1 => ?_)) rfl
    replace hat := hat.mono hl1
    refine V_step (E_storeAgg ag56 rfl rfl rfl hb1 rfl rfl (fun h5 hb2 hl2 hn2 => ?_)) rfl
    refine V_nil ?_
    refine thenQ_normal ?_
    refine T_seq ?_
    refine T_region ?_
    have hl24 := hl1.stored hn1 hl2
    have hbr := hl24 _ _ hbr2.out
    have hbc := hl24 _ _ hbc2.out
    clear hl1 hn1 hl2 hn2 hb1 hat
    refine V_read (R_loadAt ag65 rfl rfl (At.blk hbc)) rfl rfl rfl ?_
    refine V_pure (P_fieldAddr0 fo56_8 rfl) rfl rfl rfl ?_
    refine V_read (R_load sg31 rfl (mc_blk hb2 rfl)) rfl rfl rfl ?_
    refine V_step (E_call cl26 rfl ((cP _ (kl02.out.trans hl24))) rfl ?_) rfl
    rintro _ h6 ⟨rfl, hl6⟩
    replace hb2 := hl6 _ _ hb2
    replace hl24 := Le.trans hl24 hl6
    replace hbr := hl6 _ _ hbr
    replace hbc := hl6 _ _ hbc
    clear hl6
    cases hr1 : rightS 0 x.played with
    | false =>
      refine V_pure (P_not rfl) rfl rfl rfl ?_
      refine V_pure (P_move rfl) rfl rfl rfl ?_
      refine V_skip rfl rfl rfl ?_
      refine V_skip rfl rfl rfl ?_
      refine V_skip rfl rfl rfl ?_
      refine V_skip rfl rfl rfl ?_
      refine V_skip rfl rfl rfl ?_
      refine V_pure (P_pick_t rfl rfl) rfl rfl rfl ?_
      refine V_pure (P_move rfl) rfl rfl rfl ?_
      refine V_skip rfl rfl rfl ?_
      refine V_skip rfl rfl rfl ?_
      refine V_skip rfl rfl rfl ?_
      refine V_skip rfl rfl rfl ?_
      refine V_skip rfl rfl rfl ?_
      refine V_pure (P_pick_t rfl rfl) rfl rfl rfl ?_
      refine V_nil ?_
      refine thenQ_normal ?_
      refine T_true rfl ?_
      refine T_seq ?_
      refine T_region ?_
      refine V_pure (P_fieldAddr0 fo56_11 rfl) rfl rfl rfl ?_
      refine V_read (R_load sg3 rfl (mc_blk hb2 rfl)) rfl rfl rfl ?_
      refine V_pure (P_build zl48 pl48 rfl rfl) rfl rfl rfl ?_
      refine V_step (E_storeAgg ag48 rfl rfl rfl hbr rfl rfl (fun h7 hb1 hl1 hn1 => ?_)) rfl
      refine V_nil ?_
      refine thenQ_normal ?_
      refine T_ret ?_
      refine blockQ_ret ?_
      refine thenQ_ret ?_
      refine roundQ_ret ?_
      refine blockQ_ret ?_
      refine thenQ_ret ?_
      refine retC_blk rfl hb1 ag48 ?_
      refine ⟨?_, (kl02.out.trans hl24).stored kn1.out hl1⟩
      rw [hcp, if_neg (by simp [rightC, hr1])]
      rfl
    | true =>
      refine V_pure (P_not rfl) rfl rfl rfl ?_
      refine V_pure (P_move rfl) rfl rfl rfl ?_
      refine V_read (R_loadAt ag65 rfl rfl (At.blk hbc)) rfl rfl rfl ?_
      refine V_pure (P_fieldAddr0 fo56_9 rfl) rfl rfl rfl ?_
      refine V_read (R_load sg31 rfl (mc_blk hb2 rfl)) rfl rfl rfl ?_
      refine V_step (E_call cl26 rfl ((cD _ (kl02.out.trans hl24))) rfl ?_) rfl
      rintro _ h7 ⟨rfl, hl7⟩
      replace hb2 := hl7 _ _ hb2
      replace hl24 := Le.trans hl24 hl7
      replace hbr := hl7 _ _ hbr
      replace hbc := hl7 _ _ hbc
      clear hl7
      cases hr2 : rightS 0 x.dead with
      | false =>
        refine V_pure (P_not rfl) rfl rfl rfl ?_
        refine V_pure (P_pick_f rfl rfl) rfl rfl rfl ?_
        refine V_pure (P_move rfl) rfl rfl rfl ?_
        refine V_skip rfl rfl rfl ?_
        refine V_skip rfl rfl rfl ?_
        refine V_skip rfl rfl rfl ?_
        refine V_skip rfl rfl rfl ?_
        refine V_skip rfl rfl rfl ?_
        refine V_pure (P_pick_t rfl rfl) rfl rfl rfl ?_
        refine V_nil ?_
        refine thenQ_normal ?_
        refine T_true rfl ?_
        refine T_seq ?_
        refine T_region ?_
        refine V_pure (P_fieldAddr0 fo56_11 rfl) rfl rfl rfl ?_
        refine V_read (R_load sg3 rfl (mc_blk hb2 rfl)) rfl rfl rfl ?_
        refine V_pure (P_build zl48 pl48 rfl rfl) rfl rfl rfl ?_
        refine V_step (E_storeAgg ag48 rfl rfl rfl hbr rfl rfl (fun h8 hb1 hl1 hn1 => ?_)) rfl
        refine V_nil ?_
        refine thenQ_normal ?_
        refine T_ret ?_
        refine blockQ_ret ?_
        refine thenQ_ret ?_
        refine roundQ_ret ?_
        refine blockQ_ret ?_
        refine thenQ_ret ?_
        refine retC_blk rfl hb1 ag48 ?_
        refine ⟨?_, (kl02.out.trans hl24).stored kn1.out hl1⟩
        rw [hcp, if_neg (by simp [rightC, hr2])]
        rfl
      | true =>
        refine V_pure (P_not rfl) rfl rfl rfl ?_
        refine V_pure (P_pick_f rfl rfl) rfl rfl rfl ?_
        refine V_pure (P_move rfl) rfl rfl rfl ?_
        refine V_read (R_loadAt ag65 rfl rfl (At.blk hbc)) rfl rfl rfl ?_
        refine V_pure (P_fieldAddr0 fo56_10 rfl) rfl rfl rfl ?_
        refine V_read (R_load sg31 rfl (mc_blk hb2 rfl)) rfl rfl rfl ?_
        refine V_step (E_call cl26 rfl ((cW _ (kl02.out.trans hl24))) rfl ?_) rfl
        rintro _ h8 ⟨rfl, hl8⟩
        replace hb2 := hl8 _ _ hb2
        replace hl24 := Le.trans hl24 hl8
        replace hbr := hl8 _ _ hbr
        replace hbc := hl8 _ _ hbc
        clear hl8
        cases hr3 : rightS 0 x.dawn with
        | false =>
          refine V_pure (P_not rfl) rfl rfl rfl ?_
          refine V_pure (P_pick_f rfl rfl) rfl rfl rfl ?_
          refine V_nil ?_
          refine thenQ_normal ?_
          refine T_true rfl ?_
          refine T_seq ?_
          refine T_region ?_
          refine V_pure (P_fieldAddr0 fo56_11 rfl) rfl rfl rfl ?_
          refine V_read (R_load sg3 rfl (mc_blk hb2 rfl)) rfl rfl rfl ?_
          refine V_pure (P_build zl48 pl48 rfl rfl) rfl rfl rfl ?_
          refine V_step (E_storeAgg ag48 rfl rfl rfl hbr rfl rfl (fun h9 hb1 hl1 hn1 => ?_)) rfl
          refine V_nil ?_
          refine thenQ_normal ?_
          refine T_ret ?_
          refine blockQ_ret ?_
          refine thenQ_ret ?_
          refine roundQ_ret ?_
          refine blockQ_ret ?_
          refine thenQ_ret ?_
          refine retC_blk rfl hb1 ag48 ?_
          refine ⟨?_, (kl02.out.trans hl24).stored kn1.out hl1⟩
          rw [hcp, if_neg (by simp [rightC, hr3])]
          rfl
        | true =>
          refine V_pure (P_not rfl) rfl rfl rfl ?_
          refine V_pure (P_pick_f rfl rfl) rfl rfl rfl ?_
          refine V_nil ?_
          refine thenQ_normal ?_
          refine T_false rfl ?_
          refine T_skip ?_
          refine blockQ_normal ?_
          refine thenQ_normal ?_
          refine T_region ?_
          refine V_pure (P_add rfl rfl (w64 (by omega) (by omega))) rfl rfl rfl ?_
          refine V_pure (P_move rfl) rfl rfl rfl ?_
          refine V_nil ?_
          exact ⟨i + 1, ⟨rfl, rfl, rfl, rfl, rfl, trivial⟩, ⟨by omega, hyes (by simp [rightC, hr1, hr2, hr3]), kle2.out.trans hl24⟩, by show l.length - (i + 1) < l.length - i; omega⟩
  · refine T_seq ?_
    refine T_region ?_
    refine V_pure (df (P_lss rfl rfl) (by first | assumption | omega | decide | exact fun hx => hx (by assumption))) rfl rfl rfl ?_
    refine V_nil ?_
    refine thenQ_normal ?_
    refine T_seq ?_
    refine T_false rfl ?_
    refine T_exit ?_
    refine thenQ_exit ?_
    refine roundQ_exit ?_
    refine blockQ_here ?_
    refine thenQ_normal ?_
    refine T_seq ?_
    refine T_region ?_
    refine V_pure (P_build zl48 pl48 rfl rfl) rfl rfl rfl ?_
    refine V_step (E_storeAgg ag48 rfl rfl rfl hbr rfl rfl (fun h4 hb1 hl1 hn1 => ?_)) rfl
    refine V_nil ?_
    refine thenQ_normal ?_
    refine T_ret ?_
    refine retC_blk rfl hb1 ag48 ?_
    refine ⟨?_, kl02.out.stored kn1.out hl1⟩
    rw [checkP_take hright, List.drop_of_length_le (by omega)]
    rfl
theorem CheckR_ok {m : Mp} {A : Option Addr} {len c : Nat} {l : List CardT} (hl : CardsR m A len l) (h : Heap) (hle : Le m (mp h)) : C Try.prog 21 [.slice A len c].toArray h fun v h' => v = faultV (checkP l) ∧ Le (mp h) (mp h') := by
  obtain ⟨rfl, hm, vs, hr, hv, hk⟩ := hl
  simp only [maxLen] at hm
  refine C_ofc [.cell 2 48] Try.func21 rfl rfl rfl ?_
  have kle := Kept.mk hle
  clear hle
  refine T_seq ?_
  refine T_region ?_
  refine V_step (E_alloc zl48 rfl (fun b1 h1 hn1 hb1 hl1 => ?_)) rfl
  refine V_nil ?_
  refine thenQ_normal ?_
  refine T_seq ?_
  refine T_seq ?_
  refine T_region ?_
  refine V_pure (P_assign rfl) rfl rfl rfl ?_
  refine V_nil ?_
  refine thenQ_normal ?_
  refine T_block ?_
  refine T_loop (fun i : Nat => [(0, .slice A l.length c), (2, ptr b1), (3, .int .i64 i)]) (fun i h' => i ≤ l.length ∧ (∀ x ∈ l.take i, rightC x = true) ∧ Le (mp h1) (mp h')) (fun i => l.length - i) 0 ⟨rfl, rfl, rfl, trivial⟩ ⟨Nat.zero_le _, by simp, Le.refl _⟩ ?_
  have kl03 := Kept.mk hl1
  have kb13 := Kept.mk hb1
  have kn1 := Kept.mk hn1
  clear hl1 hn1 hb1
  rintro i h2 ⟨hi, hright, hle2⟩
  have hbr := hle2 _ _ kb13.out
  have kle2 := Kept.mk hle2
  have kl02 := Kept.mk (kl03.out.trans hle2)
  by_cases hlt : i < l.length
  · have hA : A.isSome = true := hr.isSome (by omega)
    obtain ⟨P, lp, cp, D, ld, cd, W, lw, cw, hc, _, hP, hD, hW, _⟩ := hk i hlt
    have hcp : checkP l = if rightC l[i] then checkP (l.drop (i + 1)) else [140, l[i].at_] := by
      rw [checkP_take hright, List.drop_eq_getElem_cons hlt, checkP]
    have hyes : rightC l[i] = true → ∀ x ∈ l.take (i + 1), rightC x = true := fun hx x hm => by
      rw [List.take_succ_eq_append_getElem hlt] at hm
      rcases List.mem_append.1 hm with hm | hm
      · exact hright x hm
      · simp at hm; subst hm; exact hx
    have cP := fun h' (hh : Le (mp h) (mp h')) => EffectsR_ok (c := cp) hP 0 h' (kle.out.trans hh)
    have cD := fun h' (hh : Le (mp h) (mp h')) => EffectsR_ok (c := cd) hD 0 h' (kle.out.trans hh)
    have cW := fun h' (hh : Le (mp h) (mp h')) => EffectsR_ok (c := cw) hW 0 h' (kle.out.trans hh)
    generalize l[i] = x at *
    have hbr2 := Kept.mk hbr
    clear hle2 hbr
    have hat := (hr.elem (i * 12) 12).mono (kle.out.trans kl02.out)
    rw [hc] at hat
    refine T_seq ?_
    refine T_seq ?_
    refine T_region ?_
    refine V_pure (P_move rfl) rfl rfl rfl ?_
    refine V_pure (P_move rfl) rfl rfl rfl ?_
    refine V_pure (P_len il40 rfl) rfl rfl rfl ?_
    refine V_pure (dt (P_lss rfl rfl) (by first | assumption | rfl | omega | decide)) rfl rfl rfl ?_
    refine V_nil ?_
    refine thenQ_normal ?_
    refine T_true rfl ?_
    refine T_skip ?_
    refine thenQ_normal ?_
    refine T_seq ?_
    refine T_block ?_
    refine T_seq ?_
    refine T_region ?_
    refine V_pure (P_move rfl) rfl rfl rfl ?_
    refine V_pure (P_move rfl) rfl rfl rfl ?_
    refine V_pure (P_indexAddr ez40 rfl rfl hA (by omega) (by omega)) rfl rfl rfl ?_
    refine V_read (R_loadAt ag56 rfl rfl hat) rfl rfl rfl ?_
    refine V_step (E_alloc zl56 rfl (fun b2 h3 hn1 hb1 hl1 => ?_)) rfl
    replace hat := hat.mono hl1
    refine V_step (E_storeAgg ag56 rfl rfl rfl hb1 rfl rfl (fun h4 hb2 hl2 hn2 => ?_)) rfl
    refine V_nil ?_
    refine thenQ_normal ?_
    refine T_seq ?_
    refine T_region ?_
    refine V_pure (P_fieldAddr0 fo56_8 rfl) rfl rfl rfl ?_
    refine V_read (R_load sg31 rfl (mc_blk hb2 rfl)) rfl rfl rfl ?_
    have hl24 := hl1.stored hn1 hl2
    have hbr := hl24 _ _ hbr2.out
    clear hl1 hn1 hl2 hn2 hb1 hat
    refine V_step (E_call cl19 rfl ((cP _ (kl02.out.trans hl24))) rfl ?_) rfl
    rintro _ h6 ⟨rfl, hl6⟩
    replace hb2 := hl6 _ _ hb2
    replace hl24 := Le.trans hl24 hl6
    replace hbr := hl6 _ _ hbr
    clear hl6
    cases hr1 : rightS 0 x.played with
    | false =>
      refine V_pure (P_not rfl) rfl rfl rfl ?_
      refine V_pure (P_move rfl) rfl rfl rfl ?_
      refine V_skip rfl rfl rfl ?_
      refine V_skip rfl rfl rfl ?_
      refine V_skip rfl rfl rfl ?_
      refine V_skip rfl rfl rfl ?_
      refine V_pure (P_pick_t rfl rfl) rfl rfl rfl ?_
      refine V_pure (P_move rfl) rfl rfl rfl ?_
      refine V_skip rfl rfl rfl ?_
      refine V_skip rfl rfl rfl ?_
      refine V_skip rfl rfl rfl ?_
      refine V_skip rfl rfl rfl ?_
      refine V_pure (P_pick_t rfl rfl) rfl rfl rfl ?_
      refine V_nil ?_
      refine thenQ_normal ?_
      refine T_true rfl ?_
      refine T_seq ?_
      refine T_region ?_
      refine V_pure (P_fieldAddr0 fo56_11 rfl) rfl rfl rfl ?_
      refine V_read (R_load sg3 rfl (mc_blk hb2 rfl)) rfl rfl rfl ?_
      refine V_pure (P_build zl48 pl48 rfl rfl) rfl rfl rfl ?_
      refine V_step (E_storeAgg ag48 rfl rfl rfl hbr rfl rfl (fun h5 hb1 hl1 hn1 => ?_)) rfl
      refine V_nil ?_
      refine thenQ_normal ?_
      refine T_ret ?_
      refine blockQ_ret ?_
      refine thenQ_ret ?_
      refine roundQ_ret ?_
      refine blockQ_ret ?_
      refine thenQ_ret ?_
      refine retC_blk rfl hb1 ag48 ?_
      refine ⟨?_, (kl02.out.trans hl24).stored kn1.out hl1⟩
      rw [hcp, if_neg (by simp [rightC, hr1])]
      rfl
    | true =>
      refine V_pure (P_not rfl) rfl rfl rfl ?_
      refine V_pure (P_move rfl) rfl rfl rfl ?_
      refine V_pure (P_fieldAddr0 fo56_9 rfl) rfl rfl rfl ?_
      refine V_read (R_load sg31 rfl (mc_blk hb2 rfl)) rfl rfl rfl ?_
      refine V_step (E_call cl19 rfl ((cD _ (kl02.out.trans hl24))) rfl ?_) rfl
      rintro _ h7 ⟨rfl, hl7⟩
      replace hb2 := hl7 _ _ hb2
      replace hl24 := Le.trans hl24 hl7
      replace hbr := hl7 _ _ hbr
      clear hl7
      cases hr2 : rightS 0 x.dead with
      | false =>
        refine V_pure (P_not rfl) rfl rfl rfl ?_
        refine V_pure (P_pick_f rfl rfl) rfl rfl rfl ?_
        refine V_pure (P_move rfl) rfl rfl rfl ?_
        refine V_skip rfl rfl rfl ?_
        refine V_skip rfl rfl rfl ?_
        refine V_skip rfl rfl rfl ?_
        refine V_skip rfl rfl rfl ?_
        refine V_pure (P_pick_t rfl rfl) rfl rfl rfl ?_
        refine V_nil ?_
        refine thenQ_normal ?_
        refine T_true rfl ?_
        refine T_seq ?_
        refine T_region ?_
        refine V_pure (P_fieldAddr0 fo56_11 rfl) rfl rfl rfl ?_
        refine V_read (R_load sg3 rfl (mc_blk hb2 rfl)) rfl rfl rfl ?_
        refine V_pure (P_build zl48 pl48 rfl rfl) rfl rfl rfl ?_
        refine V_step (E_storeAgg ag48 rfl rfl rfl hbr rfl rfl (fun h5 hb1 hl1 hn1 => ?_)) rfl
        refine V_nil ?_
        refine thenQ_normal ?_
        refine T_ret ?_
        refine blockQ_ret ?_
        refine thenQ_ret ?_
        refine roundQ_ret ?_
        refine blockQ_ret ?_
        refine thenQ_ret ?_
        refine retC_blk rfl hb1 ag48 ?_
        refine ⟨?_, (kl02.out.trans hl24).stored kn1.out hl1⟩
        rw [hcp, if_neg (by simp [rightC, hr2])]
        rfl
      | true =>
        refine V_pure (P_not rfl) rfl rfl rfl ?_
        refine V_pure (P_pick_f rfl rfl) rfl rfl rfl ?_
        refine V_pure (P_move rfl) rfl rfl rfl ?_
        refine V_pure (P_fieldAddr0 fo56_10 rfl) rfl rfl rfl ?_
        refine V_read (R_load sg31 rfl (mc_blk hb2 rfl)) rfl rfl rfl ?_
        refine V_step (E_call cl19 rfl ((cW _ (kl02.out.trans hl24))) rfl ?_) rfl
        rintro _ h8 ⟨rfl, hl8⟩
        replace hb2 := hl8 _ _ hb2
        replace hl24 := Le.trans hl24 hl8
        replace hbr := hl8 _ _ hbr
        clear hl8
        cases hr3 : rightS 0 x.dawn with
        | false =>
          refine V_pure (P_not rfl) rfl rfl rfl ?_
          refine V_pure (P_pick_f rfl rfl) rfl rfl rfl ?_
          refine V_nil ?_
          refine thenQ_normal ?_
          refine T_true rfl ?_
          refine T_seq ?_
          refine T_region ?_
          refine V_pure (P_fieldAddr0 fo56_11 rfl) rfl rfl rfl ?_
          refine V_read (R_load sg3 rfl (mc_blk hb2 rfl)) rfl rfl rfl ?_
          refine V_pure (P_build zl48 pl48 rfl rfl) rfl rfl rfl ?_
          refine V_step (E_storeAgg ag48 rfl rfl rfl hbr rfl rfl (fun h5 hb1 hl1 hn1 => ?_)) rfl
          refine V_nil ?_
          refine thenQ_normal ?_
          refine T_ret ?_
          refine blockQ_ret ?_
          refine thenQ_ret ?_
          refine roundQ_ret ?_
          refine blockQ_ret ?_
          refine thenQ_ret ?_
          refine retC_blk rfl hb1 ag48 ?_
          refine ⟨?_, (kl02.out.trans hl24).stored kn1.out hl1⟩
          rw [hcp, if_neg (by simp [rightC, hr3])]
          rfl
        | true =>
          refine V_pure (P_not rfl) rfl rfl rfl ?_
          refine V_pure (P_pick_f rfl rfl) rfl rfl rfl ?_
          refine V_nil ?_
          refine thenQ_normal ?_
          refine T_false rfl ?_
          refine T_skip ?_
          refine blockQ_normal ?_
          refine thenQ_normal ?_
          refine T_region ?_
          refine V_pure (P_move rfl) rfl rfl rfl ?_
          refine V_pure (P_add rfl rfl (w64 (by omega) (by omega))) rfl rfl rfl ?_
          refine V_pure (P_assign rfl) rfl rfl rfl ?_
          refine V_nil ?_
          exact ⟨i + 1, ⟨rfl, rfl, rfl, trivial⟩, ⟨by omega, hyes (by simp [rightC, hr1, hr2, hr3]), kle2.out.trans hl24⟩, by show l.length - (i + 1) < l.length - i; omega⟩
  · refine T_seq ?_
    refine T_seq ?_
    refine T_region ?_
    refine V_pure (P_move rfl) rfl rfl rfl ?_
    refine V_pure (P_move rfl) rfl rfl rfl ?_
    refine V_pure (P_len il40 rfl) rfl rfl rfl ?_
    refine V_pure (df (P_lss rfl rfl) (by first | assumption | omega | decide | exact fun hx => hx (by assumption))) rfl rfl rfl ?_
    refine V_nil ?_
    refine thenQ_normal ?_
    refine T_false rfl ?_
    refine T_exit ?_
    refine thenQ_exit ?_
    refine roundQ_exit ?_
    refine blockQ_here ?_
    refine thenQ_normal ?_
    refine T_seq ?_
    refine T_region ?_
    refine V_pure (P_build zl48 pl48 rfl rfl) rfl rfl rfl ?_
    refine V_step (E_storeAgg ag48 rfl rfl rfl hbr rfl rfl (fun h3 hb1 hl1 hn1 => ?_)) rfl
    refine V_nil ?_
    refine thenQ_normal ?_
    refine T_ret ?_
    refine retC_blk rfl hb1 ag48 ?_
    refine ⟨?_, kl02.out.stored kn1.out hl1⟩
    rw [checkP_take hright, List.drop_of_length_le (by omega)]
    rfl
end Go.Proofs.Ytigmehimficmlaa
