/- A part of the proof: contracts of functions of the program. No condition. -/
import Derived.Test.YtigmehimficmlaaLaC
namespace Go.Proofs.Ytigmehimficmlaa
open Go.Eng La

def ptr (b : Nat) : Value := .pointer (some ⟨b, 0, none⟩)
def chk (u : Int) : Value := .agg [lab u].toArray
theorem public_ok (h : Heap) (u : Int) (cs : List Value) : C Try.prog 30 [chk u, .agg cs.toArray].toArray h fun v h' => v = .bool (decide (knownP u = 0)) ∧ Le (mp h) (mp h') := by
  refine C_of [4] Try.func30 rfl rfl rfl ?_
  unfold chk
  refine T_seq ?_
  refine T_region ?_
  refine V_step (E_box rfl rfl (fun b1 h1 hn1 hb1 hl1 => ?_)) rfl
  refine V_step (E_box rfl rfl (fun b2 h2 hn2 hb2 hl2 => ?_)) rfl
  replace hb1 := hl2 _ _ hb1
  replace hl1 := Le.trans hl1 hl2
  refine V_pure (P_assign rfl) rfl rfl rfl ?_
  refine V_nil ?_
  refine thenQ_normal ?_
  refine T_seq ?_
  refine T_region ?_
  refine V_pure (P_fieldAddr0 fo65_0 rfl) rfl rfl rfl ?_
  refine V_read (R_load sg29 rfl (mc_blk hb1 rfl)) rfl rfl rfl ?_
  have hl := hl1
  refine V_step (E_call cl25 rfl ((known_ok h2 u)) rfl ?_) rfl
  rintro _ h2 ⟨rfl, rfl⟩
  refine V_pure ((P_eql rfl rfl)) rfl rfl rfl ?_
  refine V_pure (P_assign rfl) rfl rfl rfl ?_
  refine V_nil ?_
  refine thenQ_normal ?_
  refine T_ret ?_
  refine retQ_ret1 rfl ?_
  exact ⟨rfl, hl⟩
theorem number_ok {m : Mp} {cs : List Value} {op who : Int} {n : NumT} {name : List UInt8} {cond : CondT} {thn els : List EffT} (hx : EffR m cs (.mk op who n name cond thn els)) (h : Heap) (u : Int) (hle : Le m (mp h)) :
    C Try.prog 29 [chk u, .agg cs.toArray].toArray h fun v h' => v = .bool (decide (joinP u (numL n) = 0)) ∧ Le (mp h) (mp h') := by
  obtain ⟨op', who', nop, nn, nwho, nA, nlen, nc, name', cop, cwho, cname, cA, cla, cca, cB, clb, ccb, A1, la, ca, B1, lb, cb, n', cond', thn', els', rfl, hmk, _, hn, hcd, _, _⟩ := hx.parts
  injection hmk with e1 e2 e3 e4 e5 e6 e7
  subst e1 e2 e3 e4 e5 e6 e7
  refine C_of [4] Try.func29 rfl rfl rfl ?_
  unfold chk
  have kle := Kept.mk hle
  clear hle hx
  refine T_seq ?_
  refine T_region ?_
  refine V_step (E_box rfl rfl (fun b1 h1 hn1 hb1 hl1 => ?_)) rfl
  refine V_step (E_box rfl rfl (fun b2 h2 hn2 hb2 hl2 => ?_)) rfl
  replace hb1 := hl2 _ _ hb1
  replace hl1 := Le.trans hl1 hl2
  refine V_pure (P_assign rfl) rfl rfl rfl ?_
  refine V_nil ?_
  refine thenQ_normal ?_
  refine T_seq ?_
  have hl := hl1
  have hat : At (mp h2) ⟨b2, 2, none⟩ [.int .i8 nop, .int .i64 nn, .int .i8 nwho, .slice nA nlen nc] := At.blkO (k := 4) hb2
  refine T_draw [(0, .pure), (2, .pure), (1, .read), (3, .read), (4, .kept), (5, .kept), (6, .pure), (7, .pure)] mixed (by kernel_rfl) (fun _ _ _ _ hq => hq) ?_
  refine VD_pure rfl (P_fieldAddr0 fo65_0 rfl) rfl rfl rfl ?_
  refine VD_pure rfl (P_fieldAddr0 fo33_2 rfl) rfl rfl rfl ?_
  refine VD_read rfl (R_load sg29 rfl (mc_blk hb1 rfl)) rfl rfl rfl ?_
  refine VD_read rfl (R_loadAt ag25 rfl rfl hat) rfl rfl rfl ?_
  refine VD_kept rfl (E_call cl9 rfl ((Num_ok hn h2 (kle.out.trans hl))) rfl ?_) rfl
  rintro _ h3 ⟨rfl, hl3⟩
  refine ⟨hl3, ?_⟩
  refine VD_kept rfl (E_call cl13 rfl ((Join_ok h3 _ _)) rfl ?_) rfl
  rintro _ h4 ⟨rfl, hl4⟩
  refine ⟨hl4, ?_⟩
  refine VD_pure rfl ((P_eql rfl rfl)) rfl rfl rfl ?_
  refine VD_pure rfl (P_assign rfl) rfl rfl rfl ?_
  refine VD_nil ?_
  refine thenQ_normal ?_
  refine T_ret ?_
  refine retQ_ret1 rfl ?_
  exact ⟨rfl, hl.trans (hl3.trans hl4)⟩
theorem look_ok {m : Mp} {cs : List Value} {op who : Int} {n : NumT} {name : List UInt8} {cond : CondT} {thn els : List EffT} (hx : EffR m cs (.mk op who n name cond thn els)) (h : Heap) (u : Int) (hle : Le m (mp h)) :
    C Try.prog 31 [chk u, .agg cs.toArray].toArray h fun v h' => v = .bool (flowsP (joinP u (numL n)) 1) ∧ Le (mp h) (mp h') := by
  obtain ⟨op', who', nop, nn, nwho, nA, nlen, nc, name', cop, cwho, cname, cA, cla, cca, cB, clb, ccb, A1, la, ca, B1, lb, cb, n', cond', thn', els', rfl, hmk, _, hn, hcd, _, _⟩ := hx.parts
  injection hmk with e1 e2 e3 e4 e5 e6 e7
  subst e1 e2 e3 e4 e5 e6 e7
  refine C_of [4] Try.func31 rfl rfl rfl ?_
  unfold chk
  have kle := Kept.mk hle
  clear hle hx
  refine T_seq ?_
  refine T_region ?_
  refine V_step (E_box rfl rfl (fun b1 h1 hn1 hb1 hl1 => ?_)) rfl
  refine V_step (E_box rfl rfl (fun b2 h2 hn2 hb2 hl2 => ?_)) rfl
  replace hb1 := hl2 _ _ hb1
  replace hl1 := Le.trans hl1 hl2
  refine V_pure (P_assign rfl) rfl rfl rfl ?_
  refine V_nil ?_
  refine thenQ_normal ?_
  refine T_seq ?_
  have hl := hl1
  have hat : At (mp h2) ⟨b2, 2, none⟩ [.int .i8 nop, .int .i64 nn, .int .i8 nwho, .slice nA nlen nc] := At.blkO (k := 4) hb2
  refine T_draw [(0, .pure), (2, .pure), (1, .read), (3, .read), (4, .kept), (5, .kept), (6, .kept), (7, .pure)] mixed (by kernel_rfl) (fun _ _ _ _ hq => hq) ?_
  refine VD_pure rfl (P_fieldAddr0 fo65_0 rfl) rfl rfl rfl ?_
  refine VD_pure rfl (P_fieldAddr0 fo33_2 rfl) rfl rfl rfl ?_
  refine VD_read rfl (R_load sg29 rfl (mc_blk hb1 rfl)) rfl rfl rfl ?_
  refine VD_read rfl (R_loadAt ag25 rfl rfl hat) rfl rfl rfl ?_
  refine VD_kept rfl (E_call cl9 rfl ((Num_ok hn h2 (kle.out.trans hl))) rfl ?_) rfl
  rintro _ h3 ⟨rfl, hl3⟩
  refine ⟨hl3, ?_⟩
  refine VD_kept rfl (E_call cl13 rfl ((Join_ok h3 _ _)) rfl ?_) rfl
  rintro _ h4 ⟨rfl, hl4⟩
  refine ⟨hl4, ?_⟩
  refine VD_kept rfl (E_call cl15 rfl ((Flows_ok h4 _ 1)) rfl ?_) rfl
  rintro _ h5 ⟨rfl, hl5⟩
  refine ⟨hl5, ?_⟩
  refine VD_pure rfl (P_assign rfl) rfl rfl rfl ?_
  refine VD_nil ?_
  refine thenQ_normal ?_
  refine T_ret ?_
  refine retQ_ret1 rfl ?_
  exact ⟨rfl, hl.trans (hl3.trans (hl4.trans hl5))⟩

def AllOK (m : Mp) (v : Value) (l : List EffT) : Prop := ∀ (u : Int) (h : Heap), Le m (mp h) → C Try.prog 26 [chk u, v].toArray h fun r h' => r = .bool (rightS u l) ∧ Le (mp h) (mp h')
def AllKids (m : Mp) (cs : List Value) : EffT → Prop
  | .mk _ _ _ _ _ thn els => (∀ v, cs[12]? = some v → AllOK m v thn) ∧ (∀ v, cs[13]? = some v → AllOK m v els)
theorem branch_ok {m : Mp} {cs : List Value} {op who : Int} {n : NumT} {name : List UInt8} {cond : CondT} {thn els : List EffT} (hx : EffR m cs (.mk op who n name cond thn els)) (hk : AllKids m cs (.mk op who n name cond thn els)) (h : Heap) (u : Int) (hle : Le m (mp h)) :
    C Try.prog 32 [chk u, .agg cs.toArray].toArray h fun v h' => v = .bool (rightS (joinP u (condL cond)) thn && rightS (joinP u (condL cond)) els) ∧ Le (mp h) (mp h') := by
  obtain ⟨op', who', nop, nn, nwho, nA, nlen, nc, name', cop, cwho, cname, cA, cla, cca, cB, clb, ccb, A1, la, ca, B1, lb, cb, n', cond', thn', els', rfl, hmk, _, hn, hcd, _, _⟩ := hx.parts
  injection hmk with e1 e2 e3 e4 e5 e6 e7
  subst e1 e2 e3 e4 e5 e6 e7
  obtain ⟨hkA, hkB⟩ := hk
  have hkA := hkA _ rfl
  have hkB := hkB _ rfl
  refine C_of [4] Try.func32 rfl rfl rfl ?_
  unfold chk
  have kle := Kept.mk hle
  clear hle hx
  refine T_seq ?_
  refine T_region ?_
  refine V_step (E_box rfl rfl (fun b1 h1 hn1 hb1 hl1 => ?_)) rfl
  refine V_step (E_box rfl rfl (fun b2 h2 hn2 hb2 hl2 => ?_)) rfl
  replace hb1 := hl2 _ _ hb1
  replace hl1 := Le.trans hl1 hl2
  refine V_pure (P_assign rfl) rfl rfl rfl ?_
  refine V_nil ?_
  refine thenQ_normal ?_
  refine T_seq ?_
  have hl := hl1
  have hat : At (mp h2) ⟨b2, 7, none⟩ [.int .i8 cop, .int .i8 cwho, .string (bs cname), .slice cA cla cca, .slice cB clb ccb] := At.blkO (k := 5) hb2
  have kb2 := Kept.mk hb2
  have kl := Kept.mk hl
  refine T_cut (fun b3 : Nat => [(3, ptr b2), (5, ptr b3)]) (fun b3 h' => mp h' b3 = some (.cells [lab (joinP u (condL cond))].toArray 65 (0, 0)) ∧ Le (mp h2) (mp h')) ?_ ?_
  · have hcc := Cond_ok hcd
    clear hl hl1 hl2 hn1 hn2
    refine T_drawT (.step 0 .pure (.step 2 .pure (.step 1 .read (.step 3 .read (.fork (.step 4 .kept (.fork (.step 5 .kept (.step 6 .pure (.step 7 .kept (.step 8 .wild (.done))))) (.step 7 .kept (.step 5 .kept (.step 6 .pure (.step 8 .wild (.done))))))) (.step 7 .kept (.step 4 .kept (.step 5 .kept (.step 6 .pure (.step 8 .wild (.done))))))))))) mixed (by kernel_rfl) (fun _ _ _ _ hq => hq) ?_
    refine VT_pure rfl (P_fieldAddr0 fo65_0 rfl) rfl rfl rfl ?_
    refine VT_pure rfl (P_fieldAddr0 fo33_4 rfl) rfl rfl rfl ?_
    refine VT_read rfl (R_load sg29 rfl (mc_blk hb1 rfl)) rfl rfl rfl ?_
    refine VT_read rfl (R_loadAt ag28 rfl rfl hat) rfl rfl rfl ?_
    refine VT_fork ?_ ?_
    · refine VT_kept rfl (E_call cl11 rfl ((hcc h2 (kle.out.trans kl.out))) rfl ?_) rfl
      rintro _ h3 ⟨rfl, hl3⟩
      refine ⟨hl3, ?_⟩
      clear hb1 hb2 hat
      refine VT_fork ?_ ?_
      · refine VT_kept rfl (E_call cl13 rfl ((Join_ok h3 _ _)) rfl ?_) rfl
        rintro _ h4 ⟨rfl, hl4⟩
        refine ⟨hl4, ?_⟩
        have hl34 := Kept.mk (hl3.trans hl4)
        clear hl3 hl4
        refine VT_pure rfl (P_build zl65 pl65 rfl rfl) rfl rfl rfl ?_
        refine VT_kept rfl (E_alloc zl65 rfl (fun b3 h5 hn1 hb1 hl1 => ⟨hl1, ?_⟩)) rfl
        refine VT_wild rfl rfl (E_storeAgg ag65 rfl rfl rfl hb1 rfl rfl (fun h6 hb2 hl2 hn2 => ?_)) rfl
        refine VT_nil ?_
        exact ⟨b3, ⟨rfl, rfl, trivial⟩, ⟨hb2, hl34.out.trans (hl1.stored hn1 hl2)⟩, Nat.zero_lt_one⟩
      · have kl3 := Kept.mk hl3
        clear hl3
        refine VT_kept rfl (E_alloc zl65 rfl (fun b3 h4 hn1 hb1 hl1 => ⟨hl1, ?_⟩)) rfl
        refine VT_kept rfl (E_call cl13 rfl ((Join_ok _ _ _)) rfl ?_) rfl
        rintro _ h5 ⟨rfl, hl5⟩
        refine ⟨hl5, ?_⟩
        have hb1' := hl5 _ _ hb1
        clear hb1
        refine VT_pure rfl (P_build zl65 pl65 rfl rfl) rfl rfl rfl ?_
        refine VT_wild rfl rfl (E_storeAgg ag65 rfl rfl rfl hb1' rfl rfl (fun h6 hb1 hl2 hn2 => ?_)) rfl
        refine VT_nil ?_
        exact ⟨b3, ⟨rfl, rfl, trivial⟩, ⟨hb1, kl3.out.trans ((hl1.trans hl5).stored hn1 hl2)⟩, Nat.zero_lt_one⟩
    · clear hb1 hb2 hat
      refine VT_kept rfl (E_alloc zl65 rfl (fun b3 h3 hn1 hb1 hl1 => ⟨hl1, ?_⟩)) rfl
      refine VT_kept rfl (E_call cl11 rfl ((hcc _ (kle.out.trans (kl.out.trans hl1)))) rfl ?_) rfl
      rintro _ h4 ⟨rfl, hl4⟩
      refine ⟨hl4, ?_⟩
      refine VT_kept rfl (E_call cl13 rfl ((Join_ok _ _ _)) rfl ?_) rfl
      rintro _ h5 ⟨rfl, hl5⟩
      refine ⟨hl5, ?_⟩
      have hb1' := hl5 _ _ (hl4 _ _ hb1)
      clear hb1
      refine VT_pure rfl (P_build zl65 pl65 rfl rfl) rfl rfl rfl ?_
      refine VT_wild rfl rfl (E_storeAgg ag65 rfl rfl rfl hb1' rfl rfl (fun h6 hb1 hl2 hn2 => ?_)) rfl
      refine VT_nil ?_
      exact ⟨b3, ⟨rfl, rfl, trivial⟩, ⟨hb1, (hl1.trans (hl4.trans hl5)).stored hn1 hl2⟩, Nat.zero_lt_one⟩
  · rintro b3 h3 ⟨hb3, hl3⟩
    clear hl hl1 hl2 hn1 hn2 hb1 hb2 hat
    have hb2 := hl3 _ _ kb2.out
    have hl03 := kl.out.trans hl3
    have kl03 := Kept.mk hl03
    generalize joinP u (condL cond) = j at *
    have c1 := hkA j h3 (kle.out.trans hl03)
    refine T_seq ?_
    refine T_region ?_
    refine V_read (R_loadAt ag65 rfl rfl (At.blk hb3)) rfl rfl rfl ?_
    refine V_pure (P_fieldAddr0 fo33_5 rfl) rfl rfl rfl ?_
    refine V_read (R_load sg31 rfl (mc_blk hb2 rfl)) rfl rfl rfl ?_
    refine V_step (E_call cl26 rfl (c1) rfl ?_) rfl
    rintro _ h4 ⟨rfl, hl4⟩
    have hb2' := hl4 _ _ hb2
    have hb3' := hl4 _ _ hb3
    clear hb2 hb3 hl3 hl03
    have c2 := hkB j h4 (kle.out.trans (kl03.out.trans hl4))
    cases hr : rightS j thn with
    | false =>
      refine V_pure (P_move rfl) rfl rfl rfl ?_
      refine V_skip rfl rfl rfl ?_
      refine V_skip rfl rfl rfl ?_
      refine V_skip rfl rfl rfl ?_
      refine V_skip rfl rfl rfl ?_
      refine V_pure (P_pick_f rfl rfl) rfl rfl rfl ?_
      refine V_pure (P_assign rfl) rfl rfl rfl ?_
      refine V_nil ?_
      refine thenQ_normal ?_
      refine T_ret ?_
      refine retQ_ret1 rfl ?_
      exact ⟨rfl, kl03.out.trans hl4⟩
    | true =>
      refine V_pure (P_move rfl) rfl rfl rfl ?_
      refine V_read (R_loadAt ag65 rfl rfl (At.blk hb3')) rfl rfl rfl ?_
      refine V_pure (P_fieldAddr0 fo33_6 rfl) rfl rfl rfl ?_
      refine V_read (R_load sg31 rfl (mc_blk hb2' rfl)) rfl rfl rfl ?_
      refine V_step (E_call cl26 rfl (c2) rfl ?_) rfl
      rintro _ h5 ⟨rfl, hl5⟩
      refine V_pure (P_pick_t rfl rfl) rfl rfl rfl ?_
      refine V_pure (P_assign rfl) rfl rfl rfl ?_
      refine V_nil ?_
      refine thenQ_normal ?_
      refine T_ret ?_
      refine retQ_ret1 rfl ?_
      exact ⟨by simp, kl03.out.trans (hl4.trans hl5)⟩

def fnV (f : Nat) (u : Int) : Value := .func (.func f) [chk u].toArray [].toArray
def asksL (u : Int) : List Value := [fnV 29 u, fnV 29 u, fnV 29 u, fnV 29 u, fnV 30 u, fnV 31 u, fnV 30 u, fnV 30 u, fnV 32 u]
theorem clos_ok {m : Mp} {cs : List Value} {x : EffT} (hx : EffR m cs x) (hk : AllKids m cs x) (u : Int) (h : Heap) (b1 b2 : Nat) (hle : Le m (mp h)) (hb1 : mp h b1 = some (.cells [lab u].toArray 65 (0, 0))) (hb2 : mp h b2 = some (.cells (asksL u).toArray 69 (0, 0))) :
    C Try.prog 34 [.agg cs.toArray, ptr b1, ptr b2].toArray h fun v h' => v = .bool (!rightE u x) ∧ Le (mp h) (mp h') := by
  obtain ⟨op, who, nop, nn, nwho, nA, nlen, nc, name, cop, cwho, cname, cA, cla, cca, cB, clb, ccb, A1, la, ca, B1, lb, cb, n, cond, thn, els, rfl, rfl, ho, hn, hcd, _, _⟩ := hx.parts
  refine C_of [4] Try.func34 rfl rfl rfl ?_
  have kle := Kept.mk hle
  clear hle
  unfold asksL at hb2
  have hcase : op = 0 ∨ op = 1 ∨ op = 2 ∨ op = 3 ∨ op = 4 ∨ op = 5 ∨ op = 6 ∨ op = 7 ∨ op = 8 ∨ op < 0 ∨ 9 ≤ op := by omega
  have ho1 := ho.1
  have ho2 := ho.2
  rcases hcase with h0 | h0 | h0 | h0 | h0 | h0 | h0 | h0 | h0 | h0 | h0
  · subst h0
    refine T_seq ?_
    refine T_region ?_
    refine V_step (E_box rfl rfl (fun b3 h1 hn1 hb3 hl1 => ?_)) rfl
    replace hb1 := hl1 _ _ hb1
    replace hb2 := hl1 _ _ hb2
    refine V_pure (P_assign rfl) rfl rfl rfl ?_
    refine V_nil ?_
    refine thenQ_normal ?_
    refine T_seq ?_
    refine T_region ?_
    refine V_read (R_loadAt ag65 rfl rfl (At.blk hb1)) rfl rfl rfl ?_
    refine V_pure (P_makeFunc rfl rfl) rfl rfl rfl ?_
    refine V_pure (P_assign rfl) rfl rfl rfl ?_
    refine V_nil ?_
    refine thenQ_normal ?_
    refine T_seq ?_
    refine T_seq ?_
    refine T_region ?_
    refine V_pure (P_fieldAddr0 fo33_0 rfl) rfl rfl rfl ?_
    refine V_read (R_load sg22 rfl (mc_blk hb3 rfl)) rfl rfl rfl ?_
    refine V_pure (dt (P_geq rfl rfl) (by first | assumption | rfl | omega | decide)) rfl rfl rfl ?_
    refine V_pure (P_move rfl) rfl rfl rfl ?_
    refine V_pure (P_fieldAddr0 fo33_0 rfl) rfl rfl rfl ?_
    refine V_read (R_load sg22 rfl (mc_blk hb3 rfl)) rfl rfl rfl ?_
    refine V_pure (P_conv_int us22 ik3 rfl (w64 (by omega) (by omega))) rfl rfl rfl ?_
    refine V_pure (dt (P_lss rfl rfl) (by first | assumption | rfl | omega | decide)) rfl rfl rfl ?_
    refine V_pure (P_pick_t rfl rfl) rfl rfl rfl ?_
    refine V_nil ?_
    refine thenQ_normal ?_
    refine T_true rfl ?_
    refine T_region ?_
    refine V_pure (P_fieldAddr0 fo33_0 rfl) rfl rfl rfl ?_
    refine V_read (R_load sg22 rfl (mc_blk hb3 rfl)) rfl rfl rfl ?_
    refine V_pure (P_indexAddrArr ar69 rfl rfl (by omega) (by omega)) rfl rfl rfl ?_
    refine V_read (R_load sg68 rfl (mc_blk hb2 rfl)) rfl rfl rfl ?_
    refine V_pure (P_assign rfl) rfl rfl rfl ?_
    refine V_nil ?_
    refine thenQ_normal ?_
    refine T_seq ?_
    refine T_region ?_
    refine V_pure (P_move rfl) rfl rfl rfl ?_
    refine V_read (R_loadAt ag33 rfl rfl (At.blk hb3)) rfl rfl rfl ?_
    refine V_step (E_callV (by kernel_rfl) rfl rfl ((number_ok hx _ u (kle.out.trans hl1))) rfl ?_) rfl
    rintro _ h4 ⟨rfl, hl4⟩
    refine V_pure (P_not rfl) rfl rfl rfl ?_
    refine V_pure (P_assign rfl) rfl rfl rfl ?_
    refine V_nil ?_
    refine thenQ_normal ?_
    refine T_ret ?_
    refine retQ_ret1 rfl ?_
    exact ⟨by simp [rightE], hl1.trans hl4⟩
  · subst h0
    refine T_seq ?_
    refine T_region ?_
    refine V_step (E_box rfl rfl (fun b3 h1 hn1 hb3 hl1 => ?_)) rfl
    replace hb1 := hl1 _ _ hb1
    replace hb2 := hl1 _ _ hb2
    refine V_pure (P_assign rfl) rfl rfl rfl ?_
    refine V_nil ?_
    refine thenQ_normal ?_
    refine T_seq ?_
    refine T_region ?_
    refine V_read (R_loadAt ag65 rfl rfl (At.blk hb1)) rfl rfl rfl ?_
    refine V_pure (P_makeFunc rfl rfl) rfl rfl rfl ?_
    refine V_pure (P_assign rfl) rfl rfl rfl ?_
    refine V_nil ?_
    refine thenQ_normal ?_
    refine T_seq ?_
    refine T_seq ?_
    refine T_region ?_
    refine V_pure (P_fieldAddr0 fo33_0 rfl) rfl rfl rfl ?_
    refine V_read (R_load sg22 rfl (mc_blk hb3 rfl)) rfl rfl rfl ?_
    refine V_pure (dt (P_geq rfl rfl) (by first | assumption | rfl | omega | decide)) rfl rfl rfl ?_
    refine V_pure (P_move rfl) rfl rfl rfl ?_
    refine V_pure (P_fieldAddr0 fo33_0 rfl) rfl rfl rfl ?_
    refine V_read (R_load sg22 rfl (mc_blk hb3 rfl)) rfl rfl rfl ?_
    refine V_pure (P_conv_int us22 ik3 rfl (w64 (by omega) (by omega))) rfl rfl rfl ?_
    refine V_pure (dt (P_lss rfl rfl) (by first | assumption | rfl | omega | decide)) rfl rfl rfl ?_
    refine V_pure (P_pick_t rfl rfl) rfl rfl rfl ?_
    refine V_nil ?_
    refine thenQ_normal ?_
    refine T_true rfl ?_
    refine T_region ?_
    refine V_pure (P_fieldAddr0 fo33_0 rfl) rfl rfl rfl ?_
    refine V_read (R_load sg22 rfl (mc_blk hb3 rfl)) rfl rfl rfl ?_
    refine V_pure (P_indexAddrArr ar69 rfl rfl (by omega) (by omega)) rfl rfl rfl ?_
    refine V_read (R_load sg68 rfl (mc_blk hb2 rfl)) rfl rfl rfl ?_
    refine V_pure (P_assign rfl) rfl rfl rfl ?_
    refine V_nil ?_
    refine thenQ_normal ?_
    refine T_seq ?_
    refine T_region ?_
    refine V_pure (P_move rfl) rfl rfl rfl ?_
    refine V_read (R_loadAt ag33 rfl rfl (At.blk hb3)) rfl rfl rfl ?_
    refine V_step (E_callV (by kernel_rfl) rfl rfl ((number_ok hx _ u (kle.out.trans hl1))) rfl ?_) rfl
    rintro _ h4 ⟨rfl, hl4⟩
    refine V_pure (P_not rfl) rfl rfl rfl ?_
    refine V_pure (P_assign rfl) rfl rfl rfl ?_
    refine V_nil ?_
    refine thenQ_normal ?_
    refine T_ret ?_
    refine retQ_ret1 rfl ?_
    exact ⟨by simp [rightE], hl1.trans hl4⟩
  · subst h0
    refine T_seq ?_
    refine T_region ?_
    refine V_step (E_box rfl rfl (fun b3 h1 hn1 hb3 hl1 => ?_)) rfl
    replace hb1 := hl1 _ _ hb1
    replace hb2 := hl1 _ _ hb2
    refine V_pure (P_assign rfl) rfl rfl rfl ?_
    refine V_nil ?_
    refine thenQ_normal ?_
    refine T_seq ?_
    refine T_region ?_
    refine V_read (R_loadAt ag65 rfl rfl (At.blk hb1)) rfl rfl rfl ?_
    refine V_pure (P_makeFunc rfl rfl) rfl rfl rfl ?_
    refine V_pure (P_assign rfl) rfl rfl rfl ?_
    refine V_nil ?_
    refine thenQ_normal ?_
    refine T_seq ?_
    refine T_seq ?_
    refine T_region ?_
    refine V_pure (P_fieldAddr0 fo33_0 rfl) rfl rfl rfl ?_
    refine V_read (R_load sg22 rfl (mc_blk hb3 rfl)) rfl rfl rfl ?_
    refine V_pure (dt (P_geq rfl rfl) (by first | assumption | rfl | omega | decide)) rfl rfl rfl ?_
    refine V_pure (P_move rfl) rfl rfl rfl ?_
    refine V_pure (P_fieldAddr0 fo33_0 rfl) rfl rfl rfl ?_
    refine V_read (R_load sg22 rfl (mc_blk hb3 rfl)) rfl rfl rfl ?_
    refine V_pure (P_conv_int us22 ik3 rfl (w64 (by omega) (by omega))) rfl rfl rfl ?_
    refine V_pure (dt (P_lss rfl rfl) (by first | assumption | rfl | omega | decide)) rfl rfl rfl ?_
    refine V_pure (P_pick_t rfl rfl) rfl rfl rfl ?_
    refine V_nil ?_
    refine thenQ_normal ?_
    refine T_true rfl ?_
    refine T_region ?_
    refine V_pure (P_fieldAddr0 fo33_0 rfl) rfl rfl rfl ?_
    refine V_read (R_load sg22 rfl (mc_blk hb3 rfl)) rfl rfl rfl ?_
    refine V_pure (P_indexAddrArr ar69 rfl rfl (by omega) (by omega)) rfl rfl rfl ?_
    refine V_read (R_load sg68 rfl (mc_blk hb2 rfl)) rfl rfl rfl ?_
    refine V_pure (P_assign rfl) rfl rfl rfl ?_
    refine V_nil ?_
    refine thenQ_normal ?_
    refine T_seq ?_
    refine T_region ?_
    refine V_pure (P_move rfl) rfl rfl rfl ?_
    refine V_read (R_loadAt ag33 rfl rfl (At.blk hb3)) rfl rfl rfl ?_
    refine V_step (E_callV (by kernel_rfl) rfl rfl ((number_ok hx _ u (kle.out.trans hl1))) rfl ?_) rfl
    rintro _ h4 ⟨rfl, hl4⟩
    refine V_pure (P_not rfl) rfl rfl rfl ?_
    refine V_pure (P_assign rfl) rfl rfl rfl ?_
    refine V_nil ?_
    refine thenQ_normal ?_
    refine T_ret ?_
    refine retQ_ret1 rfl ?_
    exact ⟨by simp [rightE], hl1.trans hl4⟩
  · subst h0
    refine T_seq ?_
    refine T_region ?_
    refine V_step (E_box rfl rfl (fun b3 h1 hn1 hb3 hl1 => ?_)) rfl
    replace hb1 := hl1 _ _ hb1
    replace hb2 := hl1 _ _ hb2
    refine V_pure (P_assign rfl) rfl rfl rfl ?_
    refine V_nil ?_
    refine thenQ_normal ?_
    refine T_seq ?_
    refine T_region ?_
    refine V_read (R_loadAt ag65 rfl rfl (At.blk hb1)) rfl rfl rfl ?_
    refine V_pure (P_makeFunc rfl rfl) rfl rfl rfl ?_
    refine V_pure (P_assign rfl) rfl rfl rfl ?_
    refine V_nil ?_
    refine thenQ_normal ?_
    refine T_seq ?_
    refine T_seq ?_
    refine T_region ?_
    refine V_pure (P_fieldAddr0 fo33_0 rfl) rfl rfl rfl ?_
    refine V_read (R_load sg22 rfl (mc_blk hb3 rfl)) rfl rfl rfl ?_
    refine V_pure (dt (P_geq rfl rfl) (by first | assumption | rfl | omega | decide)) rfl rfl rfl ?_
    refine V_pure (P_move rfl) rfl rfl rfl ?_
    refine V_pure (P_fieldAddr0 fo33_0 rfl) rfl rfl rfl ?_
    refine V_read (R_load sg22 rfl (mc_blk hb3 rfl)) rfl rfl rfl ?_
    refine V_pure (P_conv_int us22 ik3 rfl (w64 (by omega) (by omega))) rfl rfl rfl ?_
    refine V_pure (dt (P_lss rfl rfl) (by first | assumption | rfl | omega | decide)) rfl rfl rfl ?_
    refine V_pure (P_pick_t rfl rfl) rfl rfl rfl ?_
    refine V_nil ?_
    refine thenQ_normal ?_
    refine T_true rfl ?_
    refine T_region ?_
    refine V_pure (P_fieldAddr0 fo33_0 rfl) rfl rfl rfl ?_
    refine V_read (R_load sg22 rfl (mc_blk hb3 rfl)) rfl rfl rfl ?_
    refine V_pure (P_indexAddrArr ar69 rfl rfl (by omega) (by omega)) rfl rfl rfl ?_
    refine V_read (R_load sg68 rfl (mc_blk hb2 rfl)) rfl rfl rfl ?_
    refine V_pure (P_assign rfl) rfl rfl rfl ?_
    refine V_nil ?_
    refine thenQ_normal ?_
    refine T_seq ?_
    refine T_region ?_
    refine V_pure (P_move rfl) rfl rfl rfl ?_
    refine V_read (R_loadAt ag33 rfl rfl (At.blk hb3)) rfl rfl rfl ?_
    refine V_step (E_callV (by kernel_rfl) rfl rfl ((number_ok hx _ u (kle.out.trans hl1))) rfl ?_) rfl
    rintro _ h4 ⟨rfl, hl4⟩
    refine V_pure (P_not rfl) rfl rfl rfl ?_
    refine V_pure (P_assign rfl) rfl rfl rfl ?_
    refine V_nil ?_
    refine thenQ_normal ?_
    refine T_ret ?_
    refine retQ_ret1 rfl ?_
    exact ⟨by simp [rightE], hl1.trans hl4⟩
  · subst h0
    refine T_seq ?_
    refine T_region ?_
    refine V_step (E_box rfl rfl (fun b3 h1 hn1 hb3 hl1 => ?_)) rfl
    replace hb1 := hl1 _ _ hb1
    replace hb2 := hl1 _ _ hb2
    refine V_pure (P_assign rfl) rfl rfl rfl ?_
    refine V_nil ?_
    refine thenQ_normal ?_
    refine T_seq ?_
    refine T_region ?_
    refine V_read (R_loadAt ag65 rfl rfl (At.blk hb1)) rfl rfl rfl ?_
    refine V_pure (P_makeFunc rfl rfl) rfl rfl rfl ?_
    refine V_pure (P_assign rfl) rfl rfl rfl ?_
    refine V_nil ?_
    refine thenQ_normal ?_
    refine T_seq ?_
    refine T_seq ?_
    refine T_region ?_
    refine V_pure (P_fieldAddr0 fo33_0 rfl) rfl rfl rfl ?_
    refine V_read (R_load sg22 rfl (mc_blk hb3 rfl)) rfl rfl rfl ?_
    refine V_pure (dt (P_geq rfl rfl) (by first | assumption | rfl | omega | decide)) rfl rfl rfl ?_
    refine V_pure (P_move rfl) rfl rfl rfl ?_
    refine V_pure (P_fieldAddr0 fo33_0 rfl) rfl rfl rfl ?_
    refine V_read (R_load sg22 rfl (mc_blk hb3 rfl)) rfl rfl rfl ?_
    refine V_pure (P_conv_int us22 ik3 rfl (w64 (by omega) (by omega))) rfl rfl rfl ?_
    refine V_pure (dt (P_lss rfl rfl) (by first | assumption | rfl | omega | decide)) rfl rfl rfl ?_
    refine V_pure (P_pick_t rfl rfl) rfl rfl rfl ?_
    refine V_nil ?_
    refine thenQ_normal ?_
    refine T_true rfl ?_
    refine T_region ?_
    refine V_pure (P_fieldAddr0 fo33_0 rfl) rfl rfl rfl ?_
    refine V_read (R_load sg22 rfl (mc_blk hb3 rfl)) rfl rfl rfl ?_
    refine V_pure (P_indexAddrArr ar69 rfl rfl (by omega) (by omega)) rfl rfl rfl ?_
    refine V_read (R_load sg68 rfl (mc_blk hb2 rfl)) rfl rfl rfl ?_
    refine V_pure (P_assign rfl) rfl rfl rfl ?_
    refine V_nil ?_
    refine thenQ_normal ?_
    refine T_seq ?_
    refine T_region ?_
    refine V_pure (P_move rfl) rfl rfl rfl ?_
    refine V_read (R_loadAt ag33 rfl rfl (At.blk hb3)) rfl rfl rfl ?_
    refine V_step (E_callV (by kernel_rfl) rfl rfl ((public_ok _ u _)) rfl ?_) rfl
    rintro _ h4 ⟨rfl, hl4⟩
    refine V_pure (P_not rfl) rfl rfl rfl ?_
    refine V_pure (P_assign rfl) rfl rfl rfl ?_
    refine V_nil ?_
    refine thenQ_normal ?_
    refine T_ret ?_
    refine retQ_ret1 rfl ?_
    exact ⟨by simp [rightE], hl1.trans hl4⟩
  · subst h0
    refine T_seq ?_
    refine T_region ?_
    refine V_step (E_box rfl rfl (fun b3 h1 hn1 hb3 hl1 => ?_)) rfl
    replace hb1 := hl1 _ _ hb1
    replace hb2 := hl1 _ _ hb2
    refine V_pure (P_assign rfl) rfl rfl rfl ?_
    refine V_nil ?_
    refine thenQ_normal ?_
    refine T_seq ?_
    refine T_region ?_
    refine V_read (R_loadAt ag65 rfl rfl (At.blk hb1)) rfl rfl rfl ?_
    refine V_pure (P_makeFunc rfl rfl) rfl rfl rfl ?_
    refine V_pure (P_assign rfl) rfl rfl rfl ?_
    refine V_nil ?_
    refine thenQ_normal ?_
    refine T_seq ?_
    refine T_seq ?_
    refine T_region ?_
    refine V_pure (P_fieldAddr0 fo33_0 rfl) rfl rfl rfl ?_
    refine V_read (R_load sg22 rfl (mc_blk hb3 rfl)) rfl rfl rfl ?_
    refine V_pure (dt (P_geq rfl rfl) (by first | assumption | rfl | omega | decide)) rfl rfl rfl ?_
    refine V_pure (P_move rfl) rfl rfl rfl ?_
    refine V_pure (P_fieldAddr0 fo33_0 rfl) rfl rfl rfl ?_
    refine V_read (R_load sg22 rfl (mc_blk hb3 rfl)) rfl rfl rfl ?_
    refine V_pure (P_conv_int us22 ik3 rfl (w64 (by omega) (by omega))) rfl rfl rfl ?_
    refine V_pure (dt (P_lss rfl rfl) (by first | assumption | rfl | omega | decide)) rfl rfl rfl ?_
    refine V_pure (P_pick_t rfl rfl) rfl rfl rfl ?_
    refine V_nil ?_
    refine thenQ_normal ?_
    refine T_true rfl ?_
    refine T_region ?_
    refine V_pure (P_fieldAddr0 fo33_0 rfl) rfl rfl rfl ?_
    refine V_read (R_load sg22 rfl (mc_blk hb3 rfl)) rfl rfl rfl ?_
    refine V_pure (P_indexAddrArr ar69 rfl rfl (by omega) (by omega)) rfl rfl rfl ?_
    refine V_read (R_load sg68 rfl (mc_blk hb2 rfl)) rfl rfl rfl ?_
    refine V_pure (P_assign rfl) rfl rfl rfl ?_
    refine V_nil ?_
    refine thenQ_normal ?_
    refine T_seq ?_
    refine T_region ?_
    refine V_pure (P_move rfl) rfl rfl rfl ?_
    refine V_read (R_loadAt ag33 rfl rfl (At.blk hb3)) rfl rfl rfl ?_
    refine V_step (E_callV (by kernel_rfl) rfl rfl ((look_ok hx _ u (kle.out.trans hl1))) rfl ?_) rfl
    rintro _ h4 ⟨rfl, hl4⟩
    refine V_pure (P_not rfl) rfl rfl rfl ?_
    refine V_pure (P_assign rfl) rfl rfl rfl ?_
    refine V_nil ?_
    refine thenQ_normal ?_
    refine T_ret ?_
    refine retQ_ret1 rfl ?_
    exact ⟨by simp [rightE], hl1.trans hl4⟩
  · subst h0
    refine T_seq ?_
    refine T_region ?_
    refine V_step (E_box rfl rfl (fun b3 h1 hn1 hb3 hl1 => ?_)) rfl
    replace hb1 := hl1 _ _ hb1
    replace hb2 := hl1 _ _ hb2
    refine V_pure (P_assign rfl) rfl rfl rfl ?_
    refine V_nil ?_
    refine thenQ_normal ?_
    refine T_seq ?_
    refine T_region ?_
    refine V_read (R_loadAt ag65 rfl rfl (At.blk hb1)) rfl rfl rfl ?_
    refine V_pure (P_makeFunc rfl rfl) rfl rfl rfl ?_
    refine V_pure (P_assign rfl) rfl rfl rfl ?_
    refine V_nil ?_
    refine thenQ_normal ?_
    refine T_seq ?_
    refine T_seq ?_
    refine T_region ?_
    refine V_pure (P_fieldAddr0 fo33_0 rfl) rfl rfl rfl ?_
    refine V_read (R_load sg22 rfl (mc_blk hb3 rfl)) rfl rfl rfl ?_
    refine V_pure (dt (P_geq rfl rfl) (by first | assumption | rfl | omega | decide)) rfl rfl rfl ?_
    refine V_pure (P_move rfl) rfl rfl rfl ?_
    refine V_pure (P_fieldAddr0 fo33_0 rfl) rfl rfl rfl ?_
    refine V_read (R_load sg22 rfl (mc_blk hb3 rfl)) rfl rfl rfl ?_
    refine V_pure (P_conv_int us22 ik3 rfl (w64 (by omega) (by omega))) rfl rfl rfl ?_
    refine V_pure (dt (P_lss rfl rfl) (by first | assumption | rfl | omega | decide)) rfl rfl rfl ?_
    refine V_pure (P_pick_t rfl rfl) rfl rfl rfl ?_
    refine V_nil ?_
    refine thenQ_normal ?_
    refine T_true rfl ?_
    refine T_region ?_
    refine V_pure (P_fieldAddr0 fo33_0 rfl) rfl rfl rfl ?_
    refine V_read (R_load sg22 rfl (mc_blk hb3 rfl)) rfl rfl rfl ?_
    refine V_pure (P_indexAddrArr ar69 rfl rfl (by omega) (by omega)) rfl rfl rfl ?_
    refine V_read (R_load sg68 rfl (mc_blk hb2 rfl)) rfl rfl rfl ?_
    refine V_pure (P_assign rfl) rfl rfl rfl ?_
    refine V_nil ?_
    refine thenQ_normal ?_
    refine T_seq ?_
    refine T_region ?_
    refine V_pure (P_move rfl) rfl rfl rfl ?_
    refine V_read (R_loadAt ag33 rfl rfl (At.blk hb3)) rfl rfl rfl ?_
    refine V_step (E_callV (by kernel_rfl) rfl rfl ((public_ok _ u _)) rfl ?_) rfl
    rintro _ h4 ⟨rfl, hl4⟩
    refine V_pure (P_not rfl) rfl rfl rfl ?_
    refine V_pure (P_assign rfl) rfl rfl rfl ?_
    refine V_nil ?_
    refine thenQ_normal ?_
    refine T_ret ?_
    refine retQ_ret1 rfl ?_
    exact ⟨by simp [rightE], hl1.trans hl4⟩
  · subst h0
    refine T_seq ?_
    refine T_region ?_
    refine V_step (E_box rfl rfl (fun b3 h1 hn1 hb3 hl1 => ?_)) rfl
    replace hb1 := hl1 _ _ hb1
    replace hb2 := hl1 _ _ hb2
    refine V_pure (P_assign rfl) rfl rfl rfl ?_
    refine V_nil ?_
    refine thenQ_normal ?_
    refine T_seq ?_
    refine T_region ?_
    refine V_read (R_loadAt ag65 rfl rfl (At.blk hb1)) rfl rfl rfl ?_
    refine V_pure (P_makeFunc rfl rfl) rfl rfl rfl ?_
    refine V_pure (P_assign rfl) rfl rfl rfl ?_
    refine V_nil ?_
    refine thenQ_normal ?_
    refine T_seq ?_
    refine T_seq ?_
    refine T_region ?_
    refine V_pure (P_fieldAddr0 fo33_0 rfl) rfl rfl rfl ?_
    refine V_read (R_load sg22 rfl (mc_blk hb3 rfl)) rfl rfl rfl ?_
    refine V_pure (dt (P_geq rfl rfl) (by first | assumption | rfl | omega | decide)) rfl rfl rfl ?_
    refine V_pure (P_move rfl) rfl rfl rfl ?_
    refine V_pure (P_fieldAddr0 fo33_0 rfl) rfl rfl rfl ?_
    refine V_read (R_load sg22 rfl (mc_blk hb3 rfl)) rfl rfl rfl ?_
    refine V_pure (P_conv_int us22 ik3 rfl (w64 (by omega) (by omega))) rfl rfl rfl ?_
    refine V_pure (dt (P_lss rfl rfl) (by first | assumption | rfl | omega | decide)) rfl rfl rfl ?_
    refine V_pure (P_pick_t rfl rfl) rfl rfl rfl ?_
    refine V_nil ?_
    refine thenQ_normal ?_
    refine T_true rfl ?_
    refine T_region ?_
    refine V_pure (P_fieldAddr0 fo33_0 rfl) rfl rfl rfl ?_
    refine V_read (R_load sg22 rfl (mc_blk hb3 rfl)) rfl rfl rfl ?_
    refine V_pure (P_indexAddrArr ar69 rfl rfl (by omega) (by omega)) rfl rfl rfl ?_
    refine V_read (R_load sg68 rfl (mc_blk hb2 rfl)) rfl rfl rfl ?_
    refine V_pure (P_assign rfl) rfl rfl rfl ?_
    refine V_nil ?_
    refine thenQ_normal ?_
    refine T_seq ?_
    refine T_region ?_
    refine V_pure (P_move rfl) rfl rfl rfl ?_
    refine V_read (R_loadAt ag33 rfl rfl (At.blk hb3)) rfl rfl rfl ?_
    refine V_step (E_callV (by kernel_rfl) rfl rfl ((public_ok _ u _)) rfl ?_) rfl
    rintro _ h4 ⟨rfl, hl4⟩
    refine V_pure (P_not rfl) rfl rfl rfl ?_
    refine V_pure (P_assign rfl) rfl rfl rfl ?_
    refine V_nil ?_
    refine thenQ_normal ?_
    refine T_ret ?_
    refine retQ_ret1 rfl ?_
    exact ⟨by simp [rightE], hl1.trans hl4⟩
  · subst h0
    refine T_seq ?_
    refine T_region ?_
    refine V_step (E_box rfl rfl (fun b3 h1 hn1 hb3 hl1 => ?_)) rfl
    replace hb1 := hl1 _ _ hb1
    replace hb2 := hl1 _ _ hb2
    refine V_pure (P_assign rfl) rfl rfl rfl ?_
    refine V_nil ?_
    refine thenQ_normal ?_
    refine T_seq ?_
    refine T_region ?_
    refine V_read (R_loadAt ag65 rfl rfl (At.blk hb1)) rfl rfl rfl ?_
    refine V_pure (P_makeFunc rfl rfl) rfl rfl rfl ?_
    refine V_pure (P_assign rfl) rfl rfl rfl ?_
    refine V_nil ?_
    refine thenQ_normal ?_
    refine T_seq ?_
    refine T_seq ?_
    refine T_region ?_
    refine V_pure (P_fieldAddr0 fo33_0 rfl) rfl rfl rfl ?_
    refine V_read (R_load sg22 rfl (mc_blk hb3 rfl)) rfl rfl rfl ?_
    refine V_pure (dt (P_geq rfl rfl) (by first | assumption | rfl | omega | decide)) rfl rfl rfl ?_
    refine V_pure (P_move rfl) rfl rfl rfl ?_
    refine V_pure (P_fieldAddr0 fo33_0 rfl) rfl rfl rfl ?_
    refine V_read (R_load sg22 rfl (mc_blk hb3 rfl)) rfl rfl rfl ?_
    refine V_pure (P_conv_int us22 ik3 rfl (w64 (by omega) (by omega))) rfl rfl rfl ?_
    refine V_pure (dt (P_lss rfl rfl) (by first | assumption | rfl | omega | decide)) rfl rfl rfl ?_
    refine V_pure (P_pick_t rfl rfl) rfl rfl rfl ?_
    refine V_nil ?_
    refine thenQ_normal ?_
    refine T_true rfl ?_
    refine T_region ?_
    refine V_pure (P_fieldAddr0 fo33_0 rfl) rfl rfl rfl ?_
    refine V_read (R_load sg22 rfl (mc_blk hb3 rfl)) rfl rfl rfl ?_
    refine V_pure (P_indexAddrArr ar69 rfl rfl (by omega) (by omega)) rfl rfl rfl ?_
    refine V_read (R_load sg68 rfl (mc_blk hb2 rfl)) rfl rfl rfl ?_
    refine V_pure (P_assign rfl) rfl rfl rfl ?_
    refine V_nil ?_
    refine thenQ_normal ?_
    refine T_seq ?_
    refine T_region ?_
    refine V_pure (P_move rfl) rfl rfl rfl ?_
    refine V_read (R_loadAt ag33 rfl rfl (At.blk hb3)) rfl rfl rfl ?_
    refine V_step (E_callV (by kernel_rfl) rfl rfl ((branch_ok hx hk _ u (kle.out.trans hl1))) rfl ?_) rfl
    rintro _ h4 ⟨rfl, hl4⟩
    refine V_pure (P_not rfl) rfl rfl rfl ?_
    refine V_pure (P_assign rfl) rfl rfl rfl ?_
    refine V_nil ?_
    refine thenQ_normal ?_
    refine T_ret ?_
    refine retQ_ret1 rfl ?_
    exact ⟨by simp [rightE], hl1.trans hl4⟩
  · refine T_seq ?_
    refine T_region ?_
    refine V_step (E_box rfl rfl (fun b3 h1 hn1 hb3 hl1 => ?_)) rfl
    replace hb1 := hl1 _ _ hb1
    replace hb2 := hl1 _ _ hb2
    refine V_pure (P_assign rfl) rfl rfl rfl ?_
    refine V_nil ?_
    refine thenQ_normal ?_
    refine T_seq ?_
    refine T_region ?_
    refine V_read (R_loadAt ag65 rfl rfl (At.blk hb1)) rfl rfl rfl ?_
    refine V_pure (P_makeFunc rfl rfl) rfl rfl rfl ?_
    refine V_pure (P_assign rfl) rfl rfl rfl ?_
    refine V_nil ?_
    refine thenQ_normal ?_
    refine T_seq ?_
    refine T_seq ?_
    refine T_region ?_
    refine V_pure (P_fieldAddr0 fo33_0 rfl) rfl rfl rfl ?_
    refine V_read (R_load sg22 rfl (mc_blk hb3 rfl)) rfl rfl rfl ?_
    refine V_pure (df (P_geq rfl rfl) (by first | assumption | omega | decide | exact fun hx => hx (by assumption))) rfl rfl rfl ?_
    refine V_pure (P_move rfl) rfl rfl rfl ?_
    refine V_skip rfl rfl rfl ?_
    refine V_skip rfl rfl rfl ?_
    refine V_skip rfl rfl rfl ?_
    refine V_skip rfl rfl rfl ?_
    refine V_pure (P_pick_f rfl rfl) rfl rfl rfl ?_
    refine V_nil ?_
    refine thenQ_normal ?_
    refine T_false rfl ?_
    refine T_skip ?_
    refine thenQ_normal ?_
    refine T_seq ?_
    refine T_region ?_
    refine V_pure (P_move rfl) rfl rfl rfl ?_
    refine V_read (R_loadAt ag33 rfl rfl (At.blk hb3)) rfl rfl rfl ?_
    refine V_step (E_callV (by kernel_rfl) rfl rfl ((public_ok _ u _)) rfl ?_) rfl
    rintro _ h4 ⟨rfl, hl4⟩
    refine V_pure (P_not rfl) rfl rfl rfl ?_
    refine V_pure (P_assign rfl) rfl rfl rfl ?_
    refine V_nil ?_
    refine thenQ_normal ?_
    refine T_ret ?_
    refine retQ_ret1 rfl ?_
    exact ⟨by rw [rightE, if_neg (by omega), if_neg (by omega), if_neg (by omega)], hl1.trans hl4⟩
  · refine T_seq ?_
    refine T_region ?_
    refine V_step (E_box rfl rfl (fun b3 h1 hn1 hb3 hl1 => ?_)) rfl
    replace hb1 := hl1 _ _ hb1
    replace hb2 := hl1 _ _ hb2
    refine V_pure (P_assign rfl) rfl rfl rfl ?_
    refine V_nil ?_
    refine thenQ_normal ?_
    refine T_seq ?_
    refine T_region ?_
    refine V_read (R_loadAt ag65 rfl rfl (At.blk hb1)) rfl rfl rfl ?_
    refine V_pure (P_makeFunc rfl rfl) rfl rfl rfl ?_
    refine V_pure (P_assign rfl) rfl rfl rfl ?_
    refine V_nil ?_
    refine thenQ_normal ?_
    refine T_seq ?_
    refine T_seq ?_
    refine T_region ?_
    refine V_pure (P_fieldAddr0 fo33_0 rfl) rfl rfl rfl ?_
    refine V_read (R_load sg22 rfl (mc_blk hb3 rfl)) rfl rfl rfl ?_
    refine V_pure (dt (P_geq rfl rfl) (by first | assumption | rfl | omega | decide)) rfl rfl rfl ?_
    refine V_pure (P_move rfl) rfl rfl rfl ?_
    refine V_pure (P_fieldAddr0 fo33_0 rfl) rfl rfl rfl ?_
    refine V_read (R_load sg22 rfl (mc_blk hb3 rfl)) rfl rfl rfl ?_
    refine V_pure (P_conv_int us22 ik3 rfl (w64 (by omega) (by omega))) rfl rfl rfl ?_
    refine V_pure (df (P_lss rfl rfl) (by first | assumption | omega | decide | exact fun hx => hx (by assumption))) rfl rfl rfl ?_
    refine V_pure (P_pick_t rfl rfl) rfl rfl rfl ?_
    refine V_nil ?_
    refine thenQ_normal ?_
    refine T_false rfl ?_
    refine T_skip ?_
    refine thenQ_normal ?_
    refine T_seq ?_
    refine T_region ?_
    refine V_pure (P_move rfl) rfl rfl rfl ?_
    refine V_read (R_loadAt ag33 rfl rfl (At.blk hb3)) rfl rfl rfl ?_
    refine V_step (E_callV (by kernel_rfl) rfl rfl ((public_ok _ u _)) rfl ?_) rfl
    rintro _ h4 ⟨rfl, hl4⟩
    refine V_pure (P_not rfl) rfl rfl rfl ?_
    refine V_pure (P_assign rfl) rfl rfl rfl ?_
    refine V_nil ?_
    refine thenQ_normal ?_
    refine T_ret ?_
    refine retQ_ret1 rfl ?_
    exact ⟨by rw [rightE, if_neg (by omega), if_neg (by omega), if_neg (by omega)], hl1.trans hl4⟩
end Go.Proofs.Ytigmehimficmlaa
