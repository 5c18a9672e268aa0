/- A part of the proof: contracts of functions of the program. No condition. -/
import Derived.Test.YtigmehimficmlaaLaF
namespace Go.Proofs.Ytigmehimficmlaa
open Go.Eng La

def impL : List UInt8 := [73, 109, 112]
def holdsV : List Value := [.int .i8 6, .int .i8 0, .string (bs impL), .slice none 0 0, .slice none 0 0]
theorem holds_ok (h : Heap) : C Try.prog 23 [].toArray h fun v h' => v = .agg holdsV.toArray ∧ Le (mp h) (mp h') := by
  refine C_ofc [.cell 0 28] Try.func23 rfl rfl rfl ?_
  refine T_seq ?_
  refine T_region ?_
  refine V_step (E_alloc zl28 rfl (fun b1 h1 hn1 hb1 hl1 => ?_)) rfl
  refine V_nil ?_
  refine thenQ_normal ?_
  refine T_seq ?_
  refine T_region ?_
  refine V_pure (P_build zl28 pl28 rfl rfl) rfl rfl rfl ?_
  refine V_step (E_storeAgg ag28 rfl rfl rfl hb1 rfl rfl (fun h2 hb2 hl2 hn2 => ?_)) rfl
  refine V_nil ?_
  refine thenQ_normal ?_
  refine T_ret ?_
  refine retC_blk rfl hb2 ag28 ?_
  exact ⟨rfl, hl1.stored hn1 hl2⟩
theorem NumR.leaf (m : Mp) {op n who : Int} (h : In8 op) : NumR m [.int .i8 op, .int .i64 n, .int .i8 who, .slice none 0 0] (.mk op n who []) :=
  .mk (vs := []) h rfl (Nat.zero_le _) (Rd.nil _ _) rfl fun i hi => absurd hi (by simp)
theorem CondR.leaf (m : Mp) {op who : Int} {name : List UInt8} (h : In8 op) (hw : In8 who) (hn : name.length ≤ maxLen) : CondR m [.int .i8 op, .int .i8 who, .string (bs name), .slice none 0 0, .slice none 0 0] (.mk op who name [] []) :=
  .mk (vs := []) (us := []) h hw hn rfl (Nat.zero_le _) (Rd.nil _ _) rfl (fun i hi => absurd hi (by simp)) rfl (Nat.zero_le _) (Rd.nil _ _) rfl (fun i hi => absurd hi (by simp))
theorem EffsR.nil (m : Mp) : EffsR m none 0 [] := ⟨rfl, Nat.zero_le _, [], Rd.nil _ _, rfl, fun i hi => absurd hi (by simp)⟩
def effV (op who nop nn nwho cop cwho : Int) (cname : List UInt8) (A : Option Addr) (la : Nat) : List Value :=
  [.int .i8 op, .int .i8 who, .int .i8 nop, .int .i64 nn, .int .i8 nwho, .slice none 0 0, .string (bs []), .int .i8 cop, .int .i8 cwho, .string (bs cname), .slice none 0 0, .slice none 0 0, .slice A la la, .slice none 0 0]
theorem EffR.of {m : Mp} {op who nop nn nwho cop cwho : Int} {cname : List UInt8} {A : Option Addr} {la : Nat} {thn : List EffT} (h1 : In8 op) (h2 : In8 who) (h3 : In8 nop) (h4 : In8 cop) (h5 : In8 cwho) (hn : cname.length ≤ maxLen) (hA : EffsR m A la thn) :
    EffR m (effV op who nop nn nwho cop cwho cname A la) (.mk op who (.mk nop nn nwho []) [] (.mk cop cwho cname [] []) thn []) := by
  obtain ⟨hl, hm, vs, hr, hv, hk⟩ := hA
  exact .mk (name := []) (ns := [.int .i8 nop, .int .i64 nn, .int .i8 nwho, .slice none 0 0]) (cs := [.int .i8 cop, .int .i8 cwho, .string (bs cname), .slice none 0 0, .slice none 0 0]) (vs := vs) (us := []) h1 h2 (NumR.leaf m h3) (Nat.zero_le _) (CondR.leaf m h4 h5 hn)
    hl hm hr hv hk rfl (Nat.zero_le _) (Rd.nil _ _) rfl (fun i hi => absurd hi (by simp))
theorem EffsR.one {m : Mp} {b : Nat} {cs : List Value} {x : EffT} {e : TypeId} {fr : Nat × Nat} (hb : m b = some (.cells cs.toArray e fr)) (hx : EffR m cs x) : EffsR m (some ⟨b, 0, none⟩) 1 [x] := by
  have hl := hx.len
  refine ⟨rfl, by decide, cs, Rd.blk hb, by rw [hl]; rfl, fun i hi => ?_⟩
  have : i = 0 := by simp at hi; omega
  subst this
  rw [Nat.zero_mul, List.drop_zero, List.take_of_length_le (by omega)]
  exact hx
theorem EffsR.two {m : Mp} {b : Nat} {cs ds : List Value} {x y : EffT} {e : TypeId} {fr : Nat × Nat} (hb : m b = some (.cells (cs ++ ds).toArray e fr)) (hx : EffR m cs x) (hy : EffR m ds y) : EffsR m (some ⟨b, 0, none⟩) 2 [x, y] := by
  have hl := hx.len
  have hl2 := hy.len
  refine ⟨rfl, by decide, cs ++ ds, Rd.blk hb, by rw [List.length_append, hl, hl2]; rfl, fun i hi => ?_⟩
  have : i = 0 ∨ i = 1 := by simp at hi; omega
  rcases this with rfl | rfl
  · rw [Nat.zero_mul, List.drop_zero, List.take_append_of_le_length (by omega), List.take_of_length_le (by omega)]
    exact hx
  · rw [Nat.one_mul, List.drop_append_of_le_length (by omega), List.drop_of_length_le (by omega), List.nil_append, List.take_of_length_le (by omega)]
    exact hy
theorem CardsR.two {m : Mp} {b : Nat} {cs ds : List Value} {x y : CardT} {e : TypeId} {fr : Nat × Nat} (hb : m b = some (.cells (cs ++ ds).toArray e fr)) (hx : CardR m cs x) (hy : CardR m ds y) : CardsR m (some ⟨b, 0, none⟩) 2 [x, y] := by
  have hl : cs.length = 12 := by obtain ⟨_, _, _, _, _, _, _, _, _, rfl, _⟩ := hx; rfl
  have hl2 : ds.length = 12 := by obtain ⟨_, _, _, _, _, _, _, _, _, rfl, _⟩ := hy; rfl
  refine ⟨rfl, by decide, cs ++ ds, Rd.blk hb, by rw [List.length_append, hl, hl2]; rfl, fun i hi => ?_⟩
  have : i = 0 ∨ i = 1 := by simp at hi; omega
  rcases this with rfl | rfl
  · rw [Nat.zero_mul, List.drop_zero, List.take_append_of_le_length (by omega), List.take_of_length_le (by omega)]
    exact hx
  · rw [Nat.one_mul, List.drop_append_of_le_length (by omega), List.drop_of_length_le (by omega), List.nil_append, List.take_of_length_le (by omega)]
    exact hy
def lookT : EffT := .mk 5 0 (.mk 0 1 0 []) [] (.mk 0 0 [] [] []) [] []
def gainT : EffT := .mk 3 0 (.mk 0 1 0 []) [] (.mk 0 0 [] [] []) [] []
def topT : EffT := .mk 5 0 (.mk 6 0 0 []) [] (.mk 0 0 [] [] []) [] []
def foeT : EffT := .mk 0 1 (.mk 2 0 1 []) [] (.mk 0 0 [] [] []) [] []
def aT : EffT := .mk 8 0 (.mk 0 0 0 []) [] (.mk 6 0 impL [] []) [lookT] []
def bT : EffT := .mk 8 0 (.mk 0 0 0 []) [] (.mk 6 0 impL [] []) [gainT] []
theorem r1 : rightS 0 [aT, foeT] = true := by rfl
theorem r2 : rightS 0 [bT] = false := by rfl
theorem r3 : rightS 0 [topT] = false := by rfl
set_option maxHeartbeats 4000000 in
theorem wakes_ok (h : Heap) : C Try.prog 8 [].toArray h fun v h' => v = .bool true ∧ Le (mp h) (mp h') := by
  refine C_of [0] Try.func8 rfl rfl rfl ?_
  refine T_seq ?_
  refine T_region ?_
  refine V_pure (P_assign rfl) rfl rfl rfl ?_
  refine V_nil ?_
  refine thenQ_normal ?_
  refine T_seq ?_
  refine T_region ?_
  refine V_pure (P_build zl25 pl25 rfl rfl) rfl rfl rfl ?_
  refine V_pure (P_build zl33 pl33 rfl rfl) rfl rfl rfl ?_
  refine V_step (E_alloc zl33 rfl (fun b1 h1 hn1 hb1 hl1 => ?_)) rfl
  refine V_step (E_storeAgg ag33 rfl rfl rfl hb1 rfl rfl (fun h2 hb2 hl2 hn2 => ?_)) rfl
  refine V_nil ?_
  refine thenQ_normal ?_
  refine T_seq ?_
  refine T_region ?_
  have A1 := Kept.mk (show mp h2 b1 = some (.cells (effV 5 0 0 1 0 0 0 [] none 0).toArray 33 (0, 0)) from hb2)
  have L1 := Kept.mk (hl1.stored hn1 hl2)
  clear hl1 hn1 hl2 hn2 hb1 hb2
  refine V_pure (P_build zl25 pl25 rfl rfl) rfl rfl rfl ?_
  refine V_pure (P_build zl33 pl33 rfl rfl) rfl rfl rfl ?_
  refine V_step (E_alloc zl33 rfl (fun b2 h3 hn1 hb1 hl1 => ?_)) rfl
  refine V_step (E_storeAgg ag33 rfl rfl rfl hb1 rfl rfl (fun h4 hb2 hl2 hn2 => ?_)) rfl
  refine V_nil ?_
  refine thenQ_normal ?_
  refine T_seq ?_
  refine T_region ?_
  have l2 := hl1.stored hn1 hl2
  have A2 := Kept.mk (show mp h4 b2 = some (.cells (effV 3 0 0 1 0 0 0 [] none 0).toArray 33 (0, 0)) from hb2)
  replace A1 := Kept.mk (l2 _ _ A1.out)
  replace L1 := Kept.mk (L1.out.trans l2)
  clear hl1 hn1 hl2 hn2 hb1 hb2 l2
  refine V_pure (P_build zl25 pl25 rfl rfl) rfl rfl rfl ?_
  refine V_pure (P_build zl33 pl33 rfl rfl) rfl rfl rfl ?_
  refine V_step (E_alloc zl33 rfl (fun b3 h5 hn1 hb1 hl1 => ?_)) rfl
  refine V_step (E_storeAgg ag33 rfl rfl rfl hb1 rfl rfl (fun h6 hb2 hl2 hn2 => ?_)) rfl
  refine V_nil ?_
  refine thenQ_normal ?_
  refine T_seq ?_
  refine T_region ?_
  have l2 := hl1.stored hn1 hl2
  have A3 := Kept.mk (show mp h6 b3 = some (.cells (effV 5 0 6 0 0 0 0 [] none 0).toArray 33 (0, 0)) from hb2)
  replace A1 := Kept.mk (l2 _ _ A1.out)
  replace A2 := Kept.mk (l2 _ _ A2.out)
  replace L1 := Kept.mk (L1.out.trans l2)
  clear hl1 hn1 hl2 hn2 hb1 hb2 l2
  refine V_pure (P_build zl25 pl25 rfl rfl) rfl rfl rfl ?_
  refine V_pure (P_build zl33 pl33 rfl rfl) rfl rfl rfl ?_
  refine V_step (E_alloc zl33 rfl (fun b4 h7 hn1 hb1 hl1 => ?_)) rfl
  refine V_step (E_storeAgg ag33 rfl rfl rfl hb1 rfl rfl (fun h8 hb2 hl2 hn2 => ?_)) rfl
  refine V_nil ?_
  refine thenQ_normal ?_
  refine T_seq ?_
  have l2 := hl1.stored hn1 hl2
  have A4 := Kept.mk (show mp h8 b4 = some (.cells (effV 0 1 2 0 1 0 0 [] none 0).toArray 33 (0, 0)) from hb2)
  replace A1 := Kept.mk (l2 _ _ A1.out)
  replace A2 := Kept.mk (l2 _ _ A2.out)
  replace A3 := Kept.mk (l2 _ _ A3.out)
  replace L1 := Kept.mk (L1.out.trans l2)
  clear hl1 hn1 hl2 hn2 hb1 hb2 l2
  have hEA := A1.out
  refine T_cut (fun y : Nat × Nat => [(1, ptr b1), (2, ptr b2), (3, ptr b3), (4, ptr b4), (5, ptr y.1)]) (fun y h' => mp h' y.1 = some (.cells (effV 8 0 0 0 0 6 0 impL (some ⟨y.2, 0, none⟩) 1).toArray 33 (0, 0)) ∧ mp h' y.2 = some (.cells (effV 5 0 0 1 0 0 0 [] none 0).toArray 33 (0, 0)) ∧ Le (mp h8) (mp h')) ?_ ?_
  · have L0 := Le.refl (mp h8)
    clear A1 A2 A3 A4 L1
    refine T_drawT (.step 1 .read (.fork (.fork (.step 0 .kept (.fork (.step 2 .kept (.step 3 .pure (.step 4 .kept (.step 5 .wild (.done))))) (.step 4 .kept (.step 2 .kept (.step 3 .pure (.step 5 .wild (.done))))))) (.step 2 .kept (.fork (.step 0 .kept (.step 3 .pure (.step 4 .kept (.step 5 .wild (.done))))) (.step 4 .kept (.step 0 .kept (.step 3 .pure (.step 5 .wild (.done)))))))) (.step 4 .kept (.fork (.step 0 .kept (.step 2 .kept (.step 3 .pure (.step 5 .wild (.done))))) (.step 2 .kept (.step 0 .kept (.step 3 .pure (.step 5 .wild (.done))))))))) mixed (by kernel_rfl) (fun _ _ _ _ hq => hq) ?_
    refine VT_read rfl (R_loadAt ag33 rfl rfl (At.blk hEA)) rfl rfl rfl ?_
    refine VT_fork ?_ ?_
    refine VT_fork ?_ ?_
    · refine VT_kept rfl (E_call cl23 rfl ((holds_ok _)) rfl ?_) rfl
      rintro _ h9 ⟨rfl, l9⟩
      refine ⟨l9, ?_⟩
      replace hEA := l9 _ _ hEA
      replace L0 := Le.trans L0 l9
      clear l9
      refine VT_fork ?_ ?_
      · refine VT_kept rfl (E_buildSlice sl31 rfl rfl rfl rfl (fun b5 h10 hn1 hb1 hl1 => ⟨hl1, ?_⟩)) rfl
        replace hEA := hl1 _ _ hEA
        replace L0 := Le.trans L0 hl1
        refine VT_pure rfl (P_build zl33 pl33 rfl rfl) rfl rfl rfl ?_
        have kL := Kept.mk L0
        have kb := Kept.mk hb1
        refine VT_kept rfl (E_alloc zl33 rfl (fun b6 h11 hn2 hb2 hl2 => ⟨hl2, ?_⟩)) rfl
        replace hb1 := hl2 _ _ hb1
        replace hl1 := Le.trans hl1 hl2
        replace hEA := hl2 _ _ hEA
        replace L0 := Le.trans L0 hl2
        refine VT_wild rfl rfl (E_storeAgg ag33 rfl rfl rfl hb2 rfl rfl (fun h12 hb3 hl3 hn3 => ?_)) rfl
        refine VT_nil ?_
        exact ⟨(b6, b5), ⟨rfl, rfl, rfl, rfl, rfl, trivial⟩, ⟨hb3, (hl3 _ (ne_of kb.out hn2)).trans hb1, L0.stored (kL.out.none hn2) hl3⟩, Nat.zero_lt_one⟩
      · have kL := Kept.mk L0
        refine VT_kept rfl (E_alloc zl33 rfl (fun b5 h10 hn1 hb1 hl1 => ⟨hl1, ?_⟩)) rfl
        replace hEA := hl1 _ _ hEA
        replace L0 := Le.trans L0 hl1
        have kb := Kept.mk hb1
        refine VT_kept rfl (E_buildSlice sl31 rfl rfl rfl rfl (fun b6 h11 hn2 hb2 hl2 => ⟨hl2, ?_⟩)) rfl
        replace hb1 := hl2 _ _ hb1
        replace hl1 := Le.trans hl1 hl2
        replace hEA := hl2 _ _ hEA
        replace L0 := Le.trans L0 hl2
        refine VT_pure rfl (P_build zl33 pl33 rfl rfl) rfl rfl rfl ?_
        refine VT_wild rfl rfl (E_storeAgg ag33 rfl rfl rfl hb1 rfl rfl (fun h12 hb3 hl3 hn3 => ?_)) rfl
        refine VT_nil ?_
        exact ⟨(b5, b6), ⟨rfl, rfl, rfl, rfl, rfl, trivial⟩, ⟨hb3, (hl3 _ (ne_of kb.out hn2).symm).trans hb2, L0.stored (kL.out.none hn1) hl3⟩, Nat.zero_lt_one⟩
    · refine VT_kept rfl (E_buildSlice sl31 rfl rfl rfl rfl (fun b5 h9 hn1 hb1 hl1 => ⟨hl1, ?_⟩)) rfl
      replace hEA := hl1 _ _ hEA
      replace L0 := Le.trans L0 hl1
      refine VT_fork ?_ ?_
      · refine VT_kept rfl (E_call cl23 rfl ((holds_ok _)) rfl ?_) rfl
        rintro _ h10 ⟨rfl, l10⟩
        refine ⟨l10, ?_⟩
        replace hb1 := l10 _ _ hb1
        replace hl1 := Le.trans hl1 l10
        replace hEA := l10 _ _ hEA
        replace L0 := Le.trans L0 l10
        clear l10
        have kL := Kept.mk L0
        have kb := Kept.mk hb1
        refine VT_pure rfl (P_build zl33 pl33 rfl rfl) rfl rfl rfl ?_
        refine VT_kept rfl (E_alloc zl33 rfl (fun b6 h11 hn2 hb2 hl2 => ⟨hl2, ?_⟩)) rfl
        replace hb1 := hl2 _ _ hb1
        replace hl1 := Le.trans hl1 hl2
        replace hEA := hl2 _ _ hEA
        replace L0 := Le.trans L0 hl2
        refine VT_wild rfl rfl (E_storeAgg ag33 rfl rfl rfl hb2 rfl rfl (fun h12 hb3 hl3 hn3 => ?_)) rfl
        refine VT_nil ?_
        exact ⟨(b6, b5), ⟨rfl, rfl, rfl, rfl, rfl, trivial⟩, ⟨hb3, (hl3 _ (ne_of kb.out hn2)).trans hb1, L0.stored (kL.out.none hn2) hl3⟩, Nat.zero_lt_one⟩
      · have kL := Kept.mk L0
        have kb := Kept.mk hb1
        refine VT_kept rfl (E_alloc zl33 rfl (fun b6 h10 hn2 hb2 hl2 => ⟨hl2, ?_⟩)) rfl
        replace hb1 := hl2 _ _ hb1
        replace hl1 := Le.trans hl1 hl2
        replace hEA := hl2 _ _ hEA
        replace L0 := Le.trans L0 hl2
        refine VT_kept rfl (E_call cl23 rfl ((holds_ok _)) rfl ?_) rfl
        rintro _ h10 ⟨rfl, l10⟩
        refine ⟨l10, ?_⟩
        replace hb2 := l10 _ _ hb2
        replace hl2 := Le.trans hl2 l10
        replace hb1 := l10 _ _ hb1
        replace hl1 := Le.trans hl1 l10
        replace hEA := l10 _ _ hEA
        replace L0 := Le.trans L0 l10
        clear l10
        refine VT_pure rfl (P_build zl33 pl33 rfl rfl) rfl rfl rfl ?_
        refine VT_wild rfl rfl (E_storeAgg ag33 rfl rfl rfl hb2 rfl rfl (fun h11 hb3 hl3 hn3 => ?_)) rfl
        refine VT_nil ?_
        exact ⟨(b6, b5), ⟨rfl, rfl, rfl, rfl, rfl, trivial⟩, ⟨hb3, (hl3 _ (ne_of kb.out hn2)).trans hb1, L0.stored (kL.out.none hn2) hl3⟩, Nat.zero_lt_one⟩
    · have kL := Kept.mk L0
      refine VT_kept rfl (E_alloc zl33 rfl (fun b5 h9 hn1 hb1 hl1 => ⟨hl1, ?_⟩)) rfl
      replace hEA := hl1 _ _ hEA
      replace L0 := Le.trans L0 hl1
      refine VT_fork ?_ ?_
      · refine VT_kept rfl (E_call cl23 rfl ((holds_ok _)) rfl ?_) rfl
        rintro _ h10 ⟨rfl, l10⟩
        refine ⟨l10, ?_⟩
        replace hb1 := l10 _ _ hb1
        replace hl1 := Le.trans hl1 l10
        replace hEA := l10 _ _ hEA
        replace L0 := Le.trans L0 l10
        clear l10
        have kb := Kept.mk hb1
        refine VT_kept rfl (E_buildSlice sl31 rfl rfl rfl rfl (fun b6 h11 hn2 hb2 hl2 => ⟨hl2, ?_⟩)) rfl
        replace hb1 := hl2 _ _ hb1
        replace hl1 := Le.trans hl1 hl2
        replace hEA := hl2 _ _ hEA
        replace L0 := Le.trans L0 hl2
        refine VT_pure rfl (P_build zl33 pl33 rfl rfl) rfl rfl rfl ?_
        refine VT_wild rfl rfl (E_storeAgg ag33 rfl rfl rfl hb1 rfl rfl (fun h12 hb3 hl3 hn3 => ?_)) rfl
        refine VT_nil ?_
        exact ⟨(b5, b6), ⟨rfl, rfl, rfl, rfl, rfl, trivial⟩, ⟨hb3, (hl3 _ (ne_of kb.out hn2).symm).trans hb2, L0.stored (kL.out.none hn1) hl3⟩, Nat.zero_lt_one⟩
      · have kb := Kept.mk hb1
        refine VT_kept rfl (E_buildSlice sl31 rfl rfl rfl rfl (fun b6 h10 hn2 hb2 hl2 => ⟨hl2, ?_⟩)) rfl
        replace hb1 := hl2 _ _ hb1
        replace hl1 := Le.trans hl1 hl2
        replace hEA := hl2 _ _ hEA
        replace L0 := Le.trans L0 hl2
        refine VT_kept rfl (E_call cl23 rfl ((holds_ok _)) rfl ?_) rfl
        rintro _ h10 ⟨rfl, l10⟩
        refine ⟨l10, ?_⟩
        replace hb2 := l10 _ _ hb2
        replace hl2 := Le.trans hl2 l10
        replace hb1 := l10 _ _ hb1
        replace hl1 := Le.trans hl1 l10
        replace hEA := l10 _ _ hEA
        replace L0 := Le.trans L0 l10
        clear l10
        refine VT_pure rfl (P_build zl33 pl33 rfl rfl) rfl rfl rfl ?_
        refine VT_wild rfl rfl (E_storeAgg ag33 rfl rfl rfl hb1 rfl rfl (fun h11 hb3 hl3 hn3 => ?_)) rfl
        refine VT_nil ?_
        exact ⟨(b5, b6), ⟨rfl, rfl, rfl, rfl, rfl, trivial⟩, ⟨hb3, (hl3 _ (ne_of kb.out hn2).symm).trans hb2, L0.stored (kL.out.none hn1) hl3⟩, Nat.zero_lt_one⟩
  rintro ⟨b5, b6⟩ h9 ⟨hA5, hA6, l9⟩
  have A5 := Kept.mk hA5
  have A6 := Kept.mk hA6
  replace A1 := Kept.mk (l9 _ _ A1.out)
  replace A2 := Kept.mk (l9 _ _ A2.out)
  replace A3 := Kept.mk (l9 _ _ A3.out)
  replace A4 := Kept.mk (l9 _ _ A4.out)
  replace L1 := Kept.mk (L1.out.trans l9)
  clear hA5 hA6 l9 hEA
  simp only at A5 A6
  have hEA := A2.out
  refine T_seq ?_
  refine T_cut (fun y : Nat × Nat => [(3, ptr b3), (4, ptr b4), (5, ptr b5), (6, ptr y.1)]) (fun y h' => mp h' y.1 = some (.cells (effV 8 0 0 0 0 6 0 impL (some ⟨y.2, 0, none⟩) 1).toArray 33 (0, 0)) ∧ mp h' y.2 = some (.cells (effV 3 0 0 1 0 0 0 [] none 0).toArray 33 (0, 0)) ∧ Le (mp h9) (mp h')) ?_ ?_
  · have L0 := Le.refl (mp h9)
    clear A1 A2 A3 A4 L1 A5 A6
    refine T_drawT (.step 1 .read (.fork (.fork (.step 0 .kept (.fork (.step 2 .kept (.step 3 .pure (.step 4 .kept (.step 5 .wild (.done))))) (.step 4 .kept (.step 2 .kept (.step 3 .pure (.step 5 .wild (.done))))))) (.step 2 .kept (.fork (.step 0 .kept (.step 3 .pure (.step 4 .kept (.step 5 .wild (.done))))) (.step 4 .kept (.step 0 .kept (.step 3 .pure (.step 5 .wild (.done)))))))) (.step 4 .kept (.fork (.step 0 .kept (.step 2 .kept (.step 3 .pure (.step 5 .wild (.done))))) (.step 2 .kept (.step 0 .kept (.step 3 .pure (.step 5 .wild (.done))))))))) mixed (by kernel_rfl) (fun _ _ _ _ hq => hq) ?_
    refine VT_read rfl (R_loadAt ag33 rfl rfl (At.blk hEA)) rfl rfl rfl ?_
    refine VT_fork ?_ ?_
    refine VT_fork ?_ ?_
    · refine VT_kept rfl (E_call cl23 rfl ((holds_ok _)) rfl ?_) rfl
      rintro _ h10 ⟨rfl, l9⟩
      refine ⟨l9, ?_⟩
      replace hEA := l9 _ _ hEA
      replace L0 := Le.trans L0 l9
      clear l9
      refine VT_fork ?_ ?_
      · refine VT_kept rfl (E_buildSlice sl31 rfl rfl rfl rfl (fun b7 h11 hn1 hb1 hl1 => ⟨hl1, ?_⟩)) rfl
        replace hEA := hl1 _ _ hEA
        replace L0 := Le.trans L0 hl1
        refine VT_pure rfl (P_build zl33 pl33 rfl rfl) rfl rfl rfl ?_
        have kL := Kept.mk L0
        have kb := Kept.mk hb1
        refine VT_kept rfl (E_alloc zl33 rfl (fun b8 h12 hn2 hb2 hl2 => ⟨hl2, ?_⟩)) rfl
        replace hb1 := hl2 _ _ hb1
        replace hl1 := Le.trans hl1 hl2
        replace hEA := hl2 _ _ hEA
        replace L0 := Le.trans L0 hl2
        refine VT_wild rfl rfl (E_storeAgg ag33 rfl rfl rfl hb2 rfl rfl (fun h13 hb3 hl3 hn3 => ?_)) rfl
        refine VT_nil ?_
        exact ⟨(b8, b7), ⟨rfl, rfl, rfl, rfl, trivial⟩, ⟨hb3, (hl3 _ (ne_of kb.out hn2)).trans hb1, L0.stored (kL.out.none hn2) hl3⟩, Nat.zero_lt_one⟩
      · have kL := Kept.mk L0
        refine VT_kept rfl (E_alloc zl33 rfl (fun b7 h11 hn1 hb1 hl1 => ⟨hl1, ?_⟩)) rfl
        replace hEA := hl1 _ _ hEA
        replace L0 := Le.trans L0 hl1
        have kb := Kept.mk hb1
        refine VT_kept rfl (E_buildSlice sl31 rfl rfl rfl rfl (fun b8 h12 hn2 hb2 hl2 => ⟨hl2, ?_⟩)) rfl
        replace hb1 := hl2 _ _ hb1
        replace hl1 := Le.trans hl1 hl2
        replace hEA := hl2 _ _ hEA
        replace L0 := Le.trans L0 hl2
        refine VT_pure rfl (P_build zl33 pl33 rfl rfl) rfl rfl rfl ?_
        refine VT_wild rfl rfl (E_storeAgg ag33 rfl rfl rfl hb1 rfl rfl (fun h13 hb3 hl3 hn3 => ?_)) rfl
        refine VT_nil ?_
        exact ⟨(b7, b8), ⟨rfl, rfl, rfl, rfl, trivial⟩, ⟨hb3, (hl3 _ (ne_of kb.out hn2).symm).trans hb2, L0.stored (kL.out.none hn1) hl3⟩, Nat.zero_lt_one⟩
    · refine VT_kept rfl (E_buildSlice sl31 rfl rfl rfl rfl (fun b7 h10 hn1 hb1 hl1 => ⟨hl1, ?_⟩)) rfl
      replace hEA := hl1 _ _ hEA
      replace L0 := Le.trans L0 hl1
      refine VT_fork ?_ ?_
      · refine VT_kept rfl (E_call cl23 rfl ((holds_ok _)) rfl ?_) rfl
        rintro _ h10 ⟨rfl, l10⟩
        refine ⟨l10, ?_⟩
        replace hb1 := l10 _ _ hb1
        replace hl1 := Le.trans hl1 l10
        replace hEA := l10 _ _ hEA
        replace L0 := Le.trans L0 l10
        clear l10
        have kL := Kept.mk L0
        have kb := Kept.mk hb1
        refine VT_pure rfl (P_build zl33 pl33 rfl rfl) rfl rfl rfl ?_
        refine VT_kept rfl (E_alloc zl33 rfl (fun b8 h11 hn2 hb2 hl2 => ⟨hl2, ?_⟩)) rfl
        replace hb1 := hl2 _ _ hb1
        replace hl1 := Le.trans hl1 hl2
        replace hEA := hl2 _ _ hEA
        replace L0 := Le.trans L0 hl2
        refine VT_wild rfl rfl (E_storeAgg ag33 rfl rfl rfl hb2 rfl rfl (fun h12 hb3 hl3 hn3 => ?_)) rfl
        refine VT_nil ?_
        exact ⟨(b8, b7), ⟨rfl, rfl, rfl, rfl, trivial⟩, ⟨hb3, (hl3 _ (ne_of kb.out hn2)).trans hb1, L0.stored (kL.out.none hn2) hl3⟩, Nat.zero_lt_one⟩
      · have kL := Kept.mk L0
        have kb := Kept.mk hb1
        refine VT_kept rfl (E_alloc zl33 rfl (fun b8 h11 hn2 hb2 hl2 => ⟨hl2, ?_⟩)) rfl
        replace hb1 := hl2 _ _ hb1
        replace hl1 := Le.trans hl1 hl2
        replace hEA := hl2 _ _ hEA
        replace L0 := Le.trans L0 hl2
        refine VT_kept rfl (E_call cl23 rfl ((holds_ok _)) rfl ?_) rfl
        rintro _ h10 ⟨rfl, l10⟩
        refine ⟨l10, ?_⟩
        replace hb2 := l10 _ _ hb2
        replace hl2 := Le.trans hl2 l10
        replace hb1 := l10 _ _ hb1
        replace hl1 := Le.trans hl1 l10
        replace hEA := l10 _ _ hEA
        replace L0 := Le.trans L0 l10
        clear l10
        refine VT_pure rfl (P_build zl33 pl33 rfl rfl) rfl rfl rfl ?_
        refine VT_wild rfl rfl (E_storeAgg ag33 rfl rfl rfl hb2 rfl rfl (fun h12 hb3 hl3 hn3 => ?_)) rfl
        refine VT_nil ?_
        exact ⟨(b8, b7), ⟨rfl, rfl, rfl, rfl, trivial⟩, ⟨hb3, (hl3 _ (ne_of kb.out hn2)).trans hb1, L0.stored (kL.out.none hn2) hl3⟩, Nat.zero_lt_one⟩
    · have kL := Kept.mk L0
      refine VT_kept rfl (E_alloc zl33 rfl (fun b7 h10 hn1 hb1 hl1 => ⟨hl1, ?_⟩)) rfl
      replace hEA := hl1 _ _ hEA
      replace L0 := Le.trans L0 hl1
      refine VT_fork ?_ ?_
      · refine VT_kept rfl (E_call cl23 rfl ((holds_ok _)) rfl ?_) rfl
        rintro _ h10 ⟨rfl, l10⟩
        refine ⟨l10, ?_⟩
        replace hb1 := l10 _ _ hb1
        replace hl1 := Le.trans hl1 l10
        replace hEA := l10 _ _ hEA
        replace L0 := Le.trans L0 l10
        clear l10
        have kb := Kept.mk hb1
        refine VT_kept rfl (E_buildSlice sl31 rfl rfl rfl rfl (fun b8 h11 hn2 hb2 hl2 => ⟨hl2, ?_⟩)) rfl
        replace hb1 := hl2 _ _ hb1
        replace hl1 := Le.trans hl1 hl2
        replace hEA := hl2 _ _ hEA
        replace L0 := Le.trans L0 hl2
        refine VT_pure rfl (P_build zl33 pl33 rfl rfl) rfl rfl rfl ?_
        refine VT_wild rfl rfl (E_storeAgg ag33 rfl rfl rfl hb1 rfl rfl (fun h12 hb3 hl3 hn3 => ?_)) rfl
        refine VT_nil ?_
        exact ⟨(b7, b8), ⟨rfl, rfl, rfl, rfl, trivial⟩, ⟨hb3, (hl3 _ (ne_of kb.out hn2).symm).trans hb2, L0.stored (kL.out.none hn1) hl3⟩, Nat.zero_lt_one⟩
      · have kb := Kept.mk hb1
        refine VT_kept rfl (E_buildSlice sl31 rfl rfl rfl rfl (fun b8 h11 hn2 hb2 hl2 => ⟨hl2, ?_⟩)) rfl
        replace hb1 := hl2 _ _ hb1
        replace hl1 := Le.trans hl1 hl2
        replace hEA := hl2 _ _ hEA
        replace L0 := Le.trans L0 hl2
        refine VT_kept rfl (E_call cl23 rfl ((holds_ok _)) rfl ?_) rfl
        rintro _ h10 ⟨rfl, l10⟩
        refine ⟨l10, ?_⟩
        replace hb2 := l10 _ _ hb2
        replace hl2 := Le.trans hl2 l10
        replace hb1 := l10 _ _ hb1
        replace hl1 := Le.trans hl1 l10
        replace hEA := l10 _ _ hEA
        replace L0 := Le.trans L0 l10
        clear l10
        refine VT_pure rfl (P_build zl33 pl33 rfl rfl) rfl rfl rfl ?_
        refine VT_wild rfl rfl (E_storeAgg ag33 rfl rfl rfl hb1 rfl rfl (fun h12 hb3 hl3 hn3 => ?_)) rfl
        refine VT_nil ?_
        exact ⟨(b7, b8), ⟨rfl, rfl, rfl, rfl, trivial⟩, ⟨hb3, (hl3 _ (ne_of kb.out hn2).symm).trans hb2, L0.stored (kL.out.none hn1) hl3⟩, Nat.zero_lt_one⟩
  rintro ⟨b7, b8⟩ h10 ⟨hA7, hA8, l10⟩
  replace A3 := Kept.mk (l10 _ _ A3.out)
  replace A4 := Kept.mk (l10 _ _ A4.out)
  replace A5 := Kept.mk (l10 _ _ A5.out)
  replace A6 := Kept.mk (l10 _ _ A6.out)
  replace L1 := Kept.mk (L1.out.trans l10)
  simp only at hA7 hA8
  have B3 := A3.out
  have B4 := A4.out
  have B5 := A5.out
  have B6 := A6.out
  clear l10 hEA A1 A2
  refine T_seq ?_
  refine T_region ?_
  refine V_read (R_loadAt ag33 rfl rfl (At.blk B5)) rfl rfl rfl ?_
  refine V_read (R_loadAt ag33 rfl rfl (At.blk B4)) rfl rfl rfl ?_
  refine V_step (E_buildSlice sl31 rfl rfl rfl rfl (fun b9 h11 hn1 hb1 hl1 => ?_)) rfl
  replace hA7 := hl1 _ _ hA7
  replace hA8 := hl1 _ _ hA8
  replace B3 := hl1 _ _ B3
  replace B4 := hl1 _ _ B4
  replace B5 := hl1 _ _ B5
  replace B6 := hl1 _ _ B6
  have R9 : mp h11 b9 = some (.cells (effV 8 0 0 0 0 6 0 impL (some ⟨b6, 0, none⟩) 1 ++ effV 0 1 2 0 1 0 0 [] none 0).toArray 33 (0, 0)) := hb1
  have i8 : ∀ n : Int, 0 ≤ n → n ≤ 8 → In8 n := fun n h1 h2 => ⟨by omega, by omega⟩
  have E6 : EffsR (mp h11) (some ⟨b6, 0, none⟩) 1 [lookT] := EffsR.one B6 (EffR.of (i8 _ (by decide) (by decide)) (i8 _ (by decide) (by decide)) (i8 _ (by decide) (by decide)) (i8 _ (by decide) (by decide)) (i8 _ (by decide) (by decide)) (by decide) (EffsR.nil _))
  have E8 : EffsR (mp h11) (some ⟨b8, 0, none⟩) 1 [gainT] := EffsR.one hA8 (EffR.of (i8 _ (by decide) (by decide)) (i8 _ (by decide) (by decide)) (i8 _ (by decide) (by decide)) (i8 _ (by decide) (by decide)) (i8 _ (by decide) (by decide)) (by decide) (EffsR.nil _))
  have Ea : EffR (mp h11) (effV 8 0 0 0 0 6 0 impL (some ⟨b6, 0, none⟩) 1) aT := EffR.of (i8 _ (by decide) (by decide)) (i8 _ (by decide) (by decide)) (i8 _ (by decide) (by decide)) (i8 _ (by decide) (by decide)) (i8 _ (by decide) (by decide)) (by decide) E6
  have Eb : EffR (mp h11) (effV 8 0 0 0 0 6 0 impL (some ⟨b8, 0, none⟩) 1) bT := EffR.of (i8 _ (by decide) (by decide)) (i8 _ (by decide) (by decide)) (i8 _ (by decide) (by decide)) (i8 _ (by decide) (by decide)) (i8 _ (by decide) (by decide)) (by decide) E8
  have Ef : EffR (mp h11) (effV 0 1 2 0 1 0 0 [] none 0) foeT := EffR.of (i8 _ (by decide) (by decide)) (i8 _ (by decide) (by decide)) (i8 _ (by decide) (by decide)) (i8 _ (by decide) (by decide)) (i8 _ (by decide) (by decide)) (by decide) (EffsR.nil _)
  have Et : EffR (mp h11) (effV 5 0 6 0 0 0 0 [] none 0) topT := EffR.of (i8 _ (by decide) (by decide)) (i8 _ (by decide) (by decide)) (i8 _ (by decide) (by decide)) (i8 _ (by decide) (by decide)) (i8 _ (by decide) (by decide)) (by decide) (EffsR.nil _)
  have c1 := Effects_ok (c := 2) (EffsR.two R9 Ea Ef) 0 h11 (Le.refl _)
  rw [r1] at c1
  replace L1 := L1.out.trans hl1
  clear A3 A4 A5 A6 hb1 hl1 hn1 E6 E8 Ea Ef R9
  refine V_step (E_call cl18 rfl (c1) rfl ?_) rfl
  rintro _ h12 ⟨rfl, l12⟩
  replace hA7 := l12 _ _ hA7
  replace hA8 := l12 _ _ hA8
  replace B3 := l12 _ _ B3
  replace B4 := l12 _ _ B4
  replace B5 := l12 _ _ B5
  replace B6 := l12 _ _ B6
  replace Eb := Eb.mono l12
  replace Et := Et.mono l12
  replace L1 := Le.trans L1 l12
  clear l12
  refine V_pure (P_move rfl) rfl rfl rfl ?_
  refine V_read (R_loadAt ag33 rfl rfl (At.blk hA7)) rfl rfl rfl ?_
  refine V_step (E_buildSlice sl31 rfl rfl rfl rfl (fun b10 h13 hn1 hb1 hl1 => ?_)) rfl
  replace hA7 := hl1 _ _ hA7
  replace hA8 := hl1 _ _ hA8
  replace B3 := hl1 _ _ B3
  replace B4 := hl1 _ _ B4
  replace B5 := hl1 _ _ B5
  replace B6 := hl1 _ _ B6
  replace Eb := Eb.mono hl1
  replace Et := Et.mono hl1
  replace L1 := Le.trans L1 hl1
  have kEb := Kept.mk Eb
  have c2 := Effects_ok (c := 1) (EffsR.one hb1 Eb) 0 _ (Le.refl _)
  rw [r2] at c2
  refine V_step (E_call cl18 rfl (c2) rfl ?_) rfl
  rintro _ h14 ⟨rfl, l14⟩
  replace hb1 := l14 _ _ hb1
  replace hl1 := Le.trans hl1 l14
  replace hA7 := l14 _ _ hA7
  replace hA8 := l14 _ _ hA8
  replace B3 := l14 _ _ B3
  replace B4 := l14 _ _ B4
  replace B5 := l14 _ _ B5
  replace B6 := l14 _ _ B6
  replace Eb := Eb.mono l14
  replace Et := Et.mono l14
  replace L1 := Le.trans L1 l14
  clear l14 hl1 hn1 hb1
  refine V_pure (P_not rfl) rfl rfl rfl ?_
  refine V_pure (P_pick_t rfl rfl) rfl rfl rfl ?_
  refine V_pure (P_move rfl) rfl rfl rfl ?_
  refine V_read (R_loadAt ag33 rfl rfl (At.blk B3)) rfl rfl rfl ?_
  refine V_step (E_buildSlice sl31 rfl rfl rfl rfl (fun b11 h15 hn1 hb1 hl1 => ?_)) rfl
  replace hA7 := hl1 _ _ hA7
  replace hA8 := hl1 _ _ hA8
  replace B3 := hl1 _ _ B3
  replace B4 := hl1 _ _ B4
  replace B5 := hl1 _ _ B5
  replace B6 := hl1 _ _ B6
  replace Eb := Eb.mono hl1
  replace Et := Et.mono hl1
  replace L1 := Le.trans L1 hl1
  have c3 := Effects_ok (c := 1) (EffsR.one hb1 Et) 0 _ (Le.refl _)
  rw [r3] at c3
  refine V_step (E_call cl18 rfl (c3) rfl ?_) rfl
  rintro _ h16 ⟨rfl, l16⟩
  replace hb1 := l16 _ _ hb1
  replace hl1 := Le.trans hl1 l16
  replace hA7 := l16 _ _ hA7
  replace hA8 := l16 _ _ hA8
  replace B3 := l16 _ _ B3
  replace B4 := l16 _ _ B4
  replace B5 := l16 _ _ B5
  replace B6 := l16 _ _ B6
  replace Eb := Eb.mono l16
  replace Et := Et.mono l16
  replace L1 := Le.trans L1 l16
  clear l16 hl1 hn1 hb1
  refine V_pure (P_not rfl) rfl rfl rfl ?_
  refine V_pure (P_pick_t rfl rfl) rfl rfl rfl ?_
  refine V_pure (P_move rfl) rfl rfl rfl ?_
  refine V_pure (P_build zl56 pl56 rfl rfl) rfl rfl rfl ?_
  refine V_read (R_loadAt ag33 rfl rfl (At.blk hA7)) rfl rfl rfl ?_
  refine V_step (E_buildSlice sl31 rfl rfl rfl rfl (fun b12 h17 hn1 hb1 hl1 => ?_)) rfl
  replace hA7 := hl1 _ _ hA7
  replace hA8 := hl1 _ _ hA8
  replace B3 := hl1 _ _ B3
  replace B4 := hl1 _ _ B4
  replace B5 := hl1 _ _ B5
  replace B6 := hl1 _ _ B6
  replace Eb := Eb.mono hl1
  replace Et := Et.mono hl1
  replace L1 := Le.trans L1 hl1
  refine V_pure (P_build zl56 pl56 rfl rfl) rfl rfl rfl ?_
  refine V_step (E_buildSlice sl40 rfl rfl rfl rfl (fun b13 h18 hn2 hb2 hl2 => ?_)) rfl
  replace hb1 := hl2 _ _ hb1
  replace hl1 := Le.trans hl1 hl2
  replace hA7 := hl2 _ _ hA7
  replace hA8 := hl2 _ _ hA8
  replace B3 := hl2 _ _ B3
  replace B4 := hl2 _ _ B4
  replace B5 := hl2 _ _ B5
  replace B6 := hl2 _ _ B6
  replace Eb := Eb.mono hl2
  replace Et := Et.mono hl2
  replace L1 := Le.trans L1 hl2
  have kc1 : mp h17 b12 = mp h17 b12 := rfl
  have Ecb := EffsR.one hb1 Eb
  have e0 : ∀ m : Mp, EffsR m none 0 [] := EffsR.nil
  have R := CardsR.two (m := mp h18) (cs := [.string (bs []), .bool false, .int .i64 0, .int .i64 0, .int .i64 0, .int .i64 0, .int .i64 0, .int .i64 0, .slice none 0 0, .slice none 0 0, .slice none 0 0, .int .i64 0])
    (ds := [.string (bs []), .bool false, .int .i64 0, .int .i64 0, .int .i64 0, .int .i64 0, .int .i64 0, .int .i64 0, .slice none 0 0, .slice (some ⟨b12, 0, none⟩) 1 1, .slice none 0 0, .int .i64 7])
    (x := ⟨[], false, 0, 0, 0, 0, 0, 0, [], [], [], 0⟩) (y := ⟨[], false, 0, 0, 0, 0, 0, 0, [], [bT], [], 7⟩) hb2
    ⟨none, 0, 0, none, 0, 0, none, 0, 0, rfl, Nat.zero_le _, e0 _, e0 _, e0 _, by decide, by decide, by decide, by decide, by decide, by decide, by decide⟩
    ⟨none, 0, 0, some ⟨b12, 0, none⟩, 1, 1, none, 0, 0, rfl, Nat.zero_le _, e0 _, Ecb, e0 _, by decide, by decide, by decide, by decide, by decide, by decide, by decide⟩
  have c4 := Check_ok (c := 2) R h18 (Le.refl _)
  have hck : checkP [⟨[], false, 0, 0, 0, 0, 0, 0, [], [], [], 0⟩, ⟨[], false, 0, 0, 0, 0, 0, 0, [], [bT], [], 7⟩] = [140, 7] := by rfl
  rw [hck] at c4
  refine V_step (E_call cl20 rfl (c4) rfl ?_) rfl
  rintro _ h20 ⟨rfl, l20⟩
  refine V_pure (P_build zl48 pl48 rfl rfl) rfl rfl rfl ?_
  refine V_pure ((P_aggeql («as» := [140, 7]) (bs := [140, 7]) fk48 rfl rfl rfl rfl)) rfl rfl rfl ?_
  refine V_pure (P_pick_t rfl rfl) rfl rfl rfl ?_
  refine V_pure (P_assign rfl) rfl rfl rfl ?_
  refine V_nil ?_
  refine thenQ_normal ?_
  refine T_ret ?_
  refine retQ_ret1 rfl ?_
  exact ⟨rfl, L1.trans l20⟩
end Go.Proofs.Ytigmehimficmlaa
