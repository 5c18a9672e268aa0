/- A part of the proof: contracts of functions of the program. No condition. -/
import Derived.Test.YtccleakfgmcjpaaDoorFacts
import Derived.Test.YtccleakfgmcjpaaDoorRows
import Derived.Test.YtccleakfgmcjpaaDoorEng2
namespace Go.Proofs.YtccleakfgmcjpaaDoor
open Go.Eng

def Sz (h : Heap) (v : Value) (h' : Heap) : Prop := ∃ z : Int, v = .int .i64 z ∧ 0 ≤ z ∧ z ≤ 100000 ∧ Le (mp h) (mp h')
theorem sizeNum_ok {m : Mp} {cs : List Value} {x : NumT} (hx : NumR m cs x) : ∀ h : Heap, Le m (mp h) → C Tryd.prog 46 [.agg cs.toArray].toArray h (Sz h) := by
  induction hx with
  | @mk op n who kids A len c vs ho hl hm hr hv hk ih =>
    intro h hle
    subst hl
    simp only [maxLen] at hm
    refine C_of [2] Tryd.func46 rfl rfl rfl ?_
    refine T_seq ?_
    refine T_region ?_
    refine V_step (E_box rfl rfl (fun b1 h1 hn1 hb1 hl1 => ?_)) rfl
    replace hle := Le.trans hle hl1
    refine V_pure (P_assign rfl) rfl rfl rfl ?_
    refine V_nil ?_
    refine thenQ_normal ?_
    refine T_seq ?_
    refine T_region ?_
    refine V_pure (P_assign rfl) rfl rfl rfl ?_
    refine V_nil ?_
    refine thenQ_normal ?_
    refine T_seq ?_
    refine T_seq ?_
    refine T_region ?_
    refine V_pure (P_assign rfl) rfl rfl rfl ?_
    refine V_nil ?_
    refine thenQ_normal ?_
    refine T_block ?_
    refine T_loop (fun y : Nat × Int => [(1, .pointer (some ⟨b1, 0, none⟩)), (3, .int .i64 y.2), (4, .int .i64 y.1)]) (fun y h' => y.1 ≤ kids.length ∧ 0 ≤ y.2 ∧ y.2 ≤ 100000 ∧ Le (mp h1) (mp h')) (fun y => kids.length - y.1) (0, 1) ⟨rfl, rfl, rfl, trivial⟩ ⟨Nat.zero_le _, by decide, by decide, Le.refl _⟩ ?_
    have kb1 := Kept.mk hb1
    have kl1 := Kept.mk hl1
    clear hb1 hl1 hn1
    rintro ⟨i, z⟩ h2 ⟨hi, hz0, hz1, hle2⟩
    simp only at hi hz0 hz1 ⊢
    have hb2 := hle2 _ _ kb1.out
    by_cases hlt : i < kids.length
    · obtain ⟨a1, a2, a3, a4, a5, a6, hc⟩ := (hk i hlt).form
      have hA : A.isSome = true := hr.isSome (by omega)
      have hat := (hr.elem (i * 4) 4).mono (hle.trans hle2)
      have ih1 := ih i hlt
      rw [hc] at hat ih1
      refine T_seq ?_
      refine T_seq ?_
      refine T_region ?_
      refine V_pure (P_move rfl) rfl rfl rfl ?_
      refine V_pure (P_fieldAddr0 fo95_3 rfl) rfl rfl rfl ?_
      refine V_read (R_load sg93 rfl (mc_blk hb2 rfl)) rfl rfl rfl ?_
      refine V_pure (P_len il93 rfl) rfl rfl rfl ?_
      refine V_pure (dt (P_lss rfl rfl) (by first | assumption | rfl | omega | decide)) rfl rfl rfl ?_
      refine V_nil ?_
      refine thenQ_normal ?_
      refine T_true rfl ?_
      refine T_skip ?_
      refine thenQ_normal ?_
      refine T_seq ?_
      refine T_block ?_
      refine T_region ?_
      refine V_pure (P_move rfl) rfl rfl rfl ?_
      refine V_pure (P_fieldAddr0 fo95_3 rfl) rfl rfl rfl ?_
      refine V_read (R_load sg93 rfl (mc_blk hb2 rfl)) rfl rfl rfl ?_
      refine V_pure (P_move rfl) rfl rfl rfl ?_
      refine V_pure (P_indexAddr ez93 rfl rfl hA (by omega) (by omega)) rfl rfl rfl ?_
      refine V_read (R_loadAt ag95 rfl rfl hat) rfl rfl rfl ?_
      refine V_step (E_call cl46 rfl ((ih1 _ (hle.trans hle2))) rfl ?_) rfl
      rintro _ h5 ⟨s, rfl, hs0, hs1, hl5⟩
      refine V_pure (P_add rfl rfl (w64 (by omega) (by omega))) rfl rfl rfl ?_
      refine V_pure (P_min2 rfl rfl) rfl rfl rfl ?_
      refine V_pure (P_assign rfl) rfl rfl rfl ?_
      refine V_nil ?_
      refine blockQ_normal ?_
      refine thenQ_normal ?_
      refine T_region ?_
      refine V_pure (P_move rfl) rfl rfl rfl ?_
      refine V_pure (P_add rfl rfl (w64 (by omega) (by omega))) rfl rfl rfl ?_
      refine V_pure (P_assign rfl) rfl rfl rfl ?_
      refine V_nil ?_
      exact ⟨(i + 1, min (z + s) 100000), ⟨rfl, rfl, rfl, trivial⟩, ⟨by simp only; omega, by simp only; omega, by simp only; omega, hle2.trans hl5⟩, by show kids.length - (i + 1) < kids.length - i; omega⟩
    · refine T_seq ?_
      refine T_seq ?_
      refine T_region ?_
      refine V_pure (P_move rfl) rfl rfl rfl ?_
      refine V_pure (P_fieldAddr0 fo95_3 rfl) rfl rfl rfl ?_
      refine V_read (R_load sg93 rfl (mc_blk hb2 rfl)) rfl rfl rfl ?_
      refine V_pure (P_len il93 rfl) rfl rfl rfl ?_
      refine V_pure (df (P_lss rfl rfl) (by first | assumption | omega | decide | exact fun hx => hx (by assumption))) rfl rfl rfl ?_
      refine V_nil ?_
      refine thenQ_normal ?_
      refine T_false rfl ?_
      refine T_exit ?_
      refine thenQ_exit ?_
      refine roundQ_exit ?_
      refine blockQ_here ?_
      refine thenQ_normal ?_
      refine T_seq ?_
      refine T_region ?_
      refine V_pure (P_move rfl) rfl rfl rfl ?_
      refine V_pure (P_assign rfl) rfl rfl rfl ?_
      refine V_nil ?_
      refine thenQ_normal ?_
      refine T_ret ?_
      refine retQ_ret1 rfl ?_
      exact ⟨z, rfl, hz0, hz1, kl1.out.trans hle2⟩
theorem sizeCond_ok {m : Mp} {cs : List Value} {x : CondT} (hx : CondR m cs x) : ∀ h : Heap, Le m (mp h) → C Tryd.prog 47 [.agg cs.toArray].toArray h (Sz h) := by
  induction hx with
  | @mk op who name nums kids A B la ca lb cb vs us ho hw hn hla hma hra hva hka hlb hmb hrb hvb hkb ih =>
    intro h hle
    subst hla hlb
    simp only [maxLen] at hma hmb
    refine C_of [2] Tryd.func47 rfl rfl rfl ?_
    refine T_seq ?_
    refine T_region ?_
    refine V_step (E_box rfl rfl (fun b1 h1 hn1 hb1 hl1 => ?_)) rfl
    replace hle := Le.trans hle hl1
    refine V_pure (P_assign rfl) rfl rfl rfl ?_
    refine V_nil ?_
    refine thenQ_normal ?_
    refine T_seq ?_
    refine T_region ?_
    refine V_pure (P_assign rfl) rfl rfl rfl ?_
    refine V_nil ?_
    refine thenQ_normal ?_
    refine T_seq ?_
    refine T_seq ?_
    refine T_region ?_
    refine V_pure (P_assign rfl) rfl rfl rfl ?_
    refine V_nil ?_
    refine thenQ_normal ?_
    refine T_block ?_
    refine T_loop (fun y : Nat × Int => [(1, .pointer (some ⟨b1, 0, none⟩)), (3, .int .i64 y.2), (4, .int .i64 y.1)]) (fun y h' => y.1 ≤ nums.length ∧ 0 ≤ y.2 ∧ y.2 ≤ 100000 ∧ Le (mp h1) (mp h')) (fun y => nums.length - y.1) (0, 1) ⟨rfl, rfl, rfl, trivial⟩ ⟨Nat.zero_le _, by decide, by decide, Le.refl _⟩ ?_
    have kb1 := Kept.mk hb1
    have kl1 := Kept.mk hl1
    clear hb1 hl1 hn1
    rintro ⟨i, z⟩ h2 ⟨hi, hz0, hz1, hle2⟩
    simp only at hi hz0 hz1 ⊢
    have hb2 := hle2 _ _ kb1.out
    by_cases hlt : i < nums.length
    · obtain ⟨a1, a2, a3, a4, a5, a6, hc⟩ := (hka i hlt).form
      have hA : A.isSome = true := hra.isSome (by omega)
      have hat := (hra.elem (i * 4) 4).mono (hle.trans hle2)
      have ih1 := sizeNum_ok (hka i hlt)
      rw [hc] at hat ih1
      refine T_seq ?_
      refine T_seq ?_
      refine T_region ?_
      refine V_pure (P_move rfl) rfl rfl rfl ?_
      refine V_pure (P_fieldAddr0 fo98_3 rfl) rfl rfl rfl ?_
      refine V_read (R_load sg93 rfl (mc_blk hb2 rfl)) rfl rfl rfl ?_
      refine V_pure (P_len il93 rfl) rfl rfl rfl ?_
      refine V_pure (dt (P_lss rfl rfl) (by first | assumption | rfl | omega | decide)) rfl rfl rfl ?_
      refine V_nil ?_
      refine thenQ_normal ?_
      refine T_true rfl ?_
      refine T_skip ?_
      refine thenQ_normal ?_
      refine T_seq ?_
      refine T_block ?_
      refine T_region ?_
      refine V_pure (P_move rfl) rfl rfl rfl ?_
      refine V_pure (P_fieldAddr0 fo98_3 rfl) rfl rfl rfl ?_
      refine V_read (R_load sg93 rfl (mc_blk hb2 rfl)) rfl rfl rfl ?_
      refine V_pure (P_move rfl) rfl rfl rfl ?_
      refine V_pure (P_indexAddr ez93 rfl rfl hA (by omega) (by omega)) rfl rfl rfl ?_
      refine V_read (R_loadAt ag95 rfl rfl hat) rfl rfl rfl ?_
      refine V_step (E_call cl46 rfl ((ih1 _ (hle.trans hle2))) rfl ?_) rfl
      rintro _ h5 ⟨s, rfl, hs0, hs1, hl5⟩
      refine V_pure (P_add rfl rfl (w64 (by omega) (by omega))) rfl rfl rfl ?_
      refine V_pure (P_min2 rfl rfl) rfl rfl rfl ?_
      refine V_pure (P_assign rfl) rfl rfl rfl ?_
      refine V_nil ?_
      refine blockQ_normal ?_
      refine thenQ_normal ?_
      refine T_region ?_
      refine V_pure (P_move rfl) rfl rfl rfl ?_
      refine V_pure (P_add rfl rfl (w64 (by omega) (by omega))) rfl rfl rfl ?_
      refine V_pure (P_assign rfl) rfl rfl rfl ?_
      refine V_nil ?_
      exact ⟨(i + 1, min (z + s) 100000), ⟨rfl, rfl, rfl, trivial⟩, ⟨by simp only; omega, by simp only; omega, by simp only; omega, hle2.trans hl5⟩, by show nums.length - (i + 1) < nums.length - i; omega⟩
    refine T_seq ?_
    refine T_seq ?_
    refine T_region ?_
    refine V_pure (P_move rfl) rfl rfl rfl ?_
    refine V_pure (P_fieldAddr0 fo98_3 rfl) rfl rfl rfl ?_
    refine V_read (R_load sg93 rfl (mc_blk hb2 rfl)) rfl rfl rfl ?_
    refine V_pure (P_len il93 rfl) rfl rfl rfl ?_
    refine V_pure (df (P_lss rfl rfl) (by first | assumption | omega | decide | exact fun hx => hx (by assumption))) rfl rfl rfl ?_
    refine V_nil ?_
    refine thenQ_normal ?_
    refine T_false rfl ?_
    refine T_exit ?_
    refine thenQ_exit ?_
    refine roundQ_exit ?_
    refine blockQ_here ?_
    refine thenQ_normal ?_
    refine T_seq ?_
    refine T_seq ?_
    refine T_region ?_
    refine V_pure (P_assign rfl) rfl rfl rfl ?_
    refine V_nil ?_
    refine thenQ_normal ?_
    refine T_block ?_
    refine T_loop (fun y : Nat × Int => [(1, .pointer (some ⟨b1, 0, none⟩)), (3, .int .i64 y.2), (5, .int .i64 y.1)]) (fun y h' => y.1 ≤ kids.length ∧ 0 ≤ y.2 ∧ y.2 ≤ 100000 ∧ Le (mp h1) (mp h')) (fun y => kids.length - y.1) (0, z) ⟨rfl, rfl, rfl, trivial⟩ ⟨Nat.zero_le _, hz0, hz1, hle2⟩ ?_
    clear hb2 hle2 hi hlt hz0 hz1
    clear i z h2
    rintro ⟨i, z⟩ h2 ⟨hi, hz0, hz1, hle2⟩
    simp only at hi hz0 hz1 ⊢
    have hb2 := hle2 _ _ kb1.out
    by_cases hlt : i < kids.length
    · obtain ⟨a1, a2, a3, a4, a5, a6, a7, a8, a9, hc⟩ := (hkb i hlt).form
      have hB : B.isSome = true := hrb.isSome (by omega)
      have hat := (hrb.elem (i * 5) 5).mono (hle.trans hle2)
      have ih1 := ih i hlt
      rw [hc] at hat ih1
      refine T_seq ?_
      refine T_seq ?_
      refine T_region ?_
      refine V_pure (P_move rfl) rfl rfl rfl ?_
      refine V_pure (P_fieldAddr0 fo98_4 rfl) rfl rfl rfl ?_
      refine V_read (R_load sg96 rfl (mc_blk hb2 rfl)) rfl rfl rfl ?_
      refine V_pure (P_len il96 rfl) rfl rfl rfl ?_
      refine V_pure (dt (P_lss rfl rfl) (by first | assumption | rfl | omega | decide)) rfl rfl rfl ?_
      refine V_nil ?_
      refine thenQ_normal ?_
      refine T_true rfl ?_
      refine T_skip ?_
      refine thenQ_normal ?_
      refine T_seq ?_
      refine T_block ?_
      refine T_region ?_
      refine V_pure (P_move rfl) rfl rfl rfl ?_
      refine V_pure (P_fieldAddr0 fo98_4 rfl) rfl rfl rfl ?_
      refine V_read (R_load sg96 rfl (mc_blk hb2 rfl)) rfl rfl rfl ?_
      refine V_pure (P_move rfl) rfl rfl rfl ?_
      refine V_pure (P_indexAddr ez96 rfl rfl hB (by omega) (by omega)) rfl rfl rfl ?_
      refine V_read (R_loadAt ag98 rfl rfl hat) rfl rfl rfl ?_
      refine V_step (E_call cl47 rfl ((ih1 _ (hle.trans hle2))) rfl ?_) rfl
      rintro _ h5 ⟨s, rfl, hs0, hs1, hl5⟩
      refine V_pure (P_add rfl rfl (w64 (by omega) (by omega))) rfl rfl rfl ?_
      refine V_pure (P_min2 rfl rfl) rfl rfl rfl ?_
      refine V_pure (P_assign rfl) rfl rfl rfl ?_
      refine V_nil ?_
      refine blockQ_normal ?_
      refine thenQ_normal ?_
      refine T_region ?_
      refine V_pure (P_move rfl) rfl rfl rfl ?_
      refine V_pure (P_add rfl rfl (w64 (by omega) (by omega))) rfl rfl rfl ?_
      refine V_pure (P_assign rfl) rfl rfl rfl ?_
      refine V_nil ?_
      exact ⟨(i + 1, min (z + s) 100000), ⟨rfl, rfl, rfl, trivial⟩, ⟨by simp only; omega, by simp only; omega, by simp only; omega, hle2.trans hl5⟩, by show kids.length - (i + 1) < kids.length - i; omega⟩
    · refine T_seq ?_
      refine T_seq ?_
      refine T_region ?_
      refine V_pure (P_move rfl) rfl rfl rfl ?_
      refine V_pure (P_fieldAddr0 fo98_4 rfl) rfl rfl rfl ?_
      refine V_read (R_load sg96 rfl (mc_blk hb2 rfl)) rfl rfl rfl ?_
      refine V_pure (P_len il96 rfl) rfl rfl rfl ?_
      refine V_pure (df (P_lss rfl rfl) (by first | assumption | omega | decide | exact fun hx => hx (by assumption))) rfl rfl rfl ?_
      refine V_nil ?_
      refine thenQ_normal ?_
      refine T_false rfl ?_
      refine T_exit ?_
      refine thenQ_exit ?_
      refine roundQ_exit ?_
      refine blockQ_here ?_
      refine thenQ_normal ?_
      refine T_seq ?_
      refine T_region ?_
      refine V_pure (P_move rfl) rfl rfl rfl ?_
      refine V_pure (P_assign rfl) rfl rfl rfl ?_
      refine V_nil ?_
      refine thenQ_normal ?_
      refine T_ret ?_
      refine retQ_ret1 rfl ?_
      exact ⟨z, rfl, hz0, hz1, kl1.out.trans hle2⟩

def SzL (u : Value) (h : Heap) (v : Value) (h' : Heap) : Prop := ∃ z : Int, v = .int .i64 z ∧ 0 ≤ z ∧ z ≤ 100000 ∧ (∀ A n c, u = .slice A n c → min (n : Int) 100000 ≤ z) ∧ Le (mp h) (mp h')
def SizeOK (m : Mp) (v : Value) : Prop := ∀ h : Heap, Le m (mp h) → C Tryd.prog 34 [v].toArray h (SzL v h)
def SizeKids (m : Mp) (cs : List Value) : Prop := ∀ u : Value, (cs[12]? = some u ∨ cs[13]? = some u) → SizeOK m u
theorem Size_step {m : Mp} {A : Option Addr} {c : Nat} {vs : List Value} {l : List EffT} (hm : l.length ≤ maxLen) (hr : Rd m A vs) (hv : vs.length = l.length * 14) (hk : ∀ (i : Nat) (hi : i < l.length), EffR m ((vs.drop (i * 14)).take 14) l[i])
    (hs : ∀ (i : Nat), i < l.length → SizeKids m ((vs.drop (i * 14)).take 14)) : SizeOK m (.slice A l.length c) := by
  intro h hle
  simp only [maxLen] at hm
  refine C_of [2] Tryd.func34 rfl rfl rfl ?_
  refine T_seq ?_
  refine T_region ?_
  refine V_pure (P_assign rfl) rfl rfl rfl ?_
  refine V_nil ?_
  refine thenQ_normal ?_
  refine T_seq ?_
  refine T_region ?_
  refine V_pure (P_move rfl) rfl rfl rfl ?_
  refine V_pure (P_len il67 rfl) rfl rfl rfl ?_
  refine V_pure (P_assign rfl) rfl rfl rfl ?_
  refine V_nil ?_
  refine thenQ_normal ?_
  refine T_seq ?_
  refine T_seq ?_
  refine T_region ?_
  refine V_pure (P_assign rfl) rfl rfl rfl ?_
  refine V_nil ?_
  refine thenQ_normal ?_
  refine T_block ?_
  refine T_loop (fun y : Nat × Int => [(0, .slice A l.length c), (3, .int .i64 y.2), (4, .int .i64 y.1)]) (fun y h' => y.1 ≤ l.length ∧ (l.length : Int) ≤ y.2 ∧ y.2 ≤ 9223372036854775807 ∧ Le (mp h) (mp h')) (fun y => l.length - y.1) (0, l.length) ⟨rfl, rfl, rfl, trivial⟩ ⟨Nat.zero_le _, Int.le_refl _, by simp only; omega, Le.refl _⟩ ?_
  rintro ⟨i, z⟩ h2 ⟨hi, hz0, hz1, hle2⟩
  simp only at hi hz0 hz1 ⊢
  by_cases hlt : i < l.length
  · by_cases hz : z < 100000
    · have he := hk i hlt
      have hks := hs i hlt
      have hA : A.isSome = true := hr.isSome (by omega)
      have hat := (hr.elem (i * 14) 14).mono (hle.trans hle2)
      obtain ⟨op, who, nop, nn, nwho, nA, nlen, nc, name, cop, cwho, cname, cA, cla, cca, cB, clb, ccb, A1, la, ca, B1, lb, cb, n, cond, thn, els, hc, _, _, hn, hcd, _, _⟩ := he.parts
      rw [hc] at hat hks
      have hatN : At (mp h2) (((sa A).add (i * 14)).add 2) [.int .i8 nop, .int .i64 nn, .int .i8 nwho, .slice nA nlen nc] := hat.sub 2 4
      have hatC : At (mp h2) (((sa A).add (i * 14)).add 7) [.int .i8 cop, .int .i8 cwho, .string (bs cname), .slice cA cla cca, .slice cB clb ccb] := hat.sub 7 5
      have hsN := sizeNum_ok hn
      have hsC := sizeCond_ok hcd
      have hsA := hks _ (.inl rfl)
      have hsB := hks _ (.inr rfl)
      have kle2 := Kept.mk hle2
      clear he hks hc hn hcd hle2
      refine T_seq ?_
      refine T_seq ?_
      refine T_region ?_
      refine V_pure (P_move rfl) rfl rfl rfl ?_
      refine V_pure (P_move rfl) rfl rfl rfl ?_
      refine V_pure (P_len il67 rfl) rfl rfl rfl ?_
      refine V_pure (dt (P_lss rfl rfl) (by first | assumption | rfl | omega | decide)) rfl rfl rfl ?_
      refine V_pure (P_move rfl) rfl rfl rfl ?_
      refine V_pure (P_move rfl) rfl rfl rfl ?_
      refine V_pure (dt (P_lss rfl rfl) (by first | assumption | rfl | omega | decide)) rfl rfl rfl ?_
      refine V_pure (P_pick_t rfl rfl) rfl rfl rfl ?_
      refine V_nil ?_
      refine thenQ_normal ?_
      refine T_true rfl ?_
      refine T_skip ?_
      refine thenQ_normal ?_
      refine T_seq ?_
      refine T_block ?_
      refine T_draw [(0, .pure), (1, .pure), (2, .pure), (3, .pure), (4, .pure), (8, .pure), (9, .pure), (10, .pure), (11, .pure), (15, .pure), (16, .pure), (17, .pure), (18, .pure), (22, .pure), (23, .pure), (24, .pure), (25, .pure), (5, .read), (12, .read), (19, .read), (26, .read), (6, .kept), (7, .pure), (13, .kept), (14, .pure), (20, .kept), (21, .pure), (27, .kept), (28, .pure), (29, .pure)] mixed (by kernel_rfl) (fun _ _ _ _ hq => hq) ?_
      iterate 3 (refine VD_pure rfl (P_move rfl) rfl rfl rfl ?_)
      refine VD_pure rfl (P_indexAddr ez67 rfl rfl hA (by omega) (by omega)) rfl rfl rfl ?_
      refine VD_pure rfl (P_fieldAddr fo100_2 rfl) rfl rfl rfl ?_
      refine VD_pure rfl (P_move rfl) rfl rfl rfl ?_
      refine VD_pure rfl (P_move rfl) rfl rfl rfl ?_
      refine VD_pure rfl (P_indexAddr ez67 rfl rfl hA (by omega) (by omega)) rfl rfl rfl ?_
      refine VD_pure rfl (P_fieldAddr fo100_4 rfl) rfl rfl rfl ?_
      refine VD_pure rfl (P_move rfl) rfl rfl rfl ?_
      refine VD_pure rfl (P_move rfl) rfl rfl rfl ?_
      refine VD_pure rfl (P_indexAddr ez67 rfl rfl hA (by omega) (by omega)) rfl rfl rfl ?_
      refine VD_pure rfl (P_fieldAddr fo100_5 rfl) rfl rfl rfl ?_
      refine VD_pure rfl (P_move rfl) rfl rfl rfl ?_
      refine VD_pure rfl (P_move rfl) rfl rfl rfl ?_
      refine VD_pure rfl (P_indexAddr ez67 rfl rfl hA (by omega) (by omega)) rfl rfl rfl ?_
      refine VD_pure rfl (P_fieldAddr fo100_6 rfl) rfl rfl rfl ?_
      refine VD_read rfl (R_loadAt ag95 rfl rfl hatN) rfl rfl rfl ?_
      refine VD_read rfl (R_loadAt ag98 rfl rfl hatC) rfl rfl rfl ?_
      refine VD_read rfl (R_load sg67 rfl (hat.at_ rfl)) rfl rfl rfl ?_
      refine VD_read rfl (R_load sg67 rfl (hat.at_ rfl)) rfl rfl rfl ?_
      refine VD_kept rfl (E_call cl46 rfl ((hsN _ (hle.trans kle2.out))) rfl ?_) rfl
      rintro _ h3 ⟨s1, rfl, hs10, hs11, hl3⟩
      refine ⟨hl3, ?_⟩
      have hl3' := kle2.out.trans hl3
      refine VD_pure rfl (P_add rfl rfl (w64 (by omega) (by omega))) rfl rfl rfl ?_
      refine VD_kept rfl (E_call cl47 rfl ((hsC _ (hle.trans hl3'))) rfl ?_) rfl
      rintro _ h4 ⟨s2, rfl, hs20, hs21, hl4⟩
      refine ⟨hl4, ?_⟩
      have hl4' := hl3'.trans hl4
      refine VD_pure rfl (P_add rfl rfl (w64 (by omega) (by omega))) rfl rfl rfl ?_
      refine VD_kept rfl (E_call cl34 rfl ((hsA _ (hle.trans hl4'))) rfl ?_) rfl
      rintro _ h5 ⟨s3, rfl, hs30, hs31, _, hl5⟩
      refine ⟨hl5, ?_⟩
      have hl5' := hl4'.trans hl5
      refine VD_pure rfl (P_add rfl rfl (w64 (by omega) (by omega))) rfl rfl rfl ?_
      refine VD_kept rfl (E_call cl34 rfl ((hsB _ (hle.trans hl5'))) rfl ?_) rfl
      rintro _ h6 ⟨s4, rfl, hs40, hs41, _, hl6⟩
      refine ⟨hl6, ?_⟩
      have hl6' := hl5'.trans hl6
      refine VD_pure rfl (P_add rfl rfl (w64 (by omega) (by omega))) rfl rfl rfl ?_
      refine VD_pure rfl (P_assign rfl) rfl rfl rfl ?_
      refine VD_nil ?_
      refine blockQ_normal ?_
      refine thenQ_normal ?_
      refine T_region ?_
      refine V_pure (P_move rfl) rfl rfl rfl ?_
      refine V_pure (P_add rfl rfl (w64 (by omega) (by omega))) rfl rfl rfl ?_
      refine V_pure (P_assign rfl) rfl rfl rfl ?_
      refine V_nil ?_
      exact ⟨(i + 1, z + s1 + s2 + s3 + s4), ⟨rfl, rfl, rfl, trivial⟩, ⟨by simp only; omega, by simp only; omega, by simp only; omega, hl6'⟩, by show l.length - (i + 1) < l.length - i; omega⟩
    · refine T_seq ?_
      refine T_seq ?_
      refine T_region ?_
      refine V_pure (P_move rfl) rfl rfl rfl ?_
      refine V_pure (P_move rfl) rfl rfl rfl ?_
      refine V_pure (P_len il67 rfl) rfl rfl rfl ?_
      refine V_pure (dt (P_lss rfl rfl) (by first | assumption | rfl | omega | decide)) rfl rfl rfl ?_
      refine V_pure (P_move rfl) rfl rfl rfl ?_
      refine V_pure (P_move rfl) rfl rfl rfl ?_
      refine V_pure (df (P_lss rfl rfl) (by first | assumption | omega | decide | exact fun hx => hx (by assumption))) rfl rfl rfl ?_
      refine V_pure (P_pick_t rfl rfl) rfl rfl rfl ?_
      refine V_nil ?_
      refine thenQ_normal ?_
      refine T_false rfl ?_
      refine T_exit ?_
      refine thenQ_exit ?_
      refine roundQ_exit ?_
      refine blockQ_here ?_
      refine thenQ_normal ?_
      refine T_seq ?_
      refine T_region ?_
      refine V_pure (P_move rfl) rfl rfl rfl ?_
      refine V_pure (P_min2 rfl rfl) rfl rfl rfl ?_
      refine V_pure (P_assign rfl) rfl rfl rfl ?_
      refine V_nil ?_
      refine thenQ_normal ?_
      refine T_ret ?_
      refine retQ_ret1 rfl ?_
      exact ⟨min z 100000, rfl, by omega, by omega, fun A n c e => (by injection e with _ e; omega), hle2⟩
  · refine T_seq ?_
    refine T_seq ?_
    refine T_region ?_
    refine V_pure (P_move rfl) rfl rfl rfl ?_
    refine V_pure (P_move rfl) rfl rfl rfl ?_
    refine V_pure (P_len il67 rfl) rfl rfl rfl ?_
    refine V_pure (df (P_lss rfl rfl) (by first | assumption | omega | decide | exact fun hx => hx (by assumption))) rfl rfl rfl ?_
    refine V_pure (P_move rfl) rfl rfl rfl ?_
    refine V_skip rfl rfl rfl ?_
    refine V_skip rfl rfl rfl ?_
    refine V_pure (P_pick_f rfl rfl) rfl rfl rfl ?_
    refine V_nil ?_
    refine thenQ_normal ?_
    refine T_false rfl ?_
    refine T_exit ?_
    refine thenQ_exit ?_
    refine roundQ_exit ?_
    refine blockQ_here ?_
    refine thenQ_normal ?_
    refine T_seq ?_
    refine T_region ?_
    refine V_pure (P_move rfl) rfl rfl rfl ?_
    refine V_pure (P_min2 rfl rfl) rfl rfl rfl ?_
    refine V_pure (P_assign rfl) rfl rfl rfl ?_
    refine V_nil ?_
    refine thenQ_normal ?_
    refine T_ret ?_
    refine retQ_ret1 rfl ?_
    exact ⟨min z 100000, rfl, by omega, by omega, fun A n c e => (by injection e with _ e; omega), hle2⟩
theorem eff_sizes {m : Mp} {cs : List Value} {x : EffT} (hx : EffR m cs x) : SizeKids m cs := by
  induction hx with
  | @mk op who n name cond thn els ns cs A B la ca lb cb vs us ho hw hn hnm hc hla hma hra hva hka hlb hmb hrb hvb hkb ih1 ih2 =>
    obtain ⟨_, _, _, _, _, _, rfl⟩ := hn.form
    obtain ⟨_, _, _, _, _, _, _, _, _, rfl⟩ := hc.form
    subst hla hlb
    have hA := Size_step (c := ca) hma hra hva hka ih1
    have hB := Size_step (c := cb) hmb hrb hvb hkb ih2
    rintro u (hu | hu)
    · simp at hu
      subst hu
      exact hA
    · simp at hu
      subst hu
      exact hB
theorem Size_ok {m : Mp} {A : Option Addr} {len c : Nat} {l : List EffT} (h : EffsR m A len l) : SizeOK m (.slice A len c) := by
  obtain ⟨rfl, hm, vs, hr, hv, hk⟩ := h
  exact Size_step hm hr hv hk fun i hi => eff_sizes (hk i hi)
end Go.Proofs.YtccleakfgmcjpaaDoor
