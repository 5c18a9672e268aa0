/- A part of the proof: contracts of functions of the program. No condition. -/
import Derived.Test.YtodogmfbafmcmaaFrE
import Derived.Test.YtodogmfbafmcmaaFrCutP
namespace Go.Proofs.Ytodogmfbafmcmaa
open Go.Eng Fr

def slv (s : Option Addr × Nat × Nat) : Value := .slice s.1 s.2.1 s.2.2
def BRow (m : Mp) (s : Option Addr × Nat × Nat) (l : List UInt8) : Prop := Rd m s.1 (l.map byteV) ∧ s.2.1 = l.length
def Rows (m : Mp) (ss : List (Option Addr × Nat × Nat)) (ls : List (List UInt8)) : Prop := ss.length = ls.length ∧ ∀ (i : Nat) (s : Option Addr × Nat × Nat) (l : List UInt8), ss[i]? = some s → ls[i]? = some l → BRow m s l
theorem Rows.mono {m m' : Mp} {ss : List (Option Addr × Nat × Nat)} {ls : List (List UInt8)} (h : Rows m ss ls) (hl : Le m m') : Rows m' ss ls :=
  ⟨h.1, fun i s l a b => ⟨(h.2 i s l a b).1.mono hl, (h.2 i s l a b).2⟩⟩
theorem Rows.nil (m : Mp) : Rows m [] [] := ⟨rfl, fun i s l h => by rw [List.getElem?_nil] at h; cases h⟩
theorem Rows.snoc {m : Mp} {ss : List (Option Addr × Nat × Nat)} {ls : List (List UInt8)} {s : Option Addr × Nat × Nat} {l : List UInt8} (h : Rows m ss ls) (hs : BRow m s l) : Rows m (ss ++ [s]) (ls ++ [l]) := by
  refine ⟨by simp [h.1], fun i s' l' a b => ?_⟩
  rcases Nat.lt_or_ge i ss.length with hi | hi
  · rw [List.getElem?_append_left hi] at a
    rw [List.getElem?_append_left (by rw [← h.1]; exact hi)] at b
    exact h.2 i s' l' a b
  · rw [List.getElem?_append_right hi] at a
    rw [List.getElem?_append_right (by rw [← h.1]; exact hi), ← h.1] at b
    cases hk : i - ss.length with
    | zero =>
      rw [hk] at a b
      simp at a b
      subst a b
      exact hs
    | succ k => rw [hk] at a; simp at a
/-- a fresh list of loads -/
def LoadsOut (m : Mp) (v : Value) (ls : List (List UInt8)) : Prop := ∃ A c ss, v = .slice A ls.length c ∧ Rd m A (ss.map slv) ∧ Rows m ss ls
def eV (b : Bool) : Value := .int .i64 (if b then 70 else 0)

def CutRes (h0 : Heap) (res : List (List UInt8) × Nat × Bool) (v : Value) (h : Heap) : Prop :=
  ∃ A c ss, v = .tuple #[.slice A res.1.length c, .int .i64 res.2.1, eV res.2.2] ∧ Own (mp h) 22 1 A res.1.length c (ss.map slv) ∧ Rows (hideO (mp h) A) ss res.1 ∧ Le (mp h0) (hideO (mp h) A)

structure Gc where
  A : Option Addr
  c : Nat
  ss : List (Option Addr × Nat × Nat)
  ls : List (List UInt8)
  at_ : Nat

structure CutInv (h0 : Heap) (b : List UInt8) (y : Gc) (h : Heap) : Prop where
  own : Own (mp h) 22 1 y.A y.ls.length y.c (y.ss.map slv)
  rows : Rows (hideO (mp h) y.A) y.ss y.ls
  le : Le (mp h0) (hideO (mp h) y.A)
  pos : y.at_ ≤ b.length
  num : y.ls.length ≤ y.at_
  same : (y.ls ++ (cutF (b.drop y.at_)).1, (cutF (b.drop y.at_)).2) = cutF b

theorem lenOf_lt (a b : UInt8) : lenOf a b < 65536 := by
  have := a.toNat_lt; have := b.toNat_lt
  unfold lenOf; omega

theorem Cut_ok (h : Heap) (B : Option Addr) (cB : Nat) (b : List UInt8) (hB : Rd (mp h) B (b.map byteV)) (hlen : b.length ≤ 65536) (hcap : b.length ≤ cB) :
    C Try.prog 11 [.slice B b.length cB].toArray h (CutRes h (cutF b)) := by
  refine C_of [2, 3, 4] Try.func11 rfl rfl rfl ?_
  refine T_seq ?_
  refine T_region ?_
  refine V_pure (P_assign rfl) rfl rfl rfl ?_
  refine V_pure (P_assign rfl) rfl rfl rfl ?_
  refine V_pure (P_assign rfl) rfl rfl rfl ?_
  refine V_nil ?_
  refine thenQ_normal ?_
  refine T_scope ?_
  refine T_seq ?_
  refine T_region ?_
  refine V_pure (P_assign rfl) rfl rfl rfl ?_
  refine V_nil ?_
  refine thenQ_normal ?_
  refine T_seq ?_
  refine T_label ?_
  refine thenQ_normal ?_
  refine T_seq ?_
  refine T_block ?_
  refine T_loop (fun y : Gc => [(0, .slice B b.length cB), (2, .slice y.A y.ls.length y.c), (3, .int .i64 0), (4, .int .i64 0), (5, .int .i64 y.at_)]) (CutInv h b) (fun y => b.length - y.at_) ⟨none, 0, [], [], 0⟩ ⟨rfl, rfl, rfl, rfl, rfl, trivial⟩
    ⟨Own.nil _ _ _, Rows.nil _, fun k o hk => hideP_mk hk rfl, Nat.zero_le _, Nat.zero_le _, by simp⟩ ?_
  rintro ⟨A, c, ss, ls, at_⟩ h1 ⟨hown, hrows, hle, hpos, hnum, hsame⟩
  simp only at hown hrows hle hpos hnum hsame ⊢
  have hdl0 : (b.drop at_).length = b.length - at_ := by simp
  by_cases h2 : b.length - at_ < 2
  · rw [cutF_short _ (by omega)] at hsame
    refine T_seq ?_
    refine T_seq ?_
    refine T_region ?_
    refine V_pure (P_move rfl) rfl rfl rfl ?_
    refine V_pure (P_len il22 rfl) rfl rfl rfl ?_
    refine V_pure (P_move rfl) rfl rfl rfl ?_
    refine V_pure (P_sub rfl rfl (w64 (by omega) (by omega))) rfl rfl rfl ?_
    refine V_pure (df (P_geq rfl rfl) (by first | assumption | omega | decide | exact fun hx => hx (by assumption))) rfl rfl rfl ?_
    refine V_nil ?_
    refine thenQ_normal ?_
    refine T_false rfl ?_
    refine T_exit ?_
    refine thenQ_exit ?_
    refine roundQ_exit ?_
    refine blockQ_here ?_
    refine thenQ_normal ?_
    refine T_seq ?_
    refine T_region ?_
    refine V_pure (P_move rfl) rfl rfl rfl ?_
    refine V_pure (P_move rfl) rfl rfl rfl ?_
    refine V_pure (P_len il22 rfl) rfl rfl rfl ?_
    refine V_pure (P_move rfl) rfl rfl rfl ?_
    refine V_pure (P_sub rfl rfl (w64 (by omega) (by omega))) rfl rfl rfl ?_
    refine V_pure (P_move rfl) rfl rfl rfl ?_
    refine V_pure (P_assign rfl) rfl rfl rfl ?_
    refine V_pure (P_assign rfl) rfl rfl rfl ?_
    refine V_pure (P_assign rfl) rfl rfl rfl ?_
    refine V_nil ?_
    refine thenQ_normal ?_
    refine T_ret ?_
    refine scopeQ_ret ?_
    refine retQ_ret rfl ?_
    rw [← hsame, hdl0]
    simp only [List.append_nil]
    exact ⟨A, c, ss, by rw [show ((b.length - at_ : Nat) : Int) = (b.length : Int) - at_ by omega]; rfl, hown, hrows, hle⟩
  · obtain ⟨x, y, q, hd⟩ : ∃ x y q, b.drop at_ = x :: y :: q := by
      match hd : b.drop at_ with
      | [] => have := congrArg List.length hd; simp at this; omega
      | [x] => have := congrArg List.length hd; simp at this; omega
      | x :: y :: q => exact ⟨x, y, q, rfl⟩
    have hdl : q.length + 2 = b.length - at_ := by have := congrArg List.length hd; simp at this; omega
    have hb : b = b.take at_ ++ x :: y :: q := by rw [← hd, List.take_append_drop]
    have hBr : Rd (mp h1) B (b.map byteV) := hB.mono (hle.trans (hideO_le _ _))
    have hBs : B.isSome = true := hBr.isSome (by simp; omega)
    have htk : (b.take at_).length = at_ := by simp; omega
    have hcx : mc (mp h1) ((sa B).add at_) = some (byteV x) := by
      have := hBr
      rw [hb] at this
      have := this.mid.2
      rwa [htk] at this
    have hcy : mc (mp h1) ((sa B).add (at_ + 1)) = some (byteV y) := by
      have := hBr
      rw [hb, show b.take at_ ++ x :: y :: q = (b.take at_ ++ [x]) ++ y :: q by simp] at this
      have := this.mid.2
      rwa [List.length_append, htk] at this
    have hx := x.toNat_lt
    have hy := y.toNat_lt
    have hor := bits_or x.toNat y.toNat hx hy
    rw [hd] at hsame
    have kB := Kept.mk hBr
    have ko := Kept.mk hown
    clear hBr hB
    have hlo : lenOf x y = x.toNat * 256 + y.toNat := rfl
    have hll := lenOf_lt x y
    by_cases hbad : lenOf x y = 0 ∨ 4096 < lenOf x y
    · rw [cutF_bad x y q hbad] at hsame
      simp only [List.append_nil, List.length_cons] at hsame
      by_cases hz : lenOf x y = 0
      · refine T_seq ?_
        refine T_seq ?_
        refine T_region ?_
        refine V_pure (P_move rfl) rfl rfl rfl ?_
        refine V_pure (P_len il22 rfl) rfl rfl rfl ?_
        refine V_pure (P_move rfl) rfl rfl rfl ?_
        refine V_pure (P_sub rfl rfl (w64 (by omega) (by omega))) rfl rfl rfl ?_
        refine V_pure (dt (P_geq rfl rfl) (by first | assumption | rfl | omega | decide)) rfl rfl rfl ?_
        refine V_nil ?_
        refine thenQ_normal ?_
        refine T_true rfl ?_
        refine T_skip ?_
        refine thenQ_normal ?_
        refine T_block ?_
        refine T_seq ?_
        refine T_draw [(0, .pure), (1, .pure), (2, .pure), (6, .pure), (7, .pure), (8, .pure), (9, .pure), (3, .read), (4, .read), (5, .pure), (10, .read), (11, .read), (12, .pure), (13, .pure)] mixed (by kernel_rfl) (fun _ _ _ _ hq => hq) ?_
        refine VD_pure rfl (P_move rfl) rfl rfl rfl ?_
        refine VD_pure rfl (P_move rfl) rfl rfl rfl ?_
        refine VD_pure rfl (P_indexAddr1 ez22 rfl rfl hBs (by omega) (by omega)) rfl rfl rfl ?_
        refine VD_pure rfl (P_move rfl) rfl rfl rfl ?_
        refine VD_pure rfl (P_move rfl) rfl rfl rfl ?_
        refine VD_pure rfl (P_add rfl rfl (w64 (by omega) (by omega))) rfl rfl rfl ?_
        refine VD_pure rfl (P_indexAddr1 ez22 rfl rfl hBs (by omega) (by omega)) rfl rfl rfl ?_
        refine VD_read rfl (R_load sg5 rfl hcx) rfl rfl rfl ?_
        refine VD_read rfl (PureV.read (P_conv_int us5 ik3 rfl (w64 (by omega) (by omega)))) rfl rfl rfl ?_
        refine VD_pure rfl (P_shl rfl rfl (by decide) (by decide) (w64 (by simp <;> omega) (by simp <;> omega))) rfl rfl rfl ?_
        refine VD_read rfl (R_load sg5 rfl hcy) rfl rfl rfl ?_
        refine VD_read rfl (PureV.read (P_conv_int us5 ik3 rfl (w64 (by omega) (by omega)))) rfl rfl rfl ?_
        refine VD_pure rfl (P_or rfl rfl (by assumption)) rfl rfl rfl ?_
        refine VD_pure rfl (P_assign rfl) rfl rfl rfl ?_
        refine VD_nil ?_
        refine thenQ_normal ?_
        refine T_seq ?_
        refine T_block ?_
        refine T_seq ?_
        refine T_region ?_
        refine V_pure (P_move rfl) rfl rfl rfl ?_
        refine V_pure (dt (P_eql rfl rfl) (by first | assumption | rfl | omega | decide)) rfl rfl rfl ?_
        refine V_pure (P_move rfl) rfl rfl rfl ?_
        refine V_skip rfl rfl rfl ?_
        refine V_skip rfl rfl rfl ?_
        refine V_pure (P_pick_t rfl rfl) rfl rfl rfl ?_
        refine V_pure (P_assign rfl) rfl rfl rfl ?_
        refine V_nil ?_
        refine thenQ_normal ?_
        refine T_true rfl ?_
        refine T_seq ?_
        refine T_region ?_
        refine V_pure (P_assign rfl) rfl rfl rfl ?_
        refine V_nil ?_
        refine thenQ_normal ?_
        refine T_exit ?_
        refine blockQ_out rfl ?_
        refine thenQ_exit ?_
        refine blockQ_out rfl ?_
        refine roundQ_exit ?_
        refine blockQ_here ?_
        refine thenQ_normal ?_
        refine T_seq ?_
        refine T_region ?_
        refine V_pure (P_move rfl) rfl rfl rfl ?_
        refine V_pure (P_move rfl) rfl rfl rfl ?_
        refine V_pure (P_len il22 rfl) rfl rfl rfl ?_
        refine V_pure (P_move rfl) rfl rfl rfl ?_
        refine V_pure (P_sub rfl rfl (w64 (by omega) (by omega))) rfl rfl rfl ?_
        refine V_pure (P_move rfl) rfl rfl rfl ?_
        refine V_pure (P_assign rfl) rfl rfl rfl ?_
        refine V_pure (P_assign rfl) rfl rfl rfl ?_
        refine V_pure (P_assign rfl) rfl rfl rfl ?_
        refine V_nil ?_
        refine thenQ_normal ?_
        refine T_ret ?_
        refine scopeQ_ret ?_
        refine retQ_ret rfl ?_
        rw [← hsame]
        exact ⟨A, c, ss, by rw [show ((q.length + 1 + 1 : Nat) : Int) = (b.length : Int) - at_ by omega]; rfl, hown, hrows, hle⟩
      · have hz2 : 4096 < lenOf x y := by omega
        refine T_seq ?_
        refine T_seq ?_
        refine T_region ?_
        refine V_pure (P_move rfl) rfl rfl rfl ?_
        refine V_pure (P_len il22 rfl) rfl rfl rfl ?_
        refine V_pure (P_move rfl) rfl rfl rfl ?_
        refine V_pure (P_sub rfl rfl (w64 (by omega) (by omega))) rfl rfl rfl ?_
        refine V_pure (dt (P_geq rfl rfl) (by first | assumption | rfl | omega | decide)) rfl rfl rfl ?_
        refine V_nil ?_
        refine thenQ_normal ?_
        refine T_true rfl ?_
        refine T_skip ?_
        refine thenQ_normal ?_
        refine T_block ?_
        refine T_seq ?_
        refine T_draw [(0, .pure), (1, .pure), (2, .pure), (6, .pure), (7, .pure), (8, .pure), (9, .pure), (3, .read), (4, .read), (5, .pure), (10, .read), (11, .read), (12, .pure), (13, .pure)] mixed (by kernel_rfl) (fun _ _ _ _ hq => hq) ?_
        refine VD_pure rfl (P_move rfl) rfl rfl rfl ?_
        refine VD_pure rfl (P_move rfl) rfl rfl rfl ?_
        refine VD_pure rfl (P_indexAddr1 ez22 rfl rfl hBs (by omega) (by omega)) rfl rfl rfl ?_
        refine VD_pure rfl (P_move rfl) rfl rfl rfl ?_
        refine VD_pure rfl (P_move rfl) rfl rfl rfl ?_
        refine VD_pure rfl (P_add rfl rfl (w64 (by omega) (by omega))) rfl rfl rfl ?_
        refine VD_pure rfl (P_indexAddr1 ez22 rfl rfl hBs (by omega) (by omega)) rfl rfl rfl ?_
        refine VD_read rfl (R_load sg5 rfl hcx) rfl rfl rfl ?_
        refine VD_read rfl (PureV.read (P_conv_int us5 ik3 rfl (w64 (by omega) (by omega)))) rfl rfl rfl ?_
        refine VD_pure rfl (P_shl rfl rfl (by decide) (by decide) (w64 (by simp <;> omega) (by simp <;> omega))) rfl rfl rfl ?_
        refine VD_read rfl (R_load sg5 rfl hcy) rfl rfl rfl ?_
        refine VD_read rfl (PureV.read (P_conv_int us5 ik3 rfl (w64 (by omega) (by omega)))) rfl rfl rfl ?_
        refine VD_pure rfl (P_or rfl rfl (by assumption)) rfl rfl rfl ?_
        refine VD_pure rfl (P_assign rfl) rfl rfl rfl ?_
        refine VD_nil ?_
        refine thenQ_normal ?_
        refine T_seq ?_
        refine T_block ?_
        refine T_seq ?_
        refine T_region ?_
        refine V_pure (P_move rfl) rfl rfl rfl ?_
        refine V_pure (df (P_eql rfl rfl) (by first | assumption | omega | decide | exact fun hx => hx (by assumption))) rfl rfl rfl ?_
        refine V_pure (P_move rfl) rfl rfl rfl ?_
        refine V_pure (P_move rfl) rfl rfl rfl ?_
        refine V_pure (dt (P_gtr rfl rfl) (by first | assumption | rfl | omega | decide)) rfl rfl rfl ?_
        refine V_pure (P_pick_f rfl rfl) rfl rfl rfl ?_
        refine V_pure (P_assign rfl) rfl rfl rfl ?_
        refine V_nil ?_
        refine thenQ_normal ?_
        refine T_true rfl ?_
        refine T_seq ?_
        refine T_region ?_
        refine V_pure (P_assign rfl) rfl rfl rfl ?_
        refine V_nil ?_
        refine thenQ_normal ?_
        refine T_exit ?_
        refine blockQ_out rfl ?_
        refine thenQ_exit ?_
        refine blockQ_out rfl ?_
        refine roundQ_exit ?_
        refine blockQ_here ?_
        refine thenQ_normal ?_
        refine T_seq ?_
        refine T_region ?_
        refine V_pure (P_move rfl) rfl rfl rfl ?_
        refine V_pure (P_move rfl) rfl rfl rfl ?_
        refine V_pure (P_len il22 rfl) rfl rfl rfl ?_
        refine V_pure (P_move rfl) rfl rfl rfl ?_
        refine V_pure (P_sub rfl rfl (w64 (by omega) (by omega))) rfl rfl rfl ?_
        refine V_pure (P_move rfl) rfl rfl rfl ?_
        refine V_pure (P_assign rfl) rfl rfl rfl ?_
        refine V_pure (P_assign rfl) rfl rfl rfl ?_
        refine V_pure (P_assign rfl) rfl rfl rfl ?_
        refine V_nil ?_
        refine thenQ_normal ?_
        refine T_ret ?_
        refine scopeQ_ret ?_
        refine retQ_ret rfl ?_
        rw [← hsame]
        exact ⟨A, c, ss, by rw [show ((q.length + 1 + 1 : Nat) : Int) = (b.length : Int) - at_ by omega]; rfl, hown, hrows, hle⟩
    · have hz1 : ¬ lenOf x y = 0 := fun e => hbad (.inl e)
      have hz2 : ¬ 4096 < lenOf x y := fun e => hbad (.inr e)
      by_cases hshort : q.length < lenOf x y
      · rw [cutF_less x y q hbad hshort] at hsame
        simp only [List.append_nil, List.length_cons] at hsame
        refine T_seq ?_
        refine T_seq ?_
        refine T_region ?_
        refine V_pure (P_move rfl) rfl rfl rfl ?_
        refine V_pure (P_len il22 rfl) rfl rfl rfl ?_
        refine V_pure (P_move rfl) rfl rfl rfl ?_
        refine V_pure (P_sub rfl rfl (w64 (by omega) (by omega))) rfl rfl rfl ?_
        refine V_pure (dt (P_geq rfl rfl) (by first | assumption | rfl | omega | decide)) rfl rfl rfl ?_
        refine V_nil ?_
        refine thenQ_normal ?_
        refine T_true rfl ?_
        refine T_skip ?_
        refine thenQ_normal ?_
        refine T_block ?_
        refine T_seq ?_
        refine T_draw [(0, .pure), (1, .pure), (2, .pure), (6, .pure), (7, .pure), (8, .pure), (9, .pure), (3, .read), (4, .read), (5, .pure), (10, .read), (11, .read), (12, .pure), (13, .pure)] mixed (by kernel_rfl) (fun _ _ _ _ hq => hq) ?_
        refine VD_pure rfl (P_move rfl) rfl rfl rfl ?_
        refine VD_pure rfl (P_move rfl) rfl rfl rfl ?_
        refine VD_pure rfl (P_indexAddr1 ez22 rfl rfl hBs (by omega) (by omega)) rfl rfl rfl ?_
        refine VD_pure rfl (P_move rfl) rfl rfl rfl ?_
        refine VD_pure rfl (P_move rfl) rfl rfl rfl ?_
        refine VD_pure rfl (P_add rfl rfl (w64 (by omega) (by omega))) rfl rfl rfl ?_
        refine VD_pure rfl (P_indexAddr1 ez22 rfl rfl hBs (by omega) (by omega)) rfl rfl rfl ?_
        refine VD_read rfl (R_load sg5 rfl hcx) rfl rfl rfl ?_
        refine VD_read rfl (PureV.read (P_conv_int us5 ik3 rfl (w64 (by omega) (by omega)))) rfl rfl rfl ?_
        refine VD_pure rfl (P_shl rfl rfl (by decide) (by decide) (w64 (by simp <;> omega) (by simp <;> omega))) rfl rfl rfl ?_
        refine VD_read rfl (R_load sg5 rfl hcy) rfl rfl rfl ?_
        refine VD_read rfl (PureV.read (P_conv_int us5 ik3 rfl (w64 (by omega) (by omega)))) rfl rfl rfl ?_
        refine VD_pure rfl (P_or rfl rfl (by assumption)) rfl rfl rfl ?_
        refine VD_pure rfl (P_assign rfl) rfl rfl rfl ?_
        refine VD_nil ?_
        refine thenQ_normal ?_
        refine T_seq ?_
        refine T_block ?_
        refine T_seq ?_
        refine T_region ?_
        refine V_pure (P_move rfl) rfl rfl rfl ?_
        refine V_pure (df (P_eql rfl rfl) (by first | assumption | omega | decide | exact fun hx => hx (by assumption))) rfl rfl rfl ?_
        refine V_pure (P_move rfl) rfl rfl rfl ?_
        refine V_pure (P_move rfl) rfl rfl rfl ?_
        refine V_pure (df (P_gtr rfl rfl) (by first | assumption | omega | decide | exact fun hx => hx (by assumption))) rfl rfl rfl ?_
        refine V_pure (P_pick_f rfl rfl) rfl rfl rfl ?_
        refine V_pure (P_assign rfl) rfl rfl rfl ?_
        refine V_nil ?_
        refine thenQ_normal ?_
        refine T_false rfl ?_
        refine T_seq ?_
        refine T_region ?_
        refine V_pure (P_move rfl) rfl rfl rfl ?_
        refine V_pure (P_len il22 rfl) rfl rfl rfl ?_
        refine V_pure (P_move rfl) rfl rfl rfl ?_
        refine V_pure (P_sub rfl rfl (w64 (by omega) (by omega))) rfl rfl rfl ?_
        refine V_pure (P_sub rfl rfl (w64 (by omega) (by omega))) rfl rfl rfl ?_
        refine V_pure (P_move rfl) rfl rfl rfl ?_
        refine V_pure (dt (P_lss rfl rfl) (by first | assumption | rfl | omega | decide)) rfl rfl rfl ?_
        refine V_pure (P_assign rfl) rfl rfl rfl ?_
        refine V_nil ?_
        refine thenQ_normal ?_
        refine T_true rfl ?_
        refine T_exit ?_
        refine blockQ_out rfl ?_
        refine thenQ_exit ?_
        refine blockQ_out rfl ?_
        refine roundQ_exit ?_
        refine blockQ_here ?_
        refine thenQ_normal ?_
        refine T_seq ?_
        refine T_region ?_
        refine V_pure (P_move rfl) rfl rfl rfl ?_
        refine V_pure (P_move rfl) rfl rfl rfl ?_
        refine V_pure (P_len il22 rfl) rfl rfl rfl ?_
        refine V_pure (P_move rfl) rfl rfl rfl ?_
        refine V_pure (P_sub rfl rfl (w64 (by omega) (by omega))) rfl rfl rfl ?_
        refine V_pure (P_move rfl) rfl rfl rfl ?_
        refine V_pure (P_assign rfl) rfl rfl rfl ?_
        refine V_pure (P_assign rfl) rfl rfl rfl ?_
        refine V_pure (P_assign rfl) rfl rfl rfl ?_
        refine V_nil ?_
        refine thenQ_normal ?_
        refine T_ret ?_
        refine scopeQ_ret ?_
        refine retQ_ret rfl ?_
        rw [← hsame]
        exact ⟨A, c, ss, by rw [show ((q.length + 1 + 1 : Nat) : Int) = (b.length : Int) - at_ by omega]; rfl, hown, hrows, hle⟩
      · rw [cutF_more x y q hbad hshort] at hsame
        refine T_seq ?_
        refine T_seq ?_
        refine T_region ?_
        refine V_pure (P_move rfl) rfl rfl rfl ?_
        refine V_pure (P_len il22 rfl) rfl rfl rfl ?_
        refine V_pure (P_move rfl) rfl rfl rfl ?_
        refine V_pure (P_sub rfl rfl (w64 (by omega) (by omega))) rfl rfl rfl ?_
        refine V_pure (dt (P_geq rfl rfl) (by first | assumption | rfl | omega | decide)) rfl rfl rfl ?_
        refine V_nil ?_
        refine thenQ_normal ?_
        refine T_true rfl ?_
        refine T_skip ?_
        refine thenQ_normal ?_
        refine T_block ?_
        refine T_seq ?_
        refine T_draw [(0, .pure), (1, .pure), (2, .pure), (6, .pure), (7, .pure), (8, .pure), (9, .pure), (3, .read), (4, .read), (5, .pure), (10, .read), (11, .read), (12, .pure), (13, .pure)] mixed (by kernel_rfl) (fun _ _ _ _ hq => hq) ?_
        refine VD_pure rfl (P_move rfl) rfl rfl rfl ?_
        refine VD_pure rfl (P_move rfl) rfl rfl rfl ?_
        refine VD_pure rfl (P_indexAddr1 ez22 rfl rfl hBs (by omega) (by omega)) rfl rfl rfl ?_
        refine VD_pure rfl (P_move rfl) rfl rfl rfl ?_
        refine VD_pure rfl (P_move rfl) rfl rfl rfl ?_
        refine VD_pure rfl (P_add rfl rfl (w64 (by omega) (by omega))) rfl rfl rfl ?_
        refine VD_pure rfl (P_indexAddr1 ez22 rfl rfl hBs (by omega) (by omega)) rfl rfl rfl ?_
        refine VD_read rfl (R_load sg5 rfl hcx) rfl rfl rfl ?_
        refine VD_read rfl (PureV.read (P_conv_int us5 ik3 rfl (w64 (by omega) (by omega)))) rfl rfl rfl ?_
        refine VD_pure rfl (P_shl rfl rfl (by decide) (by decide) (w64 (by simp <;> omega) (by simp <;> omega))) rfl rfl rfl ?_
        refine VD_read rfl (R_load sg5 rfl hcy) rfl rfl rfl ?_
        refine VD_read rfl (PureV.read (P_conv_int us5 ik3 rfl (w64 (by omega) (by omega)))) rfl rfl rfl ?_
        refine VD_pure rfl (P_or rfl rfl (by assumption)) rfl rfl rfl ?_
        refine VD_pure rfl (P_assign rfl) rfl rfl rfl ?_
        refine VD_nil ?_
        refine thenQ_normal ?_
        refine T_seq ?_
        refine T_block ?_
        refine T_seq ?_
        refine T_region ?_
        refine V_pure (P_move rfl) rfl rfl rfl ?_
        refine V_pure (df (P_eql rfl rfl) (by first | assumption | omega | decide | exact fun hx => hx (by assumption))) rfl rfl rfl ?_
        refine V_pure (P_move rfl) rfl rfl rfl ?_
        refine V_pure (P_move rfl) rfl rfl rfl ?_
        refine V_pure (df (P_gtr rfl rfl) (by first | assumption | omega | decide | exact fun hx => hx (by assumption))) rfl rfl rfl ?_
        refine V_pure (P_pick_f rfl rfl) rfl rfl rfl ?_
        refine V_pure (P_assign rfl) rfl rfl rfl ?_
        refine V_nil ?_
        refine thenQ_normal ?_
        refine T_false rfl ?_
        refine T_seq ?_
        refine T_region ?_
        refine V_pure (P_move rfl) rfl rfl rfl ?_
        refine V_pure (P_len il22 rfl) rfl rfl rfl ?_
        refine V_pure (P_move rfl) rfl rfl rfl ?_
        refine V_pure (P_sub rfl rfl (w64 (by omega) (by omega))) rfl rfl rfl ?_
        refine V_pure (P_sub rfl rfl (w64 (by omega) (by omega))) rfl rfl rfl ?_
        refine V_pure (P_move rfl) rfl rfl rfl ?_
        refine V_pure (df (P_lss rfl rfl) (by first | assumption | omega | decide | exact fun hx => hx (by assumption))) rfl rfl rfl ?_
        refine V_pure (P_assign rfl) rfl rfl rfl ?_
        refine V_nil ?_
        refine thenQ_normal ?_
        refine T_false rfl ?_
        refine T_skip ?_
        refine blockQ_normal ?_
        refine thenQ_normal ?_
        refine T_seq ?_
        refine T_region ?_
        refine V_pure (P_move rfl) rfl rfl rfl ?_
        refine V_step (E_buildSlice sl22 rfl rfl rfl rfl (fun b1 h3 hn1 hb1 hl1 => ?_)) rfl
        replace hown := hown.mono hl1
        refine V_pure (P_move rfl) rfl rfl rfl ?_
        refine V_pure (P_move rfl) rfl rfl rfl ?_
        refine V_pure (P_add rfl rfl (w64 (by omega) (by omega))) rfl rfl rfl ?_
        refine V_pure (P_move rfl) rfl rfl rfl ?_
        refine V_pure (P_add rfl rfl (w64 (by omega) (by omega))) rfl rfl rfl ?_
        refine V_pure (P_move rfl) rfl rfl rfl ?_
        refine V_pure (P_add rfl rfl (w64 (by omega) (by omega))) rfl rfl rfl ?_
        refine V_pure (P_move rfl) rfl rfl rfl ?_
        refine V_pure (P_add rfl rfl (w64 (by omega) (by omega))) rfl rfl rfl ?_
        refine V_pure (P_move rfl) rfl rfl rfl ?_
        refine V_pure (P_add rfl rfl (w64 (by omega) (by omega))) rfl rfl rfl ?_
        refine V_pure ((P_slice_lhm (at_ + 2) (at_ + 2 + lenOf x y) (at_ + 2 + lenOf x y) ez22 rfl rfl rfl rfl (by omega) (by omega) (by omega) (by omega) (by omega) (by omega))) rfl rfl rfl ?_
        have hsrc := (kB.out.mono hl1).cut (l := at_ + 2) (mm := at_ + 2 + lenOf x y) (sz := 1) (lenOf x y) (by omega)
        have esrc : List.take (lenOf x y * 1) (List.drop ((at_ + 2) * 1) (List.map byteV b)) = (q.take (lenOf x y)).map byteV := by
          simp only [Nat.mul_one, ← List.map_drop, ← List.map_take]
          rw [← List.drop_drop, hd]
          rfl
        rw [esrc] at hsrc
        have hql : (q.take (lenOf x y)).length = lenOf x y := by simp; omega
        refine V_step ((E_append (k := 0) (xs := []) (news := (q.take (lenOf x y)).map byteV) sl22 rfl rfl rfl rfl (Own.new hb1 rfl (by decide)) hsrc (by rw [List.length_map, hql]; omega) (oneV_bytes _) (by simp only [maxLen]; omega) (by omega) rfl ?_)) rfl
        rintro O cO h4 hoO hgO
        obtain ⟨hle4, hO⟩ := hgO.fresh hl1 hn1 rfl
        have hown4 := ko.out.mono hle4
        have ko4 := Kept.mk hown4
        clear hown hsrc esrc hb1 hl1 hn1 hgO hcx hcy
        refine V_step (E_buildSlice sl31 rfl rfl rfl rfl (fun b2 h5 hn1 hb1 hl1 => ?_)) rfl
        replace hoO := hoO.mono hl1
        replace hle4 := Le.trans hle4 hl1
        replace hown4 := hown4.mono hl1
        refine V_step ((E_append (news := [slv (O, 0 + (at_ + 2 + lenOf x y - (at_ + 2)), cO)]) sl31 rfl rfl rfl rfl hown4 (Rd.blk hb1) rfl (by simp [slv, oneV]) (by simp only [maxLen]; omega) (by omega) rfl ?_)) rfl
        rintro A' c' h6 ho6 hg6
        refine V_pure (P_assign rfl) rfl rfl rfl ?_
        refine V_nil ?_
        refine thenQ_normal ?_
        refine T_region ?_
        refine V_pure (P_move rfl) rfl rfl rfl ?_
        refine V_pure (P_move rfl) rfl rfl rfl ?_
        refine V_pure (P_add rfl rfl (w64 (by omega) (by omega))) rfl rfl rfl ?_
        refine V_pure (P_add rfl rfl (w64 (by omega) (by omega))) rfl rfl rfl ?_
        refine V_pure (P_assign rfl) rfl rfl rfl ?_
        refine V_nil ?_
        refine blockQ_normal ?_
        have hl : (ls ++ [q.take (lenOf x y)]).length = ls.length + 1 := by simp
        have hst := (hideO_mono hle4 A).trans hg6.rest
        have hRd : Rd (hideO (mp h6) A') O ((q.take (lenOf x y)).map byteV) := by
          have := hoO.rd
          rw [List.nil_append] at this
          refine (this.hide (S := inB A) fun k hk => ?_).mono hg6.rest
          cases hi : inB A k with
          | false => rfl
          | true =>
            obtain ⟨cur, hm⟩ := ko.out.at_ hi
            rw [hO k _ hm] at hk
            exact Bool.noConfusion hk
        refine ⟨⟨A', c', ss ++ [(O, 0 + (at_ + 2 + lenOf x y - (at_ + 2)), cO)], ls ++ [q.take (lenOf x y)], at_ + 2 + lenOf x y⟩, ⟨rfl, by simp only [hl]; rfl, rfl, rfl, ?_, trivial⟩, ⟨?_, (hrows.mono hst).snoc ⟨hRd, ?_⟩, hle.trans hst, ?_, ?_, ?_⟩, ?_⟩
        · simp only
          rw [show ((at_ + 2 + lenOf x y : Nat) : Int) = (at_ : Int) + (2 + ((x.toNat * 256 + y.toNat : Nat) : Int)) by omega]
          rfl
        · simp only [List.map_append, hl]
          exact ho6
        · simp only [hql]; omega
        · simp only; omega
        · simp only [hl]; omega
        · simp only
          rw [show List.drop (at_ + 2 + lenOf x y) b = q.drop (lenOf x y) by rw [← List.drop_drop, ← List.drop_drop, hd]; rfl, List.append_assoc]
          exact hsame
        · show b.length - (at_ + 2 + lenOf x y) < b.length - at_
          omega
end Go.Proofs.Ytodogmfbafmcmaa
