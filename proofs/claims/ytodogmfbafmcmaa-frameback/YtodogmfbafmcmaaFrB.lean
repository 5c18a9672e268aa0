/- A part of the proof: contracts of functions of the program. No condition. -/
import Derived.Test.YtodogmfbafmcmaaFrA
import Derived.Test.YtodogmfbafmcmaaFrP
namespace Go.Proofs.Ytodogmfbafmcmaa
open Go.Eng Fr

def natV (n : Nat) : Value := .int .i64 n
def ptr (g : Nat) : Value := .pointer (some ⟨g, 0, none⟩)
def regS (g : Nat) (A E : Option Addr) : Nat → Bool := fun k => k == g || inB A k || inB E k
/-- a reader that holds whole frames R, a beginning p of one, and bytes that it has not looked at -/
structure RdrL (m : Mp) (g : Nat) (R : List (List UInt8)) (p rest : List UInt8) (A : Option Addr) (c : Nat) (E : Option Addr) (ce : Nat) : Prop where
  cells : m g = some (.cells (rdr (.slice A (R.flatten ++ p ++ rest).length c) (R.flatten ++ p).length (.slice E R.length ce) (needOf p) (stepV (17 + stOf p) g) false).toArray 43 (0, 0))
  own : Own m 5 1 A (R.flatten ++ p ++ rest).length c ((R.flatten ++ p ++ rest).map byteV)
  ends : Own m 3 1 E R.length ce ((endsFrom 0 R).map natV)
/-- one that broke -/
structure RdrB (m : Mp) (g : Nat) (R : List (List UInt8)) (A : Option Addr) (c : Nat) (E : Option Addr) (ce : Nat) : Prop where
  cells : ∃ (need : Int) (st : Value), m g = some (.cells (rdr (.slice A R.flatten.length c) (R.flatten.length + 1 : Nat) (.slice E R.length ce) need st true).toArray 43 (0, 0))
  own : Own m 5 1 A R.flatten.length c (R.flatten.map byteV)
  ends : Own m 3 1 E R.length ce ((endsFrom 0 R).map natV)

theorem Broken_nil (h : Heap) : C Try.prog 8 [.pointer none].toArray h fun v h' => v = .bool false ∧ h' = h := by
  refine C_of [2] Try.func8 rfl rfl rfl ?_
  refine T_seq ?_
  refine T_region ?_
  refine V_pure (P_assign rfl) rfl rfl rfl ?_
  refine V_nil ?_
  refine thenQ_normal ?_
  refine T_seq ?_
  refine T_region ?_
  refine V_pure (P_move rfl) rfl rfl rfl ?_
  refine V_pure (P_pneq_nil pt23 rfl rfl) rfl rfl rfl ?_
  refine V_pure (P_move rfl) rfl rfl rfl ?_
  refine V_skip rfl rfl rfl ?_
  refine V_skip rfl rfl rfl ?_
  refine V_skip rfl rfl rfl ?_
  refine V_skip rfl rfl rfl ?_
  refine V_pure (P_pick_f rfl rfl) rfl rfl rfl ?_
  refine V_pure (P_assign rfl) rfl rfl rfl ?_
  refine V_nil ?_
  refine thenQ_normal ?_
  refine T_ret ?_
  refine retQ_ret1 rfl ?_
  exact ⟨rfl, rfl⟩
theorem Held_nil (h : Heap) : C Try.prog 9 [.pointer none].toArray h fun v h' => v = .int .i64 0 ∧ h' = h := by
  refine C_of [2] Try.func9 rfl rfl rfl ?_
  refine T_seq ?_
  refine T_region ?_
  refine V_pure (P_assign rfl) rfl rfl rfl ?_
  refine V_nil ?_
  refine thenQ_normal ?_
  refine T_seq ?_
  refine T_seq ?_
  refine T_region ?_
  refine V_pure (P_move rfl) rfl rfl rfl ?_
  refine V_pure (P_peql_nil pt23 rfl rfl) rfl rfl rfl ?_
  refine V_nil ?_
  refine thenQ_normal ?_
  refine T_true rfl ?_
  refine T_seq ?_
  refine T_region ?_
  refine V_pure (P_assign rfl) rfl rfl rfl ?_
  refine V_nil ?_
  refine thenQ_normal ?_
  refine T_ret ?_
  refine thenQ_ret ?_
  refine retQ_ret1 rfl ?_
  exact ⟨rfl, rfl⟩
theorem Next_nil (h : Heap) : C Try.prog 6 [.pointer none].toArray h fun v h' => v = .tuple #[.slice none 0 0, .bool false] ∧ h' = h := by
  refine C_of [2, 3] Try.func6 rfl rfl rfl ?_
  refine T_seq ?_
  refine T_region ?_
  refine V_pure (P_assign rfl) rfl rfl rfl ?_
  refine V_pure (P_assign rfl) rfl rfl rfl ?_
  refine V_nil ?_
  refine thenQ_normal ?_
  refine T_seq ?_
  refine T_seq ?_
  refine T_region ?_
  refine V_pure (P_move rfl) rfl rfl rfl ?_
  refine V_pure (P_peql_nil pt23 rfl rfl) rfl rfl rfl ?_
  refine V_pure (P_move rfl) rfl rfl rfl ?_
  refine V_skip rfl rfl rfl ?_
  refine V_skip rfl rfl rfl ?_
  refine V_skip rfl rfl rfl ?_
  refine V_skip rfl rfl rfl ?_
  refine V_skip rfl rfl rfl ?_
  refine V_skip rfl rfl rfl ?_
  refine V_pure (P_pick_t rfl rfl) rfl rfl rfl ?_
  refine V_nil ?_
  refine thenQ_normal ?_
  refine T_true rfl ?_
  refine T_seq ?_
  refine T_region ?_
  refine V_pure (P_assign rfl) rfl rfl rfl ?_
  refine V_pure (P_assign rfl) rfl rfl rfl ?_
  refine V_nil ?_
  refine thenQ_normal ?_
  refine T_ret ?_
  refine thenQ_ret ?_
  refine retQ_ret rfl ?_
  exact ⟨rfl, rfl⟩
theorem Feed_nil (h : Heap) (B : Option Addr) (m c : Nat) : C Try.prog 7 [.pointer none, .slice B m c].toArray h fun v h' => v = .int .i64 1 ∧ h' = h := by
  refine C_of [4] Try.func7 rfl rfl rfl ?_
  refine T_seq ?_
  refine T_region ?_
  refine V_pure (P_assign rfl) rfl rfl rfl ?_
  refine V_nil ?_
  refine thenQ_normal ?_
  refine T_seq ?_
  refine T_block ?_
  refine T_seq ?_
  refine T_region ?_
  refine V_pure (P_move rfl) rfl rfl rfl ?_
  refine V_pure (P_peql_nil pt23 rfl rfl) rfl rfl rfl ?_
  refine V_pure (P_assign rfl) rfl rfl rfl ?_
  refine V_nil ?_
  refine thenQ_normal ?_
  refine T_true rfl ?_
  refine T_seq ?_
  refine T_region ?_
  refine V_pure (P_assign rfl) rfl rfl rfl ?_
  refine V_nil ?_
  refine thenQ_normal ?_
  refine T_ret ?_
  refine blockQ_ret ?_
  refine thenQ_ret ?_
  refine retQ_ret1 rfl ?_
  exact ⟨rfl, rfl⟩
theorem Broken_ok (h : Heap) (g : Nat) (b : Value) (at_ : Int) (ends : Value) (need : Int) (step : Value) (br : Bool) (hg : mp h g = some (.cells (rdr b at_ ends need step br).toArray 43 (0, 0))) :
    C Try.prog 8 [ptr g].toArray h fun v h' => v = .bool br ∧ h' = h := by
  refine C_of [2] Try.func8 rfl rfl rfl ?_
  refine T_seq ?_
  refine T_region ?_
  refine V_pure (P_assign rfl) rfl rfl rfl ?_
  refine V_nil ?_
  refine thenQ_normal ?_
  refine T_seq ?_
  refine T_region ?_
  refine V_pure (P_move rfl) rfl rfl rfl ?_
  refine V_pure (P_pneq_nil pt23 rfl rfl) rfl rfl rfl ?_
  refine V_pure (P_move rfl) rfl rfl rfl ?_
  refine V_pure (P_move rfl) rfl rfl rfl ?_
  refine V_pure (P_nilCheck rfl) rfl rfl rfl ?_
  refine V_pure (P_fieldAddr0 fo43_5 rfl) rfl rfl rfl ?_
  refine V_read (R_load sg4 rfl (mc_blk hg rfl)) rfl rfl rfl ?_
  refine V_pure (P_pick_t rfl rfl) rfl rfl rfl ?_
  refine V_pure (P_assign rfl) rfl rfl rfl ?_
  refine V_nil ?_
  refine thenQ_normal ?_
  refine T_ret ?_
  refine retQ_ret1 rfl ?_
  cases br
  · skip
    exact ⟨rfl, rfl⟩
  · skip
    exact ⟨rfl, rfl⟩
theorem Held_ok (h : Heap) (g : Nat) (A : Option Addr) (n c : Nat) (at_ : Int) (ends : Value) (need : Int) (step : Value) (br : Bool) (hg : mp h g = some (.cells (rdr (.slice A n c) at_ ends need step br).toArray 43 (0, 0))) :
    C Try.prog 9 [ptr g].toArray h fun v h' => v = .int .i64 n ∧ h' = h := by
  refine C_of [2] Try.func9 rfl rfl rfl ?_
  refine T_seq ?_
  refine T_region ?_
  refine V_pure (P_assign rfl) rfl rfl rfl ?_
  refine V_nil ?_
  refine thenQ_normal ?_
  refine T_seq ?_
  refine T_seq ?_
  refine T_region ?_
  refine V_pure (P_move rfl) rfl rfl rfl ?_
  refine V_pure (P_peql_nil pt23 rfl rfl) rfl rfl rfl ?_
  refine V_nil ?_
  refine thenQ_normal ?_
  refine T_false rfl ?_
  refine T_skip ?_
  refine thenQ_normal ?_
  refine T_seq ?_
  refine T_region ?_
  refine V_pure (P_move rfl) rfl rfl rfl ?_
  refine V_pure (P_nilCheck rfl) rfl rfl rfl ?_
  refine V_pure (P_fieldAddr0 fo43_0 rfl) rfl rfl rfl ?_
  refine V_read (R_load sg22 rfl (mc_blk hg rfl)) rfl rfl rfl ?_
  refine V_pure (P_len il22 rfl) rfl rfl rfl ?_
  refine V_pure (P_assign rfl) rfl rfl rfl ?_
  refine V_nil ?_
  refine thenQ_normal ?_
  refine T_ret ?_
  refine retQ_ret1 rfl ?_
  exact ⟨rfl, rfl⟩
theorem Feed_broken (h : Heap) (g : Nat) (b : Value) (at_ : Int) (ends : Value) (need : Int) (step : Value) (B : Option Addr) (m c : Nat) (hg : mp h g = some (.cells (rdr b at_ ends need step true).toArray 43 (0, 0))) :
    C Try.prog 7 [ptr g, .slice B m c].toArray h fun v h' => v = .int .i64 70 ∧ h' = h := by
  refine C_of [4] Try.func7 rfl rfl rfl ?_
  refine T_seq ?_
  refine T_region ?_
  refine V_pure (P_assign rfl) rfl rfl rfl ?_
  refine V_nil ?_
  refine thenQ_normal ?_
  refine T_seq ?_
  refine T_block ?_
  refine T_seq ?_
  refine T_region ?_
  refine V_pure (P_move rfl) rfl rfl rfl ?_
  refine V_pure (P_peql_nil pt23 rfl rfl) rfl rfl rfl ?_
  refine V_pure (P_assign rfl) rfl rfl rfl ?_
  refine V_nil ?_
  refine thenQ_normal ?_
  refine T_false rfl ?_
  refine T_seq ?_
  refine T_region ?_
  refine V_pure (P_move rfl) rfl rfl rfl ?_
  refine V_pure (P_nilCheck rfl) rfl rfl rfl ?_
  refine V_pure (P_fieldAddr0 fo43_5 rfl) rfl rfl rfl ?_
  refine V_read (R_load sg4 rfl (mc_blk hg rfl)) rfl rfl rfl ?_
  refine V_pure (P_assign rfl) rfl rfl rfl ?_
  refine V_nil ?_
  refine thenQ_normal ?_
  refine T_true rfl ?_
  refine T_seq ?_
  refine T_region ?_
  refine V_pure (P_assign rfl) rfl rfl rfl ?_
  refine V_nil ?_
  refine thenQ_normal ?_
  refine T_ret ?_
  refine blockQ_ret ?_
  refine thenQ_ret ?_
  refine retQ_ret1 rfl ?_
  exact ⟨rfl, rfl⟩

/-- what Feed has done, once the bytes are looked at -/
def FeedDone (h0 : Heap) (S0 : Nat → Bool) (g : Nat) (res : List (List UInt8) × List UInt8 × Bool) (v : Value) (h : Heap) : Prop :=
  ∃ A c E ce, Chg S0 h0 h (regS g A E) ∧
    ((res.2.2 = true ∧ v = .int .i64 70 ∧ RdrB (mp h) g res.1 A c E ce) ∨ (res.2.2 = false ∧ v = .int .i64 0 ∧ RdrL (mp h) g res.1 res.2.1 [] A c E ce))

structure Gh where
  R : List (List UInt8)
  p : List UInt8
  rest : List UInt8
  A : Option Addr
  c : Nat
  E : Option Addr
  ce : Nat
/-- what holds while Feed looks at the bytes -/
structure FeedInv (h0 : Heap) (S0 : Nat → Bool) (g : Nat) (res : List (List UInt8) × List UInt8 × Bool) (y : Gh) (h : Heap) : Prop where
  r : RdrL (mp h) g y.R y.p y.rest y.A y.c y.E y.ce
  ok : okP y.p
  same : feedP y.R y.p y.rest = res
  chg : Chg S0 h0 h (regS g y.A y.E)
  len : (y.R.flatten ++ y.p ++ y.rest).length ≤ 65536
  num : y.R.length + y.rest.length ≤ 131072

theorem Feed_ok (h : Heap) (g : Nat) (R : List (List UInt8)) (p xs : List UInt8) (A : Option Addr) (c : Nat) (E : Option Addr) (ce : Nat) (B : Option Addr) (cB : Nat)
    (hr : RdrL (mp h) g R p [] A c E ce) (hp : okP p) (hB : Rd (hideP (mp h) (regS g A E)) B (xs.map byteV)) (hlen : (R.flatten ++ p).length + xs.length ≤ 65536) (hR : R.length ≤ 65536) :
    C Try.prog 7 [ptr g, .slice B xs.length cB].toArray h (FeedDone h (regS g A E) g (feedP R p xs)) := by
  obtain ⟨hc, ho, he⟩ := hr
  refine C_of [4] Try.func7 rfl rfl rfl ?_
  simp only [List.append_nil] at hc ho
  refine T_seq ?_
  refine T_region ?_
  refine V_pure (P_assign rfl) rfl rfl rfl ?_
  refine V_nil ?_
  refine thenQ_normal ?_
  refine T_seq ?_
  refine T_block ?_
  refine T_seq ?_
  refine T_region ?_
  refine V_pure (P_move rfl) rfl rfl rfl ?_
  refine V_pure (P_peql_nil pt23 rfl rfl) rfl rfl rfl ?_
  refine V_pure (P_assign rfl) rfl rfl rfl ?_
  refine V_nil ?_
  refine thenQ_normal ?_
  refine T_false rfl ?_
  refine T_seq ?_
  refine T_region ?_
  refine V_pure (P_move rfl) rfl rfl rfl ?_
  refine V_pure (P_nilCheck rfl) rfl rfl rfl ?_
  refine V_pure (P_fieldAddr0 fo43_5 rfl) rfl rfl rfl ?_
  refine V_read (R_load sg4 rfl (mc_blk hc rfl)) rfl rfl rfl ?_
  refine V_pure (P_assign rfl) rfl rfl rfl ?_
  refine V_nil ?_
  refine thenQ_normal ?_
  refine T_false rfl ?_
  refine T_seq ?_
  refine T_region ?_
  refine V_pure (P_move rfl) rfl rfl rfl ?_
  refine V_pure (P_len il22 rfl) rfl rfl rfl ?_
  refine V_pure (P_move rfl) rfl rfl rfl ?_
  refine V_pure (P_nilCheck rfl) rfl rfl rfl ?_
  refine V_pure (P_fieldAddr0 fo43_0 rfl) rfl rfl rfl ?_
  refine V_read (R_load sg22 rfl (mc_blk hc rfl)) rfl rfl rfl ?_
  refine V_pure (P_len il22 rfl) rfl rfl rfl ?_
  refine V_pure (P_sub rfl rfl (w64 (by omega) (by omega))) rfl rfl rfl ?_
  refine V_pure (df (P_gtr rfl rfl) (by first | assumption | omega | decide | exact fun hx => hx (by assumption))) rfl rfl rfl ?_
  refine V_pure (P_assign rfl) rfl rfl rfl ?_
  refine V_nil ?_
  refine thenQ_normal ?_
  refine T_false rfl ?_
  refine T_skip ?_
  refine blockQ_normal ?_
  refine thenQ_normal ?_
  refine T_seq ?_
  refine T_region ?_
  refine V_pure (P_move rfl) rfl rfl rfl ?_
  refine V_pure (P_move rfl) rfl rfl rfl ?_
  refine V_pure (P_nilCheck rfl) rfl rfl rfl ?_
  refine V_pure (P_fieldAddr0 fo43_0 rfl) rfl rfl rfl ?_
  refine V_read (R_load sg22 rfl (mc_blk hc rfl)) rfl rfl rfl ?_
  refine V_pure (P_move rfl) rfl rfl rfl ?_
  refine V_step ((E_append (news := xs.map byteV) sl22 rfl rfl rfl rfl ho (hB.mono (hideP_le _ _)) (by simp) (by simp [oneV, byteV]) (by simp only [maxLen]; omega) (by omega) rfl ?_)) rfl
  rintro A' c' h1 ho1 hg1
  have hgA := ho.apart hc (by decide)
  have hc1 : mp h1 g = _ := (hg1.other g (mp_some hc) (by intro e; simp [inB, ← e] at hgA)).trans hc
  refine V_pure (P_nilCheck rfl) rfl rfl rfl ?_
  refine V_pure (P_fieldAddr0 fo43_0 rfl) rfl rfl rfl ?_
  refine V_step (E_store co22 rfl rfl rfl hc1 rfl (fun h2 hb1 hl1 hn1 => ?_)) rfl
  refine V_nil ?_
  refine thenQ_normal ?_
  refine T_seq ?_
  refine T_block ?_
  clear hB
  have hd := ho.disj he (by decide)
  have he2 := (he.grew hg1 hd).stored hl1 hc1 (by decide)
  have ho2 := ho1.stored hl1 hc1 (by decide)
  have hr2 : RdrL (mp h2) g R p xs A' c' E ce := ⟨by rw [List.length_append]; exact hb1, by rw [List.length_append, List.map_append]; exact ho2, he2⟩
  have hchg : Chg (regS g A E) h h2 (regS g A' E) :=
    (Chg.grew (S' := regS g A' E) hg1 (fun k hk => by simp [regS, hk]) (fun k hk => by simp only [regS, Bool.or_eq_true] at hk ⊢; rcases hk with (hk | hk) | hk; exact .inl (.inl (.inl hk)); exact .inr hk; exact .inl (.inr hk))).trans (Chg.store hl1 (by simp [regS]) hn1)
  have hinv : FeedInv h (regS g A E) g (feedP R p xs) ⟨R, p, xs, A', c', E, ce⟩ h2 := ⟨hr2, hp, rfl, hchg, by rw [List.length_append]; exact hlen, by simp only; omega⟩
  refine T_loop (fun _ => [(0, ptr g)]) (FeedInv h (regS g A E) g (feedP R p xs)) (fun y => y.rest.length) ⟨R, p, xs, A', c', E, ce⟩ ⟨rfl, trivial⟩ hinv ?_
  clear hinv hchg hr2 he2 ho2 hd hl1 hn1 hb1 hc1 hgA hg1 ho1 he ho hc hlen hR hp
  generalize feedP R p xs = res
  generalize regS g A E = S0
  rintro ⟨R, p, rest, A, c, E, ce⟩ h1 ⟨⟨hc, ho, he⟩, hp, hsame, hchg, hlen, hnum⟩
  simp only at hc ho he hp hsame hchg hlen hnum ⊢
  cases rest with
  | nil =>
    have hl0 : ((R.flatten ++ p ++ []).length : Int) = (R.flatten ++ p).length := by simp
    refine T_seq ?_
    refine T_seq ?_
    refine T_draw [(0, .pure), (1, .pure), (2, .pure), (4, .pure), (5, .pure), (6, .pure), (3, .read), (7, .read), (8, .pure), (9, .pure)] mixed (by kernel_rfl) (fun _ _ _ _ hq => hq) ?_
    refine VD_pure rfl (P_move rfl) rfl rfl rfl ?_
    refine VD_pure rfl (P_nilCheck rfl) rfl rfl rfl ?_
    refine VD_pure rfl (P_fieldAddr0 fo43_1 rfl) rfl rfl rfl ?_
    refine VD_pure rfl (P_move rfl) rfl rfl rfl ?_
    refine VD_pure rfl (P_nilCheck rfl) rfl rfl rfl ?_
    refine VD_pure rfl (P_fieldAddr0 fo43_0 rfl) rfl rfl rfl ?_
    refine VD_read rfl (R_load sg3 rfl (mc_blk hc rfl)) rfl rfl rfl ?_
    refine VD_read rfl (R_load sg22 rfl (mc_blk hc rfl)) rfl rfl rfl ?_
    refine VD_pure rfl (P_len il22 rfl) rfl rfl rfl ?_
    refine VD_pure rfl (df (P_lss rfl rfl) (by first | assumption | omega | decide | exact fun hx => hx (by assumption))) rfl rfl rfl ?_
    refine VD_nil ?_
    refine thenQ_normal ?_
    refine T_false rfl ?_
    refine T_exit ?_
    refine thenQ_exit ?_
    refine roundQ_exit ?_
    refine blockQ_here ?_
    refine thenQ_normal ?_
    refine T_seq ?_
    refine T_region ?_
    refine V_pure (P_assign rfl) rfl rfl rfl ?_
    refine V_nil ?_
    refine thenQ_normal ?_
    refine T_ret ?_
    refine retQ_ret1 rfl ?_
    simp only [feedP] at hsame
    subst hsame
    exact ⟨A, c, E, ce, hchg, .inr ⟨rfl, rfl, hc, ho, he⟩⟩
  | cons x xs =>
    have hl1 : ((R.flatten ++ p ++ x :: xs).length : Int) = (R.flatten ++ p).length + xs.length + 1 := by simp; omega
    simp only [List.length_cons] at hnum
    obtain ⟨hA, hcell⟩ := ho.rd.mid
    have hxl := x.toNat_lt
    have hS : regS g A E g = true := by simp [regS]
    match p, hp with
    | [], hp =>
      simp only [feedP] at hsame
      refine T_seq ?_
      refine T_seq ?_
      refine T_draw [(0, .pure), (1, .pure), (2, .pure), (4, .pure), (5, .pure), (6, .pure), (3, .read), (7, .read), (8, .pure), (9, .pure)] mixed (by kernel_rfl) (fun _ _ _ _ hq => hq) ?_
      refine VD_pure rfl (P_move rfl) rfl rfl rfl ?_
      refine VD_pure rfl (P_nilCheck rfl) rfl rfl rfl ?_
      refine VD_pure rfl (P_fieldAddr0 fo43_1 rfl) rfl rfl rfl ?_
      refine VD_pure rfl (P_move rfl) rfl rfl rfl ?_
      refine VD_pure rfl (P_nilCheck rfl) rfl rfl rfl ?_
      refine VD_pure rfl (P_fieldAddr0 fo43_0 rfl) rfl rfl rfl ?_
      refine VD_read rfl (R_load sg3 rfl (mc_blk hc rfl)) rfl rfl rfl ?_
      refine VD_read rfl (R_load sg22 rfl (mc_blk hc rfl)) rfl rfl rfl ?_
      refine VD_pure rfl (P_len il22 rfl) rfl rfl rfl ?_
      refine VD_pure rfl (dt (P_lss rfl rfl) (by first | assumption | rfl | omega | decide)) rfl rfl rfl ?_
      refine VD_nil ?_
      refine thenQ_normal ?_
      refine T_true rfl ?_
      refine T_skip ?_
      refine thenQ_normal ?_
      refine T_seq ?_
      refine T_block ?_
      refine T_seq ?_
      refine T_draw [(0, .pure), (1, .pure), (2, .pure), (4, .pure), (5, .pure), (6, .pure), (8, .pure), (9, .pure), (10, .pure), (3, .read), (7, .read), (11, .read), (12, .pure), (13, .read), (14, .wild), (15, .pure)] mixed (by kernel_rfl) (fun _ _ _ _ hq => hq) ?_
      refine VD_pure rfl (P_move rfl) rfl rfl rfl ?_
      refine VD_pure rfl (P_nilCheck rfl) rfl rfl rfl ?_
      refine VD_pure rfl (P_fieldAddr0 fo43_4 rfl) rfl rfl rfl ?_
      refine VD_pure rfl (P_move rfl) rfl rfl rfl ?_
      refine VD_pure rfl (P_nilCheck rfl) rfl rfl rfl ?_
      refine VD_pure rfl (P_fieldAddr0 fo43_0 rfl) rfl rfl rfl ?_
      refine VD_pure rfl (P_move rfl) rfl rfl rfl ?_
      refine VD_pure rfl (P_nilCheck rfl) rfl rfl rfl ?_
      refine VD_pure rfl (P_fieldAddr0 fo43_1 rfl) rfl rfl rfl ?_
      refine VD_read rfl (R_load sg41 rfl (mc_blk hc rfl)) rfl rfl rfl ?_
      refine VD_read rfl (R_load sg22 rfl (mc_blk hc rfl)) rfl rfl rfl ?_
      refine VD_read rfl (R_load sg3 rfl (mc_blk hc rfl)) rfl rfl rfl ?_
      refine VD_pure rfl (P_indexAddr1 ez22 rfl rfl hA (by omega) (by omega)) rfl rfl rfl ?_
      refine VD_read rfl (R_load sg5 rfl hcell) rfl rfl rfl ?_
      refine VD_wild rfl rfl (E_callV (by kernel_rfl) rfl rfl ((first_ok _ g x _ _ _ _ _ _ hc)) rfl ?_) rfl
      rintro _ h2 ⟨rfl, hc2, hl2, hn2⟩
      refine VD_pure rfl (P_not rfl) rfl rfl rfl ?_
      refine VD_nil ?_
      refine thenQ_normal ?_
      refine T_false rfl ?_
      refine T_skip ?_
      refine blockQ_normal ?_
      refine thenQ_normal ?_
      refine T_region ?_
      refine V_pure (P_move rfl) rfl rfl rfl ?_
      refine V_pure (P_nilCheck rfl) rfl rfl rfl ?_
      refine V_pure (P_fieldAddr0 fo43_1 rfl) rfl rfl rfl ?_
      refine V_read (R_load sg3 rfl (mc_blk hc2 rfl)) rfl rfl rfl ?_
      refine V_pure (P_add rfl rfl (w64 (by omega) (by omega))) rfl rfl rfl ?_
      refine V_pure (P_nilCheck rfl) rfl rfl rfl ?_
      refine V_pure (P_fieldAddr0 fo43_1 rfl) rfl rfl rfl ?_
      refine V_step (E_store co3 rfl rfl rfl hc2 rfl (fun h3 hb1 hl3 hn1 => ?_)) rfl
      refine V_nil ?_
      have e : R.flatten ++ [] ++ x :: xs = R.flatten ++ [x] ++ xs := by simp
      refine ⟨⟨R, [x], xs, A, c, E, ce⟩, ⟨rfl, trivial⟩, ⟨⟨?_, ?_, ?_⟩, trivial, hsame, (hchg.trans (Chg.store hl2 hS hn2)).trans (Chg.store hl3 hS hn1), ?_, ?_⟩, Nat.lt_succ_self _⟩
      · simp only
        rw [← e, show ((R.flatten ++ [x]).length : Int) = (R.flatten ++ []).length + 1 by simp]
        exact hb1
      · exact e ▸ (ho.stored hl2 hc (by decide)).stored hl3 hc2 (by decide)
      · exact (he.stored hl2 hc (by decide)).stored hl3 hc2 (by decide)
      · simp only; rw [← e]; exact hlen
      · simp only; omega
    | [a], hp =>
      have e1 : ((R.flatten ++ [a]).length : Int) = R.flatten.length + 1 := by simp
      by_cases hok : 0 < lenOf a x ∧ lenOf a x ≤ 4096
      · simp only [feedP, if_pos hok] at hsame
        refine T_seq ?_
        refine T_seq ?_
        refine T_draw [(0, .pure), (1, .pure), (2, .pure), (4, .pure), (5, .pure), (6, .pure), (3, .read), (7, .read), (8, .pure), (9, .pure)] mixed (by kernel_rfl) (fun _ _ _ _ hq => hq) ?_
        refine VD_pure rfl (P_move rfl) rfl rfl rfl ?_
        refine VD_pure rfl (P_nilCheck rfl) rfl rfl rfl ?_
        refine VD_pure rfl (P_fieldAddr0 fo43_1 rfl) rfl rfl rfl ?_
        refine VD_pure rfl (P_move rfl) rfl rfl rfl ?_
        refine VD_pure rfl (P_nilCheck rfl) rfl rfl rfl ?_
        refine VD_pure rfl (P_fieldAddr0 fo43_0 rfl) rfl rfl rfl ?_
        refine VD_read rfl (R_load sg3 rfl (mc_blk hc rfl)) rfl rfl rfl ?_
        refine VD_read rfl (R_load sg22 rfl (mc_blk hc rfl)) rfl rfl rfl ?_
        refine VD_pure rfl (P_len il22 rfl) rfl rfl rfl ?_
        refine VD_pure rfl (dt (P_lss rfl rfl) (by first | assumption | rfl | omega | decide)) rfl rfl rfl ?_
        refine VD_nil ?_
        refine thenQ_normal ?_
        refine T_true rfl ?_
        refine T_skip ?_
        refine thenQ_normal ?_
        refine T_seq ?_
        refine T_block ?_
        refine T_seq ?_
        refine T_draw [(0, .pure), (1, .pure), (2, .pure), (4, .pure), (5, .pure), (6, .pure), (8, .pure), (9, .pure), (10, .pure), (3, .read), (7, .read), (11, .read), (12, .pure), (13, .read), (14, .wild), (15, .pure)] mixed (by kernel_rfl) (fun _ _ _ _ hq => hq) ?_
        refine VD_pure rfl (P_move rfl) rfl rfl rfl ?_
        refine VD_pure rfl (P_nilCheck rfl) rfl rfl rfl ?_
        refine VD_pure rfl (P_fieldAddr0 fo43_4 rfl) rfl rfl rfl ?_
        refine VD_pure rfl (P_move rfl) rfl rfl rfl ?_
        refine VD_pure rfl (P_nilCheck rfl) rfl rfl rfl ?_
        refine VD_pure rfl (P_fieldAddr0 fo43_0 rfl) rfl rfl rfl ?_
        refine VD_pure rfl (P_move rfl) rfl rfl rfl ?_
        refine VD_pure rfl (P_nilCheck rfl) rfl rfl rfl ?_
        refine VD_pure rfl (P_fieldAddr0 fo43_1 rfl) rfl rfl rfl ?_
        refine VD_read rfl (R_load sg41 rfl (mc_blk hc rfl)) rfl rfl rfl ?_
        refine VD_read rfl (R_load sg22 rfl (mc_blk hc rfl)) rfl rfl rfl ?_
        refine VD_read rfl (R_load sg3 rfl (mc_blk hc rfl)) rfl rfl rfl ?_
        refine VD_pure rfl (P_indexAddr1 ez22 rfl rfl hA (by omega) (by omega)) rfl rfl rfl ?_
        refine VD_read rfl (R_load sg5 rfl hcell) rfl rfl rfl ?_
        refine VD_wild rfl rfl (E_callV (by kernel_rfl) rfl rfl ((second_ok _ g x a _ _ _ _ _ hc)) rfl ?_) rfl
        rintro _ h2 ⟨rfl, hc2, hl2, hn2⟩
        have hdt : decide (0 < a.toNat * 256 + x.toNat ∧ a.toNat * 256 + x.toNat ≤ 4096) = true := decide_eq_true hok
        rw [hdt]
        refine VD_pure rfl (P_not rfl) rfl rfl rfl ?_
        refine VD_nil ?_
        refine thenQ_normal ?_
        refine T_false rfl ?_
        refine T_skip ?_
        refine blockQ_normal ?_
        refine thenQ_normal ?_
        refine T_region ?_
        refine V_pure (P_move rfl) rfl rfl rfl ?_
        refine V_pure (P_nilCheck rfl) rfl rfl rfl ?_
        refine V_pure (P_fieldAddr0 fo43_1 rfl) rfl rfl rfl ?_
        refine V_read (R_load sg3 rfl (mc_blk hc2 rfl)) rfl rfl rfl ?_
        refine V_pure (P_add rfl rfl (w64 (by omega) (by omega))) rfl rfl rfl ?_
        refine V_pure (P_nilCheck rfl) rfl rfl rfl ?_
        refine V_pure (P_fieldAddr0 fo43_1 rfl) rfl rfl rfl ?_
        refine V_step (E_store co3 rfl rfl rfl hc2 rfl (fun h3 hb1 hl3 hn1 => ?_)) rfl
        refine V_nil ?_
        have e : R.flatten ++ [a] ++ x :: xs = R.flatten ++ [a, x] ++ xs := by simp
        refine ⟨⟨R, [a, x], xs, A, c, E, ce⟩, ⟨rfl, trivial⟩, ⟨⟨?_, ?_, ?_⟩, ⟨hok.1, hok.2, hok.1⟩, hsame, (hchg.trans (Chg.store hl2 hS hn2)).trans (Chg.store hl3 hS hn1), ?_, ?_⟩, Nat.lt_succ_self _⟩
        · simp only
          rw [← e, show ((R.flatten ++ [a, x]).length : Int) = (R.flatten ++ [a]).length + 1 by simp; omega]
          exact hb1
        · exact e ▸ (ho.stored hl2 hc (by decide)).stored hl3 hc2 (by decide)
        · exact (he.stored hl2 hc (by decide)).stored hl3 hc2 (by decide)
        · simp only; rw [← e]; exact hlen
        · simp only; omega
      · simp only [feedP, if_neg hok] at hsame
        refine T_seq ?_
        refine T_seq ?_
        refine T_draw [(0, .pure), (1, .pure), (2, .pure), (4, .pure), (5, .pure), (6, .pure), (3, .read), (7, .read), (8, .pure), (9, .pure)] mixed (by kernel_rfl) (fun _ _ _ _ hq => hq) ?_
        refine VD_pure rfl (P_move rfl) rfl rfl rfl ?_
        refine VD_pure rfl (P_nilCheck rfl) rfl rfl rfl ?_
        refine VD_pure rfl (P_fieldAddr0 fo43_1 rfl) rfl rfl rfl ?_
        refine VD_pure rfl (P_move rfl) rfl rfl rfl ?_
        refine VD_pure rfl (P_nilCheck rfl) rfl rfl rfl ?_
        refine VD_pure rfl (P_fieldAddr0 fo43_0 rfl) rfl rfl rfl ?_
        refine VD_read rfl (R_load sg3 rfl (mc_blk hc rfl)) rfl rfl rfl ?_
        refine VD_read rfl (R_load sg22 rfl (mc_blk hc rfl)) rfl rfl rfl ?_
        refine VD_pure rfl (P_len il22 rfl) rfl rfl rfl ?_
        refine VD_pure rfl (dt (P_lss rfl rfl) (by first | assumption | rfl | omega | decide)) rfl rfl rfl ?_
        refine VD_nil ?_
        refine thenQ_normal ?_
        refine T_true rfl ?_
        refine T_skip ?_
        refine thenQ_normal ?_
        refine T_seq ?_
        refine T_block ?_
        refine T_seq ?_
        refine T_draw [(0, .pure), (1, .pure), (2, .pure), (4, .pure), (5, .pure), (6, .pure), (8, .pure), (9, .pure), (10, .pure), (3, .read), (7, .read), (11, .read), (12, .pure), (13, .read), (14, .wild), (15, .pure)] mixed (by kernel_rfl) (fun _ _ _ _ hq => hq) ?_
        refine VD_pure rfl (P_move rfl) rfl rfl rfl ?_
        refine VD_pure rfl (P_nilCheck rfl) rfl rfl rfl ?_
        refine VD_pure rfl (P_fieldAddr0 fo43_4 rfl) rfl rfl rfl ?_
        refine VD_pure rfl (P_move rfl) rfl rfl rfl ?_
        refine VD_pure rfl (P_nilCheck rfl) rfl rfl rfl ?_
        refine VD_pure rfl (P_fieldAddr0 fo43_0 rfl) rfl rfl rfl ?_
        refine VD_pure rfl (P_move rfl) rfl rfl rfl ?_
        refine VD_pure rfl (P_nilCheck rfl) rfl rfl rfl ?_
        refine VD_pure rfl (P_fieldAddr0 fo43_1 rfl) rfl rfl rfl ?_
        refine VD_read rfl (R_load sg41 rfl (mc_blk hc rfl)) rfl rfl rfl ?_
        refine VD_read rfl (R_load sg22 rfl (mc_blk hc rfl)) rfl rfl rfl ?_
        refine VD_read rfl (R_load sg3 rfl (mc_blk hc rfl)) rfl rfl rfl ?_
        refine VD_pure rfl (P_indexAddr1 ez22 rfl rfl hA (by omega) (by omega)) rfl rfl rfl ?_
        refine VD_read rfl (R_load sg5 rfl hcell) rfl rfl rfl ?_
        refine VD_wild rfl rfl (E_callV (by kernel_rfl) rfl rfl ((second_ok _ g x a _ _ _ _ _ hc)) rfl ?_) rfl
        rintro _ h2 ⟨rfl, hc2, hl2, hn2⟩
        have hdf : decide (0 < a.toNat * 256 + x.toNat ∧ a.toNat * 256 + x.toNat ≤ 4096) = false := decide_eq_false hok
        rw [hdf]
        have hcap := ho.le
        refine VD_pure rfl (P_not rfl) rfl rfl rfl ?_
        refine VD_nil ?_
        refine thenQ_normal ?_
        refine T_true rfl ?_
        refine T_seq ?_
        refine T_region ?_
        refine V_pure (P_move rfl) rfl rfl rfl ?_
        refine V_pure (P_nilCheck rfl) rfl rfl rfl ?_
        refine V_pure (P_fieldAddr0 fo43_5 rfl) rfl rfl rfl ?_
        refine V_step (E_store co4 rfl rfl rfl hc2 rfl (fun h3 hb1 hl3 hn1 => ?_)) rfl
        refine V_nil ?_
        refine thenQ_normal ?_
        refine T_seq ?_
        refine T_draw [(0, .pure), (1, .pure), (2, .pure), (3, .pure), (5, .pure), (6, .pure), (7, .pure), (4, .read), (8, .read), (9, .pure), (10, .pure), (11, .pure), (12, .pure), (13, .wild)] mixed (by kernel_rfl) (fun _ _ _ _ hq => hq) ?_
        refine VD_pure rfl (P_move rfl) rfl rfl rfl ?_
        refine VD_pure rfl (P_move rfl) rfl rfl rfl ?_
        refine VD_pure rfl (P_nilCheck rfl) rfl rfl rfl ?_
        refine VD_pure rfl (P_fieldAddr0 fo43_0 rfl) rfl rfl rfl ?_
        refine VD_pure rfl (P_move rfl) rfl rfl rfl ?_
        refine VD_pure rfl (P_nilCheck rfl) rfl rfl rfl ?_
        refine VD_pure rfl (P_fieldAddr0 fo43_1 rfl) rfl rfl rfl ?_
        refine VD_read rfl (R_load sg22 rfl (mc_blk hb1 rfl)) rfl rfl rfl ?_
        refine VD_read rfl (R_load sg3 rfl (mc_blk hb1 rfl)) rfl rfl rfl ?_
        refine VD_pure rfl (P_sub rfl rfl (w64 (by omega) (by omega))) rfl rfl rfl ?_
        refine VD_pure rfl ((P_slice_h R.flatten.length ez22 rfl rfl (by omega) (by omega))) rfl rfl rfl ?_
        refine VD_pure rfl (P_nilCheck rfl) rfl rfl rfl ?_
        refine VD_pure rfl (P_fieldAddr0 fo43_0 rfl) rfl rfl rfl ?_
        refine VD_wild rfl rfl (E_store co22 rfl rfl rfl hb1 rfl (fun h4 hb2 hl4 hn3 => ?_)) rfl
        refine VD_nil ?_
        refine thenQ_normal ?_
        refine T_seq ?_
        refine T_region ?_
        refine V_pure (P_assign rfl) rfl rfl rfl ?_
        refine V_nil ?_
        refine thenQ_normal ?_
        refine T_ret ?_
        refine blockQ_ret ?_
        refine thenQ_ret ?_
        refine roundQ_ret ?_
        refine blockQ_ret ?_
        refine thenQ_ret ?_
        refine retQ_ret1 rfl ?_
        subst hsame
        rw [cutA_zero] at hb2
        have ho4 := ((ho.stored hl2 hc (by decide)).stored hl3 hc2 (by decide)).stored hl4 hb1 (by decide)
        have ho5 := ho4.cut (l := 0) (k := R.flatten.length) (mm := c) (by omega) (by omega) (by omega)
        rw [cutA_zero] at ho5
        refine ⟨A, c, E, ce, ((hchg.trans (Chg.store hl2 hS hn2)).trans (Chg.store hl3 hS hn1)).trans (Chg.store hl4 hS hn3), .inl ⟨rfl, rfl, ⟨((a.toNat * 256 + x.toNat : Nat) : Int), stepV 19 g, ?_⟩, ?_, ?_⟩⟩
        · rw [show ((R.flatten.length + 1 : Nat) : Int) = ((R.flatten ++ [a]).length : Nat) by omega]
          exact hb2
        · have e5 : List.take (R.flatten.length * 1) (List.drop (0 * 1) (List.map byteV (R.flatten ++ [a] ++ x :: xs))) = R.flatten.map byteV := by
            simp only [Nat.mul_one, Nat.zero_mul, List.drop_zero, List.append_assoc]
            rw [List.map_append]
            have := List.take_left (l₁ := R.flatten.map byteV) (l₂ := ([a] ++ x :: xs).map byteV)
            rwa [List.length_map] at this
          rw [e5] at ho5
          exact ho5
        · exact ((he.stored hl2 hc (by decide)).stored hl3 hc2 (by decide)).stored hl4 hb1 (by decide)
    | a :: b :: q, hp =>
      obtain ⟨hp1, hp2, hp3⟩ := hp
      by_cases hlast : q.length + 1 = lenOf a b
      · simp only [feedP, if_pos hlast] at hsame
        have hneed : ((needOf (a :: b :: q) : Nat) : Int) = 1 := by simp only [needOf]; omega
        rw [hneed] at hc
        refine T_seq ?_
        refine T_seq ?_
        refine T_draw [(0, .pure), (1, .pure), (2, .pure), (4, .pure), (5, .pure), (6, .pure), (3, .read), (7, .read), (8, .pure), (9, .pure)] mixed (by kernel_rfl) (fun _ _ _ _ hq => hq) ?_
        refine VD_pure rfl (P_move rfl) rfl rfl rfl ?_
        refine VD_pure rfl (P_nilCheck rfl) rfl rfl rfl ?_
        refine VD_pure rfl (P_fieldAddr0 fo43_1 rfl) rfl rfl rfl ?_
        refine VD_pure rfl (P_move rfl) rfl rfl rfl ?_
        refine VD_pure rfl (P_nilCheck rfl) rfl rfl rfl ?_
        refine VD_pure rfl (P_fieldAddr0 fo43_0 rfl) rfl rfl rfl ?_
        refine VD_read rfl (R_load sg3 rfl (mc_blk hc rfl)) rfl rfl rfl ?_
        refine VD_read rfl (R_load sg22 rfl (mc_blk hc rfl)) rfl rfl rfl ?_
        refine VD_pure rfl (P_len il22 rfl) rfl rfl rfl ?_
        refine VD_pure rfl (dt (P_lss rfl rfl) (by first | assumption | rfl | omega | decide)) rfl rfl rfl ?_
        refine VD_nil ?_
        refine thenQ_normal ?_
        refine T_true rfl ?_
        refine T_skip ?_
        refine thenQ_normal ?_
        refine T_seq ?_
        refine T_block ?_
        refine T_seq ?_
        refine T_draw [(0, .pure), (1, .pure), (2, .pure), (4, .pure), (5, .pure), (6, .pure), (8, .pure), (9, .pure), (10, .pure), (3, .read), (7, .read), (11, .read), (12, .pure), (13, .read), (14, .wild), (15, .pure)] mixed (by kernel_rfl) (fun _ _ _ _ hq => hq) ?_
        refine VD_pure rfl (P_move rfl) rfl rfl rfl ?_
        refine VD_pure rfl (P_nilCheck rfl) rfl rfl rfl ?_
        refine VD_pure rfl (P_fieldAddr0 fo43_4 rfl) rfl rfl rfl ?_
        refine VD_pure rfl (P_move rfl) rfl rfl rfl ?_
        refine VD_pure rfl (P_nilCheck rfl) rfl rfl rfl ?_
        refine VD_pure rfl (P_fieldAddr0 fo43_0 rfl) rfl rfl rfl ?_
        refine VD_pure rfl (P_move rfl) rfl rfl rfl ?_
        refine VD_pure rfl (P_nilCheck rfl) rfl rfl rfl ?_
        refine VD_pure rfl (P_fieldAddr0 fo43_1 rfl) rfl rfl rfl ?_
        refine VD_read rfl (R_load sg41 rfl (mc_blk hc rfl)) rfl rfl rfl ?_
        refine VD_read rfl (R_load sg22 rfl (mc_blk hc rfl)) rfl rfl rfl ?_
        refine VD_read rfl (R_load sg3 rfl (mc_blk hc rfl)) rfl rfl rfl ?_
        refine VD_pure rfl (P_indexAddr1 ez22 rfl rfl hA (by omega) (by omega)) rfl rfl rfl ?_
        refine VD_read rfl (R_load sg5 rfl hcell) rfl rfl rfl ?_
        refine VD_wild rfl rfl (E_callV (by kernel_rfl) rfl rfl ((load_last _ g x _ _ _ _ _ _ _ _ (by omega) (by omega) hc he)) rfl ?_) rfl
        rintro _ h2 ⟨rfl, E', ce', hc2, he2, hchg2⟩
        refine VD_pure rfl (P_not rfl) rfl rfl rfl ?_
        refine VD_nil ?_
        refine thenQ_normal ?_
        refine T_false rfl ?_
        refine T_skip ?_
        refine blockQ_normal ?_
        refine thenQ_normal ?_
        refine T_region ?_
        refine V_pure (P_move rfl) rfl rfl rfl ?_
        refine V_pure (P_nilCheck rfl) rfl rfl rfl ?_
        refine V_pure (P_fieldAddr0 fo43_1 rfl) rfl rfl rfl ?_
        refine V_read (R_load sg3 rfl (mc_blk hc2 rfl)) rfl rfl rfl ?_
        refine V_pure (P_add rfl rfl (w64 (by omega) (by omega))) rfl rfl rfl ?_
        refine V_pure (P_nilCheck rfl) rfl rfl rfl ?_
        refine V_pure (P_fieldAddr0 fo43_1 rfl) rfl rfl rfl ?_
        refine V_step (E_store co3 rfl rfl rfl hc2 rfl (fun h3 hb1 hl2 hn1 => ?_)) rfl
        refine V_nil ?_
        have e : R.flatten ++ a :: b :: q ++ x :: xs = (R ++ [a :: b :: q ++ [x]]).flatten ++ [] ++ xs := by simp
        have hoA : Own (mp h2) 5 1 A (R.flatten ++ a :: b :: q ++ x :: xs).length c ((R.flatten ++ a :: b :: q ++ x :: xs).map byteV) := ho.of_eq fun k hk => by
          obtain ⟨cur, hm⟩ := ho.at_ hk
          have h1' : (k == g || inB E k) = false := by
            rw [he.disj ho (by decide) k hk, Bool.or_false, beq_eq_false_iff_ne]
            intro e; rw [e, ho.apart hc (by decide)] at hk; exact Bool.noConfusion hk
          rw [(hchg2.keep k _ hm h1').1, hm]
        have hchg3 : Chg (regS g A E) h1 h2 (regS g A E') := ⟨fun k o h3 h4 => by
          simp only [regS, Bool.or_eq_false_iff] at h4 ⊢
          have := hchg2.keep k o h3 (by rw [h4.1.1, h4.2]; rfl)
          rw [Bool.or_eq_false_iff] at this
          exact ⟨this.1, ⟨h4.1.1, h4.1.2⟩, this.2.2⟩, hchg2.size⟩
        have hS' : regS g A E' g = true := by simp [regS]
        refine ⟨⟨R ++ [a :: b :: q ++ [x]], [], xs, A, c, E', ce'⟩, ⟨rfl, trivial⟩, ⟨⟨?_, ?_, ?_⟩, trivial, hsame, (hchg.trans hchg3).trans (Chg.store hl2 hS' hn1), ?_, ?_⟩, Nat.lt_succ_self _⟩
        · simp only
          rw [← e, List.append_nil, show (R ++ [a :: b :: q ++ [x]]).length = R.length + 1 by simp,
            show (((R ++ [a :: b :: q ++ [x]]).flatten).length : Int) = (R.flatten ++ a :: b :: q).length + 1 by simp; omega]
          exact hb1
        · exact e ▸ hoA.stored hl2 hc2 (by decide)
        · have := he2.stored hl2 hc2 (by decide)
          simp only
          rw [endsFrom_snoc, List.map_append, List.length_append]
          rw [show (0 + R.flatten.length + (a :: b :: q ++ [x]).length) = (R.flatten ++ a :: b :: q).length + 1 by simp; omega]
          exact this
        · simp only; rw [← e]; exact hlen
        · simp only [List.length_append, List.length_singleton]; omega
      · simp only [feedP, if_neg hlast] at hsame
        refine T_seq ?_
        refine T_seq ?_
        refine T_draw [(0, .pure), (1, .pure), (2, .pure), (4, .pure), (5, .pure), (6, .pure), (3, .read), (7, .read), (8, .pure), (9, .pure)] mixed (by kernel_rfl) (fun _ _ _ _ hq => hq) ?_
        refine VD_pure rfl (P_move rfl) rfl rfl rfl ?_
        refine VD_pure rfl (P_nilCheck rfl) rfl rfl rfl ?_
        refine VD_pure rfl (P_fieldAddr0 fo43_1 rfl) rfl rfl rfl ?_
        refine VD_pure rfl (P_move rfl) rfl rfl rfl ?_
        refine VD_pure rfl (P_nilCheck rfl) rfl rfl rfl ?_
        refine VD_pure rfl (P_fieldAddr0 fo43_0 rfl) rfl rfl rfl ?_
        refine VD_read rfl (R_load sg3 rfl (mc_blk hc rfl)) rfl rfl rfl ?_
        refine VD_read rfl (R_load sg22 rfl (mc_blk hc rfl)) rfl rfl rfl ?_
        refine VD_pure rfl (P_len il22 rfl) rfl rfl rfl ?_
        refine VD_pure rfl (dt (P_lss rfl rfl) (by first | assumption | rfl | omega | decide)) rfl rfl rfl ?_
        refine VD_nil ?_
        refine thenQ_normal ?_
        refine T_true rfl ?_
        refine T_skip ?_
        refine thenQ_normal ?_
        refine T_seq ?_
        refine T_block ?_
        refine T_seq ?_
        refine T_draw [(0, .pure), (1, .pure), (2, .pure), (4, .pure), (5, .pure), (6, .pure), (8, .pure), (9, .pure), (10, .pure), (3, .read), (7, .read), (11, .read), (12, .pure), (13, .read), (14, .wild), (15, .pure)] mixed (by kernel_rfl) (fun _ _ _ _ hq => hq) ?_
        refine VD_pure rfl (P_move rfl) rfl rfl rfl ?_
        refine VD_pure rfl (P_nilCheck rfl) rfl rfl rfl ?_
        refine VD_pure rfl (P_fieldAddr0 fo43_4 rfl) rfl rfl rfl ?_
        refine VD_pure rfl (P_move rfl) rfl rfl rfl ?_
        refine VD_pure rfl (P_nilCheck rfl) rfl rfl rfl ?_
        refine VD_pure rfl (P_fieldAddr0 fo43_0 rfl) rfl rfl rfl ?_
        refine VD_pure rfl (P_move rfl) rfl rfl rfl ?_
        refine VD_pure rfl (P_nilCheck rfl) rfl rfl rfl ?_
        refine VD_pure rfl (P_fieldAddr0 fo43_1 rfl) rfl rfl rfl ?_
        refine VD_read rfl (R_load sg41 rfl (mc_blk hc rfl)) rfl rfl rfl ?_
        refine VD_read rfl (R_load sg22 rfl (mc_blk hc rfl)) rfl rfl rfl ?_
        refine VD_read rfl (R_load sg3 rfl (mc_blk hc rfl)) rfl rfl rfl ?_
        refine VD_pure rfl (P_indexAddr1 ez22 rfl rfl hA (by omega) (by omega)) rfl rfl rfl ?_
        refine VD_read rfl (R_load sg5 rfl hcell) rfl rfl rfl ?_
        refine VD_wild rfl rfl (E_callV (by kernel_rfl) rfl rfl ((load_more _ g x _ _ (needOf (a :: b :: q)) _ _ _ (by simp only [needOf]; omega) (by simp only [needOf]; omega) hc)) rfl ?_) rfl
        rintro _ h2 ⟨rfl, hc2, hl2, hn2⟩
        refine VD_pure rfl (P_not rfl) rfl rfl rfl ?_
        refine VD_nil ?_
        refine thenQ_normal ?_
        refine T_false rfl ?_
        refine T_skip ?_
        refine blockQ_normal ?_
        refine thenQ_normal ?_
        refine T_region ?_
        refine V_pure (P_move rfl) rfl rfl rfl ?_
        refine V_pure (P_nilCheck rfl) rfl rfl rfl ?_
        refine V_pure (P_fieldAddr0 fo43_1 rfl) rfl rfl rfl ?_
        refine V_read (R_load sg3 rfl (mc_blk hc2 rfl)) rfl rfl rfl ?_
        refine V_pure (P_add rfl rfl (w64 (by omega) (by omega))) rfl rfl rfl ?_
        refine V_pure (P_nilCheck rfl) rfl rfl rfl ?_
        refine V_pure (P_fieldAddr0 fo43_1 rfl) rfl rfl rfl ?_
        refine V_step (E_store co3 rfl rfl rfl hc2 rfl (fun h3 hb1 hl3 hn1 => ?_)) rfl
        refine V_nil ?_
        have e : R.flatten ++ a :: b :: q ++ x :: xs = R.flatten ++ (a :: b :: q ++ [x]) ++ xs := by simp
        refine ⟨⟨R, a :: b :: q ++ [x], xs, A, c, E, ce⟩, ⟨rfl, trivial⟩, ⟨⟨?_, ?_, ?_⟩, ⟨hp1, hp2, by simp; omega⟩, hsame, (hchg.trans (Chg.store hl2 hS hn2)).trans (Chg.store hl3 hS hn1), ?_, ?_⟩, Nat.lt_succ_self _⟩
        · simp only
          rw [← e, show ((R.flatten ++ (a :: b :: q ++ [x])).length : Int) = (R.flatten ++ a :: b :: q).length + 1 by simp; omega,
            show needOf (a :: b :: q ++ [x]) = needOf (a :: b :: q) - 1 by simp [needOf]; omega]
          exact hb1
        · exact e ▸ (ho.stored hl2 hc (by decide)).stored hl3 hc2 (by decide)
        · exact (he.stored hl2 hc (by decide)).stored hl3 hc2 (by decide)
        · simp only; rw [← e]; exact hlen
        · simp only; omega
end Go.Proofs.Ytodogmfbafmcmaa
