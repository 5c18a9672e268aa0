/- A part of the proof: contracts of functions of the program. No condition. -/
import Derived.Test.YtodogmfbafmcmaaFacts
import Derived.Test.YtodogmfbafmcmaaRows
namespace Go.Proofs.Ytodogmfbafmcmaa
open Go.Eng

/-- a reader's six cells -/
def rdr (b : Value) (at_ : Int) (ends : Value) (need : Int) (step : Value) (br : Bool) : List Value := [b, .int .i64 at_, ends, .int .i64 need, step, .bool br]
def stepV (f b : Nat) : Value := .func (.func f) #[.pointer (some ⟨b, 0, none⟩)] #[]

theorem first_ok (h : Heap) (g : Nat) (x : UInt8) (b : Value) (at_ need : Int) (ends step : Value) (br : Bool) (hg : mp h g = some (.cells (rdr b at_ ends need step br).toArray 43 (0, 0))) :
    C Try.prog 17 [.pointer (some ⟨g, 0, none⟩), byteV x].toArray h fun v h' => v = .bool true ∧ mp h' g = some (.cells (rdr b at_ ends (x.toNat * 256 : Nat) (stepV 18 g) br).toArray 43 (0, 0)) ∧ (∀ k, k ≠ g → mp h' k = mp h k) ∧ h'.size = h.size := by
  have hx := x.toNat_lt
  refine C_of [4] Try.func17 rfl rfl rfl ?_
  unfold byteV
  refine T_seq ?_
  refine T_region ?_
  refine V_pure (P_assign rfl) rfl rfl rfl ?_
  refine V_nil ?_
  refine thenQ_normal ?_
  refine T_seq ?_
  refine T_region ?_
  refine V_pure (P_move rfl) rfl rfl rfl ?_
  refine V_pure (P_move rfl) rfl rfl rfl ?_
  refine V_pure (P_conv_int us5 ik3 rfl (w64 (by omega) (by omega))) rfl rfl rfl ?_
  refine V_pure (P_shl rfl rfl (by decide) (by decide) (w64 (by simp <;> omega) (by simp <;> omega))) rfl rfl rfl ?_
  refine V_pure (P_nilCheck rfl) rfl rfl rfl ?_
  refine V_pure (P_fieldAddr0 fo43_3 rfl) rfl rfl rfl ?_
  refine V_step (E_store co3 rfl rfl rfl hg rfl (fun h1 hb1 hl1 hn1 => ?_)) rfl
  refine V_nil ?_
  refine thenQ_normal ?_
  refine T_seq ?_
  refine T_region ?_
  refine V_pure (P_move rfl) rfl rfl rfl ?_
  refine V_pure (P_move rfl) rfl rfl rfl ?_
  refine V_pure (P_makeFunc rfl rfl) rfl rfl rfl ?_
  refine V_pure (P_nilCheck rfl) rfl rfl rfl ?_
  refine V_pure (P_fieldAddr0 fo43_4 rfl) rfl rfl rfl ?_
  refine V_step (E_store co41 rfl rfl rfl hb1 rfl (fun h2 hb2 hl2 hn2 => ?_)) rfl
  refine V_nil ?_
  refine thenQ_normal ?_
  refine T_seq ?_
  refine T_region ?_
  refine V_pure (P_assign rfl) rfl rfl rfl ?_
  refine V_nil ?_
  refine thenQ_normal ?_
  refine T_ret ?_
  refine retQ_ret1 rfl ?_
  exact ⟨rfl, hb2, fun k hk => (hl2 k hk).trans (hl1 k hk), hn2.trans hn1⟩

theorem ofInt_i64 (a : Nat) (ha : a < 9223372036854775808) : (BitVec.ofInt 64 (a : Int)).toNat = a := by
  rw [BitVec.ofInt_natCast, BitVec.toNat_ofNat]; exact Nat.mod_eq_of_lt (by omega)
theorem i64_or_nat (a b : Nat) (ha : a < 9223372036854775808) (hb : b < 9223372036854775808) : bits .or .i64 (a : Int) (b : Int) = ((a ||| b : Nat) : Int) := by
  have hx : a ||| b < 2 ^ 63 := Nat.or_lt_two_pow (by omega) (by omega)
  show IntKind.i64.wrap ((BitVec.ofInt 64 (a : Int) ||| BitVec.ofInt 64 (b : Int)).toNat : Int) = _
  rw [BitVec.toNat_or, ofInt_i64 a ha, ofInt_i64 b hb, IntKind.wrap_i64]
  omega
theorem or_byte (a b : Nat) (hb : b < 256) : a * 256 ||| b = a * 256 + b := by
  have := Nat.shiftLeft_add_eq_or_of_lt (i := 8) (b := b) (by omega) a
  rw [Nat.shiftLeft_eq] at this
  exact this.symm
theorem bits_or (a b : Nat) (ha : a < 256) (hb : b < 256) : bits .or .i64 ((a * 256 : Nat) : Int) (b : Int) = ((a * 256 + b : Nat) : Int) := by
  rw [i64_or_nat _ _ (by omega) (by omega), or_byte a b hb]

/-- the length's second byte: whether the load may be -/
theorem second_ok (h : Heap) (g : Nat) (x y : UInt8) (b : Value) (at_ : Int) (ends step : Value) (br : Bool) (hg : mp h g = some (.cells (rdr b at_ ends (y.toNat * 256 : Nat) step br).toArray 43 (0, 0))) :
    C Try.prog 18 [.pointer (some ⟨g, 0, none⟩), byteV x].toArray h fun v h' => v = .bool (decide (0 < y.toNat * 256 + x.toNat ∧ y.toNat * 256 + x.toNat ≤ 4096)) ∧
      mp h' g = some (.cells (rdr b at_ ends (y.toNat * 256 + x.toNat : Nat) (stepV 19 g) br).toArray 43 (0, 0)) ∧ (∀ k, k ≠ g → mp h' k = mp h k) ∧ h'.size = h.size := by
  have hx := x.toNat_lt
  have hy := y.toNat_lt
  have hor := bits_or y.toNat x.toNat hy hx
  refine C_of [4] Try.func18 rfl rfl rfl ?_
  unfold byteV
  refine T_seq ?_
  refine T_region ?_
  refine V_pure (P_assign rfl) rfl rfl rfl ?_
  refine V_nil ?_
  refine thenQ_normal ?_
  refine T_seq ?_
  refine T_region ?_
  refine V_pure (P_move rfl) rfl rfl rfl ?_
  refine V_pure (P_nilCheck rfl) rfl rfl rfl ?_
  refine V_pure (P_fieldAddr0 fo43_3 rfl) rfl rfl rfl ?_
  refine V_read (R_load sg3 rfl (mc_blk hg rfl)) rfl rfl rfl ?_
  refine V_pure (P_move rfl) rfl rfl rfl ?_
  refine V_pure (P_conv_int us5 ik3 rfl (w64 (by omega) (by omega))) rfl rfl rfl ?_
  refine V_pure (P_or rfl rfl (by with_reducible assumption)) rfl rfl rfl ?_
  refine V_pure (P_nilCheck rfl) rfl rfl rfl ?_
  refine V_pure (P_fieldAddr0 fo43_3 rfl) rfl rfl rfl ?_
  refine V_step (E_store co3 rfl rfl rfl hg rfl (fun h1 hb1 hl1 hn1 => ?_)) rfl
  refine V_nil ?_
  refine thenQ_normal ?_
  refine T_seq ?_
  refine T_region ?_
  refine V_pure (P_move rfl) rfl rfl rfl ?_
  refine V_pure (P_move rfl) rfl rfl rfl ?_
  refine V_pure (P_makeFunc rfl rfl) rfl rfl rfl ?_
  refine V_pure (P_nilCheck rfl) rfl rfl rfl ?_
  refine V_pure (P_fieldAddr0 fo43_4 rfl) rfl rfl rfl ?_
  refine V_step (E_store co41 rfl rfl rfl hb1 rfl (fun h2 hb2 hl2 hn2 => ?_)) rfl
  refine V_nil ?_
  refine thenQ_normal ?_
  refine T_seq ?_
  refine T_region ?_
  refine V_pure (P_move rfl) rfl rfl rfl ?_
  refine V_pure (P_nilCheck rfl) rfl rfl rfl ?_
  refine V_pure (P_fieldAddr0 fo43_3 rfl) rfl rfl rfl ?_
  refine V_read (R_load sg3 rfl (mc_blk hb2 rfl)) rfl rfl rfl ?_
  refine V_if (P_gtr rfl rfl) rfl rfl rfl (fun hc1 => ?_) (fun hc1 => ?_)
  refine V_pure (P_move rfl) rfl rfl rfl ?_
  refine V_pure (P_move rfl) rfl rfl rfl ?_
  refine V_pure (P_nilCheck rfl) rfl rfl rfl ?_
  refine V_pure (P_fieldAddr0 fo43_3 rfl) rfl rfl rfl ?_
  refine V_read (R_load sg3 rfl (mc_blk hb2 rfl)) rfl rfl rfl ?_
  refine V_if (P_leq rfl rfl) rfl rfl rfl (fun hc2 => ?_) (fun hc2 => ?_)
  refine V_pure (P_pick_t rfl rfl) rfl rfl rfl ?_
  refine V_pure (P_assign rfl) rfl rfl rfl ?_
  refine V_nil ?_
  refine thenQ_normal ?_
  refine T_ret ?_
  refine retQ_ret1 rfl ?_
  · exact ⟨by rw [decide_eq_true]; omega, hb2, fun k hk => (hl2 k hk).trans (hl1 k hk), hn2.trans hn1⟩
  refine V_pure (P_pick_t rfl rfl) rfl rfl rfl ?_
  refine V_pure (P_assign rfl) rfl rfl rfl ?_
  refine V_nil ?_
  refine thenQ_normal ?_
  refine T_ret ?_
  refine retQ_ret1 rfl ?_
  · exact ⟨by rw [decide_eq_false]; omega, hb2, fun k hk => (hl2 k hk).trans (hl1 k hk), hn2.trans hn1⟩
  refine V_pure (P_move rfl) rfl rfl rfl ?_
  refine V_skip rfl rfl rfl ?_
  refine V_skip rfl rfl rfl ?_
  refine V_skip rfl rfl rfl ?_
  refine V_skip rfl rfl rfl ?_
  refine V_skip rfl rfl rfl ?_
  refine V_pure (P_pick_f rfl rfl) rfl rfl rfl ?_
  refine V_pure (P_assign rfl) rfl rfl rfl ?_
  refine V_nil ?_
  refine thenQ_normal ?_
  refine T_ret ?_
  refine retQ_ret1 rfl ?_
  · exact ⟨by rw [decide_eq_false]; omega, hb2, fun k hk => (hl2 k hk).trans (hl1 k hk), hn2.trans hn1⟩

/-- a load's byte that is not its last -/
theorem load_more (h : Heap) (g : Nat) (x : UInt8) (b : Value) (at_ : Int) (need : Nat) (ends step : Value) (br : Bool) (hn : 1 < need) (hn2 : need < 10000) (hg : mp h g = some (.cells (rdr b at_ ends need step br).toArray 43 (0, 0))) :
    C Try.prog 19 [.pointer (some ⟨g, 0, none⟩), byteV x].toArray h fun v h' => v = .bool true ∧
      mp h' g = some (.cells (rdr b at_ ends (need - 1 : Nat) step br).toArray 43 (0, 0)) ∧ (∀ k, k ≠ g → mp h' k = mp h k) ∧ h'.size = h.size := by
  refine C_of [4] Try.func19 rfl rfl rfl ?_
  unfold byteV
  refine T_seq ?_
  refine T_region ?_
  refine V_pure (P_assign rfl) rfl rfl rfl ?_
  refine V_nil ?_
  refine thenQ_normal ?_
  refine T_seq ?_
  refine T_seq ?_
  refine T_region ?_
  refine V_pure (P_move rfl) rfl rfl rfl ?_
  refine V_pure (P_nilCheck rfl) rfl rfl rfl ?_
  refine V_pure (P_fieldAddr0 fo43_3 rfl) rfl rfl rfl ?_
  refine V_read (R_load sg3 rfl (mc_blk hg rfl)) rfl rfl rfl ?_
  refine V_pure (P_sub rfl rfl (w64 (by omega) (by omega))) rfl rfl rfl ?_
  refine V_pure (P_nilCheck rfl) rfl rfl rfl ?_
  refine V_pure (P_fieldAddr0 fo43_3 rfl) rfl rfl rfl ?_
  refine V_step (E_store co3 rfl rfl rfl hg rfl (fun h1 hb1 hl1 hn1 => ?_)) rfl
  refine V_nil ?_
  refine thenQ_normal ?_
  refine T_seq ?_
  refine T_region ?_
  refine V_pure (P_move rfl) rfl rfl rfl ?_
  refine V_pure (P_nilCheck rfl) rfl rfl rfl ?_
  refine V_pure (P_fieldAddr0 fo43_3 rfl) rfl rfl rfl ?_
  refine V_read (R_load sg3 rfl (mc_blk hb1 rfl)) rfl rfl rfl ?_
  refine V_pure (df (P_eql rfl rfl) (by first | assumption | omega | decide | exact fun hx => hx (by assumption))) rfl rfl rfl ?_
  refine V_nil ?_
  refine thenQ_normal ?_
  refine T_false rfl ?_
  refine T_skip ?_
  refine thenQ_normal ?_
  refine T_seq ?_
  refine T_region ?_
  refine V_pure (P_assign rfl) rfl rfl rfl ?_
  refine V_nil ?_
  refine thenQ_normal ?_
  refine T_ret ?_
  refine retQ_ret1 rfl ?_
  exact ⟨rfl, by rw [show ((need - 1 : Nat) : Int) = (need : Int) - 1 by omega]; exact hb1, hl1, hn1⟩

/-- its last one -/
theorem load_last (h : Heap) (g : Nat) (x : UInt8) (b : Value) (at_ : Nat) (E : Option Addr) (ne ce : Nat) (es : List Value) (step : Value) (br : Bool) (hat : at_ < 1000000) (hne : ne < 1000000)
    (hg : mp h g = some (.cells (rdr b at_ (.slice E ne ce) 1 step br).toArray 43 (0, 0))) (hE : Own (mp h) 3 1 E ne ce es) :
    C Try.prog 19 [.pointer (some ⟨g, 0, none⟩), byteV x].toArray h fun v h' => v = .bool true ∧ ∃ E' ce',
      mp h' g = some (.cells (rdr b at_ (.slice E' (ne + 1) ce') 0 (stepV 17 g) br).toArray 43 (0, 0)) ∧ Own (mp h') 3 1 E' (ne + 1) ce' (es ++ [.int .i64 (at_ + 1 : Nat)]) ∧
      Chg (fun k => k == g || inB E k) h h' (fun k => k == g || inB E' k) := by
  refine C_of [4] Try.func19 rfl rfl rfl ?_
  unfold byteV
  refine T_seq ?_
  refine T_region ?_
  refine V_pure (P_assign rfl) rfl rfl rfl ?_
  refine V_nil ?_
  refine thenQ_normal ?_
  refine T_seq ?_
  refine T_seq ?_
  refine T_region ?_
  refine V_pure (P_move rfl) rfl rfl rfl ?_
  refine V_pure (P_nilCheck rfl) rfl rfl rfl ?_
  refine V_pure (P_fieldAddr0 fo43_3 rfl) rfl rfl rfl ?_
  refine V_read (R_load sg3 rfl (mc_blk hg rfl)) rfl rfl rfl ?_
  refine V_pure (P_sub rfl rfl (w64 (by omega) (by omega))) rfl rfl rfl ?_
  refine V_pure (P_nilCheck rfl) rfl rfl rfl ?_
  refine V_pure (P_fieldAddr0 fo43_3 rfl) rfl rfl rfl ?_
  refine V_step (E_store co3 rfl rfl rfl hg rfl (fun h1 hb1 hl1 hn1 => ?_)) rfl
  refine V_nil ?_
  refine thenQ_normal ?_
  refine T_seq ?_
  refine T_region ?_
  refine V_pure (P_move rfl) rfl rfl rfl ?_
  refine V_pure (P_nilCheck rfl) rfl rfl rfl ?_
  refine V_pure (P_fieldAddr0 fo43_3 rfl) rfl rfl rfl ?_
  refine V_read (R_load sg3 rfl (mc_blk hb1 rfl)) rfl rfl rfl ?_
  refine V_pure (dt (P_eql rfl rfl) (by first | assumption | rfl | omega | decide)) rfl rfl rfl ?_
  refine V_nil ?_
  refine thenQ_normal ?_
  refine T_true rfl ?_
  refine T_seq ?_
  refine T_draw [(0, .pure), (1, .pure), (2, .pure), (3, .pure), (5, .pure), (6, .pure), (7, .pure), (4, .read), (8, .read), (9, .pure), (10, .kept), (11, .wild), (12, .pure), (13, .pure), (14, .wild)] mixed (by kernel_rfl) (fun _ _ _ _ hq => hq) ?_
  refine VD_pure rfl (P_move rfl) rfl rfl rfl ?_
  refine VD_pure rfl (P_move rfl) rfl rfl rfl ?_
  refine VD_pure rfl (P_nilCheck rfl) rfl rfl rfl ?_
  refine VD_pure rfl (P_fieldAddr0 fo43_2 rfl) rfl rfl rfl ?_
  refine VD_pure rfl (P_move rfl) rfl rfl rfl ?_
  refine VD_pure rfl (P_nilCheck rfl) rfl rfl rfl ?_
  refine VD_pure rfl (P_fieldAddr0 fo43_1 rfl) rfl rfl rfl ?_
  refine VD_read rfl (R_load sg38 rfl (mc_blk hb1 rfl)) rfl rfl rfl ?_
  refine VD_read rfl (R_load sg3 rfl (mc_blk hb1 rfl)) rfl rfl rfl ?_
  refine VD_pure rfl (P_add rfl rfl (w64 (by omega) (by omega))) rfl rfl rfl ?_
  refine VD_kept rfl (E_buildSlice sl38 rfl rfl rfl rfl (fun b1 h2 hn2 hb2 hl2 => ⟨hl2, ?_⟩)) rfl
  replace hb1 := hl2 _ _ hb1
  have hE1 : Own (mp h1) 3 1 E ne ce es := hE.of_eq fun k hk => hl1 k (by intro e; rw [e, hE.apart hg (by decide)] at hk; exact Bool.noConfusion hk)
  have hE2 := hE1.mono hl2
  refine VD_wild rfl rfl ((E_append (news := [.int .i64 ((at_ : Int) + 1)]) sl38 rfl rfl rfl rfl hE2 (Rd.blk hb2) rfl (by simp [oneV]) (by simp only [maxLen]; omega) (by omega) rfl ?_)) rfl
  rintro E' ce' h3 ho3 hg3
  have hgE := hE2.apart hb1 (by decide)
  have hg3' : mp h3 g = _ := (hg3.other g (mp_some hb1) (by intro e; simp [inB, ← e] at hgE)).trans hb1
  have hgE' := ho3.apart hg3' (by decide)
  have hne : ∀ k, inB E' k = true → k ≠ g := by intro k hk e; rw [e, hgE'] at hk; exact Bool.noConfusion hk
  have c1 : Chg (fun k => k == g || inB E k) h h3 (fun k => k == g || inB E' k) :=
    (Chg.store hl1 (by simp) hn1).trans ((Chg.le hl2).trans (Chg.grew hg3 (fun k hk => by simp only [Bool.or_eq_true]; exact .inr hk) (fun k hk => by simp only [Bool.or_eq_true] at hk ⊢; exact hk.imp .inl id)))
  refine VD_pure rfl (P_nilCheck rfl) rfl rfl rfl ?_
  refine VD_pure rfl (P_fieldAddr0 fo43_2 rfl) rfl rfl rfl ?_
  refine VD_wild rfl rfl (E_store co38 rfl rfl rfl hg3' rfl (fun h4 hb3 hl3 hn3 => ?_)) rfl
  refine VD_nil ?_
  refine thenQ_normal ?_
  refine T_region ?_
  refine V_pure (P_move rfl) rfl rfl rfl ?_
  refine V_pure (P_move rfl) rfl rfl rfl ?_
  refine V_pure (P_makeFunc rfl rfl) rfl rfl rfl ?_
  refine V_pure (P_nilCheck rfl) rfl rfl rfl ?_
  refine V_pure (P_fieldAddr0 fo43_4 rfl) rfl rfl rfl ?_
  refine V_step (E_store co41 rfl rfl rfl hb3 rfl (fun h5 hb4 hl4 hn4 => ?_)) rfl
  refine V_nil ?_
  refine thenQ_normal ?_
  refine T_seq ?_
  refine T_region ?_
  refine V_pure (P_assign rfl) rfl rfl rfl ?_
  refine V_nil ?_
  refine thenQ_normal ?_
  refine T_ret ?_
  refine retQ_ret1 rfl ?_
  exact ⟨rfl, E', ce', hb4, ho3.of_eq fun k hk => (hl4 k (hne k hk)).trans (hl3 k (hne k hk)), c1.trans ((Chg.store hl3 (by simp) hn3).trans (Chg.store hl4 (by simp) hn4))⟩

theorem New_ok (h : Heap) : C Try.prog 16 [].toArray h fun v h' => ∃ g, v = .pointer (some ⟨g, 0, none⟩) ∧ mp h g = none ∧
    mp h' g = some (.cells (rdr (.slice none 0 0) 0 (.slice none 0 0) 0 (stepV 17 g) false).toArray 43 (0, 0)) ∧ Le (mp h) (mp h') := by
  refine C_of [0] Try.func16 rfl rfl rfl ?_
  refine T_seq ?_
  refine T_region ?_
  refine V_pure (P_assign rfl) rfl rfl rfl ?_
  refine V_nil ?_
  refine thenQ_normal ?_
  refine T_seq ?_
  refine T_region ?_
  refine V_pure (P_build zl43 pl43 rfl rfl) rfl rfl rfl ?_
  refine V_step (E_box rfl rfl (fun b1 h1 hn1 hb1 hl1 => ?_)) rfl
  refine V_pure (P_assign rfl) rfl rfl rfl ?_
  refine V_nil ?_
  refine thenQ_normal ?_
  refine T_seq ?_
  refine T_region ?_
  refine V_pure (P_move rfl) rfl rfl rfl ?_
  refine V_pure (P_move rfl) rfl rfl rfl ?_
  refine V_pure (P_makeFunc rfl rfl) rfl rfl rfl ?_
  refine V_pure (P_nilCheck rfl) rfl rfl rfl ?_
  refine V_pure (P_fieldAddr0 fo43_4 rfl) rfl rfl rfl ?_
  refine V_step (E_store co41 rfl rfl rfl hb1 rfl (fun h2 hb2 hl2 hn2 => ?_)) rfl
  refine V_nil ?_
  refine thenQ_normal ?_
  refine T_seq ?_
  refine T_region ?_
  refine V_pure (P_move rfl) rfl rfl rfl ?_
  refine V_pure (P_assign rfl) rfl rfl rfl ?_
  refine V_nil ?_
  refine thenQ_normal ?_
  refine T_ret ?_
  refine retQ_ret1 rfl ?_
  refine ⟨b1, rfl, hn1, hb2, fun k o hk => ?_⟩
  rw [hl2 k (ne_of hk hn1)]
  exact hl1 k o hk
end Go.Proofs.Ytodogmfbafmcmaa
