/- A part of the proof: contracts of functions of the program. No condition. -/
import Derived.Test.YtigmehimficmlaaLaD
namespace Go.Proofs.Ytigmehimficmlaa
open Go.Eng La

def closV (b1 b2 : Nat) : Value := .func (.func 34) [].toArray [ptr b1, ptr b2].toArray
theorem index_ok {m : Mp} {A : Option Addr} {c : Nat} {vs : List Value} {l : List EffT} (hm : l.length ≤ maxLen) (hr : Rd m A vs) (hv : vs.length = l.length * 14) (hk : ∀ (i : Nat) (hi : i < l.length), EffR m ((vs.drop (i * 14)).take 14) l[i])
    (hs : ∀ (i : Nat) (hi : i < l.length), AllKids m ((vs.drop (i * 14)).take 14) l[i]) (u : Int) (h : Heap) (b1 b2 : Nat) (hle : Le m (mp h)) (hb1 : mp h b1 = some (.cells [lab u].toArray 65 (0, 0))) (hb2 : mp h b2 = some (.cells (asksL u).toArray 69 (0, 0))) :
    C Try.prog 35 [.slice A l.length c, closV b1 b2].toArray h fun v h' => ∃ z : Int, v = .int .i64 z ∧ (0 ≤ z ↔ rightS u l = false) ∧ Le (mp h) (mp h') := by
  simp only [maxLen] at hm
  refine C_of [4] Try.func35 rfl rfl rfl ?_
  refine T_seq ?_
  refine T_region ?_
  refine V_pure (P_assign rfl) rfl rfl rfl ?_
  refine V_nil ?_
  refine thenQ_normal ?_
  refine T_seq ?_
  refine T_seq ?_
  refine T_region ?_
  refine V_pure (P_move rfl) rfl rfl rfl ?_
  refine V_pure (P_len il31 rfl) rfl rfl rfl ?_
  refine V_pure (P_move rfl) rfl rfl rfl ?_
  refine V_nil ?_
  refine thenQ_normal ?_
  refine T_block ?_
  refine T_loop (fun i : Nat => [(0, .slice A l.length c), (1, closV b1 b2), (7, .int .i64 l.length), (8, .int .i64 i)]) (fun i h' => i ≤ l.length ∧ rightS u (l.take i) = true ∧ Le (mp h) (mp h')) (fun i => l.length - i) 0 ⟨rfl, rfl, rfl, rfl, trivial⟩ ⟨Nat.zero_le _, by simp [rightS], Le.refl _⟩ ?_
  rintro i h2 ⟨hi, hright, hle2⟩
  by_cases hlt : i < l.length
  · have he := hk i hlt
    have hcl := fun h3 (hl3 : Le (mp h) (mp h3)) => clos_ok he (hs i hlt) u h3 b1 b2 (hle.trans hl3) (hl3 _ _ hb1) (hl3 _ _ hb2)
    have hA : A.isSome = true := hr.isSome (by omega)
    have hat := (hr.elem (i * 14) 14).mono (hle.trans hle2)
    obtain ⟨op, who, nop, nn, nwho, nA, nlen, nc, name, cop, cwho, cname, cA, cla, cca, cB, clb, ccb, A1, la, ca, B1, lb, cb, hc⟩ := he.form
    rw [hc] at hat hcl
    have hsu := rightS_succ (u := u) hlt
    rw [hright, Bool.true_and] at hsu
    clear he hc hk hs hb1 hb2
    refine T_seq ?_
    refine T_region ?_
    refine V_pure (dt (P_lss rfl rfl) (by first | assumption | rfl | omega | decide)) rfl rfl rfl ?_
    refine V_nil ?_
    refine thenQ_normal ?_
    refine T_seq ?_
    refine T_true rfl ?_
    refine T_skip ?_
    refine thenQ_normal ?_
    refine T_seq ?_
    refine T_block ?_
    refine T_seq ?_
    refine T_region ?_
    refine V_pure (P_move rfl) rfl rfl rfl ?_
    refine V_pure (P_assign rfl) rfl rfl rfl ?_
    refine V_nil ?_
    refine thenQ_normal ?_
    refine T_seq ?_
    refine T_region ?_
    refine V_pure (P_move rfl) rfl rfl rfl ?_
    refine V_pure (P_move rfl) rfl rfl rfl ?_
    refine V_pure (P_move rfl) rfl rfl rfl ?_
    refine V_pure (P_indexAddr ez31 rfl rfl hA (by omega) (by omega)) rfl rfl rfl ?_
    refine V_read (R_loadAt ag33 rfl rfl hat) rfl rfl rfl ?_
    refine V_step (E_callV (by kernel_rfl) rfl rfl ((hcl h2 hle2)) rfl ?_) rfl
    rintro _ h4 ⟨rfl, hl4⟩
    cases hre : rightE u l[i] with
    | true =>
      rw [hre] at hsu
      refine V_nil ?_
      refine thenQ_normal ?_
      refine T_false rfl ?_
      refine T_skip ?_
      refine blockQ_normal ?_
      refine thenQ_normal ?_
      refine T_region ?_
      refine V_pure (P_add rfl rfl (w64 (by omega) (by omega))) rfl rfl rfl ?_
      refine V_pure (P_move rfl) rfl rfl rfl ?_
      refine V_nil ?_
      exact ⟨i + 1, ⟨rfl, rfl, rfl, rfl, trivial⟩, ⟨by omega, hsu, hle2.trans hl4⟩, by show l.length - (i + 1) < l.length - i; omega⟩
    | false =>
      rw [hre] at hsu
      refine V_nil ?_
      refine thenQ_normal ?_
      refine T_true rfl ?_
      refine T_seq ?_
      refine T_region ?_
      refine V_pure (P_move rfl) rfl rfl rfl ?_
      refine V_pure (P_assign rfl) rfl rfl rfl ?_
      refine V_nil ?_
      refine thenQ_normal ?_
      refine T_ret ?_
      refine blockQ_ret ?_
      refine thenQ_ret ?_
      refine roundQ_ret ?_
      refine blockQ_ret ?_
      refine thenQ_ret ?_
      refine retQ_ret1 rfl ?_
      refine ⟨i, rfl, ⟨fun _ => ?_, fun _ => by omega⟩, hle2.trans hl4⟩
      rw [← List.take_append_drop (i + 1) l, rightS_append, hsu]
      rfl
  · refine T_seq ?_
    refine T_region ?_
    refine V_pure (df (P_lss rfl rfl) (by first | assumption | omega | decide | exact fun hx => hx (by assumption))) rfl rfl rfl ?_
    refine V_nil ?_
    refine thenQ_normal ?_
    refine T_seq ?_
    refine T_false rfl ?_
    refine T_exit ?_
    refine thenQ_exit ?_
    refine roundQ_exit ?_
    refine blockQ_here ?_
    refine thenQ_normal ?_
    refine T_seq ?_
    refine T_region ?_
    refine V_pure (P_assign rfl) rfl rfl rfl ?_
    refine V_nil ?_
    refine thenQ_normal ?_
    refine T_ret ?_
    refine retQ_ret1 rfl ?_
    rw [List.take_of_length_le (by omega)] at hright
    exact ⟨-1, rfl, ⟨fun h => by omega, fun h => by rw [hright] at h; cases h⟩, hle2⟩
theorem contains_ok {m : Mp} {A : Option Addr} {c : Nat} {vs : List Value} {l : List EffT} (hm : l.length ≤ maxLen) (hr : Rd m A vs) (hv : vs.length = l.length * 14) (hk : ∀ (i : Nat) (hi : i < l.length), EffR m ((vs.drop (i * 14)).take 14) l[i])
    (hs : ∀ (i : Nat) (hi : i < l.length), AllKids m ((vs.drop (i * 14)).take 14) l[i]) (u : Int) (h : Heap) (b1 b2 : Nat) (hle : Le m (mp h)) (hb1 : mp h b1 = some (.cells [lab u].toArray 65 (0, 0))) (hb2 : mp h b2 = some (.cells (asksL u).toArray 69 (0, 0))) :
    C Try.prog 33 [.slice A l.length c, closV b1 b2].toArray h fun v h' => v = .bool (!rightS u l) ∧ Le (mp h) (mp h') := by
  have hc := index_ok (c := c) hm hr hv hk hs u h b1 b2 hle hb1 hb2
  refine C_of [4] Try.func33 rfl rfl rfl ?_
  refine T_seq ?_
  refine T_region ?_
  refine V_pure (P_assign rfl) rfl rfl rfl ?_
  refine V_nil ?_
  refine thenQ_normal ?_
  refine T_seq ?_
  refine T_region ?_
  refine V_pure (P_move rfl) rfl rfl rfl ?_
  refine V_pure (P_move rfl) rfl rfl rfl ?_
  refine V_step (E_call cl35 rfl (hc) rfl ?_) rfl
  rintro _ h2 ⟨z, rfl, hz, hl2⟩
  have hd : decide (0 ≤ z) = !rightS u l := by
    cases hr : rightS u l with
    | true => rw [hr] at hz; simp at hz ⊢; omega
    | false => rw [hr] at hz; simp at hz ⊢; exact hz
  refine V_pure ((pv (P_geq rfl rfl) hd)) rfl rfl rfl ?_
  refine V_pure (P_assign rfl) rfl rfl rfl ?_
  refine V_nil ?_
  refine thenQ_normal ?_
  refine T_ret ?_
  refine retQ_ret1 rfl ?_
  exact ⟨rfl, hl2⟩
theorem all_step {m : Mp} {A : Option Addr} {c : Nat} {vs : List Value} {l : List EffT} (hm : l.length ≤ maxLen) (hr : Rd m A vs) (hv : vs.length = l.length * 14) (hk : ∀ (i : Nat) (hi : i < l.length), EffR m ((vs.drop (i * 14)).take 14) l[i])
    (hs : ∀ (i : Nat) (hi : i < l.length), AllKids m ((vs.drop (i * 14)).take 14) l[i]) : AllOK m (.slice A l.length c) l := by
  intro u h hle
  refine C_of [4] Try.func26 rfl rfl rfl ?_
  unfold chk
  have kle := Kept.mk hle
  clear hle
  refine T_seq ?_
  refine T_region ?_
  refine V_step (E_box rfl rfl (fun b1 h1 hn1 hb1 hl1 => ?_)) rfl
  refine V_pure (P_assign rfl) rfl rfl rfl ?_
  refine V_nil ?_
  refine thenQ_normal ?_
  refine T_seq ?_
  refine T_region ?_
  refine V_read (R_loadAt ag65 rfl rfl (At.blk hb1)) rfl rfl rfl ?_
  refine V_pure (P_makeFunc rfl rfl) rfl rfl rfl ?_
  refine V_read (R_loadAt ag65 rfl rfl (At.blk hb1)) rfl rfl rfl ?_
  refine V_pure (P_makeFunc rfl rfl) rfl rfl rfl ?_
  refine V_read (R_loadAt ag65 rfl rfl (At.blk hb1)) rfl rfl rfl ?_
  refine V_pure (P_makeFunc rfl rfl) rfl rfl rfl ?_
  refine V_read (R_loadAt ag65 rfl rfl (At.blk hb1)) rfl rfl rfl ?_
  refine V_pure (P_makeFunc rfl rfl) rfl rfl rfl ?_
  refine V_read (R_loadAt ag65 rfl rfl (At.blk hb1)) rfl rfl rfl ?_
  refine V_pure (P_makeFunc rfl rfl) rfl rfl rfl ?_
  refine V_read (R_loadAt ag65 rfl rfl (At.blk hb1)) rfl rfl rfl ?_
  refine V_pure (P_makeFunc rfl rfl) rfl rfl rfl ?_
  refine V_read (R_loadAt ag65 rfl rfl (At.blk hb1)) rfl rfl rfl ?_
  refine V_pure (P_makeFunc rfl rfl) rfl rfl rfl ?_
  refine V_read (R_loadAt ag65 rfl rfl (At.blk hb1)) rfl rfl rfl ?_
  refine V_pure (P_makeFunc rfl rfl) rfl rfl rfl ?_
  refine V_read (R_loadAt ag65 rfl rfl (At.blk hb1)) rfl rfl rfl ?_
  refine V_pure (P_makeFunc rfl rfl) rfl rfl rfl ?_
  refine V_pure (P_buildArr ar69 zl69 rfl rfl) rfl rfl rfl ?_
  have kl1 := Kept.mk hl1
  have kb1 := Kept.mk hb1
  clear hl1 hb1 hn1
  refine V_step (E_alloc zl69 rfl (fun b2 h2 hn1 hb1 hl1 => ?_)) rfl
  refine V_step (E_storeAgg ag69 rfl rfl rfl hb1 rfl rfl (fun h3 hb2 hl2 hn2 => ?_)) rfl
  refine V_nil ?_
  refine thenQ_normal ?_
  refine T_seq ?_
  refine T_region ?_
  refine V_pure (P_move rfl) rfl rfl rfl ?_
  refine V_pure (P_makeFunc rfl rfl) rfl rfl rfl ?_
  have hl13 := hl1.stored hn1 hl2
  have hl03 := kl1.out.trans hl13
  refine V_step (E_call cl33 rfl ((contains_ok (c := c) hm hr hv hk hs u _ b1 b2 (kle.out.trans hl03) (hl13 _ _ kb1.out) hb2)) rfl ?_) rfl
  rintro _ h4 ⟨rfl, hl4⟩
  refine V_pure (P_not rfl) rfl rfl rfl ?_
  refine V_pure (P_assign rfl) rfl rfl rfl ?_
  refine V_nil ?_
  refine thenQ_normal ?_
  refine T_ret ?_
  refine retQ_ret1 rfl ?_
  exact ⟨by simp, hl03.trans hl4⟩
theorem eff_all {m : Mp} {cs : List Value} {x : EffT} (hx : EffR m cs x) : AllKids m cs x := by
  induction hx with
  | @mk op who n name cond thn els ns cs A B la ca lb cb vs us ho hw hn hnm hc hla hma hra hva hka hlb hmb hrb hvb hkb ih1 ih2 =>
    obtain ⟨_, _, _, _, _, _, rfl⟩ := hn.form
    obtain ⟨_, _, _, _, _, _, _, _, _, rfl⟩ := hc.form
    subst hla hlb
    have hA := all_step (c := ca) hma hra hva hka ih1
    have hB := all_step (c := cb) hmb hrb hvb hkb ih2
    refine ⟨fun u hu => ?_, fun u hu => ?_⟩
    · simp at hu
      subst hu
      exact hA
    · simp at hu
      subst hu
      exact hB
theorem all_ok {m : Mp} {A : Option Addr} {len c : Nat} {l : List EffT} (h : EffsR m A len l) : AllOK m (.slice A len c) l := by
  obtain ⟨rfl, hm, vs, hr, hv, hk⟩ := h
  exact all_step hm hr hv hk fun i hi => eff_all (hk i hi)
theorem Effects_ok {m : Mp} {A : Option Addr} {len c : Nat} {l : List EffT} (hl : EffsR m A len l) (u : Int) (h : Heap) (hle : Le m (mp h)) : C Try.prog 18 [lab u, .slice A len c].toArray h fun v h' => v = .bool (rightS u l) ∧ Le (mp h) (mp h') := by
  have ha := all_ok (c := c) hl u h hle
  refine C_of [4] Try.func18 rfl rfl rfl ?_
  refine T_seq ?_
  refine T_region ?_
  refine V_pure (P_assign rfl) rfl rfl rfl ?_
  refine V_nil ?_
  refine thenQ_normal ?_
  refine T_seq ?_
  refine T_region ?_
  refine V_pure (P_move rfl) rfl rfl rfl ?_
  refine V_pure (P_build zl65 pl65 rfl rfl) rfl rfl rfl ?_
  refine V_pure (P_move rfl) rfl rfl rfl ?_
  refine V_step (E_call cl26 rfl (ha) rfl ?_) rfl
  rintro _ h2 ⟨rfl, hl2⟩
  refine V_pure (P_assign rfl) rfl rfl rfl ?_
  refine V_nil ?_
  refine thenQ_normal ?_
  refine T_ret ?_
  refine retQ_ret1 rfl ?_
  exact ⟨rfl, hl2⟩

def RefOK (m : Mp) (v : Value) (l : List EffT) : Prop := ∀ (u : Int) (h : Heap), Le m (mp h) → C Try.prog 19 [lab u, v].toArray h fun r h' => r = .bool (rightS u l) ∧ Le (mp h) (mp h')
def RefKids (m : Mp) (cs : List Value) : EffT → Prop
  | .mk _ _ _ _ _ thn els => (∀ v, cs[12]? = some v → RefOK m v thn) ∧ (∀ v, cs[13]? = some v → RefOK m v els)
set_option maxHeartbeats 4000000 in
theorem ref_step {m : Mp} {A : Option Addr} {c : Nat} {vs : List Value} {l : List EffT} (hm : l.length ≤ maxLen) (hr : Rd m A vs) (hv : vs.length = l.length * 14) (hk : ∀ (i : Nat) (hi : i < l.length), EffR m ((vs.drop (i * 14)).take 14) l[i])
    (hs : ∀ (i : Nat) (hi : i < l.length), RefKids m ((vs.drop (i * 14)).take 14) l[i]) : RefOK m (.slice A l.length c) l := by
  intro u h hle
  simp only [maxLen] at hm
  refine C_of [4] Try.func19 rfl rfl rfl ?_
  refine T_seq ?_
  refine T_region ?_
  refine V_pure (P_assign rfl) rfl rfl rfl ?_
  refine V_nil ?_
  refine thenQ_normal ?_
  refine T_seq ?_
  refine T_seq ?_
  refine T_region ?_
  refine V_pure (P_assign rfl) rfl rfl rfl ?_
  refine V_nil ?_
  refine thenQ_normal ?_
  refine T_block ?_
  refine T_loop (fun i : Nat => [(0, lab u), (1, .slice A l.length c), (5, .int .i64 i)]) (fun i h' => i ≤ l.length ∧ rightS u (l.take i) = true ∧ Le (mp h) (mp h')) (fun i => l.length - i) 0 ⟨rfl, rfl, rfl, trivial⟩ ⟨Nat.zero_le _, by simp [rightS], Le.refl _⟩ ?_
  rintro i h2 ⟨hi, hright, hle2⟩
  by_cases hlt : i < l.length
  · have he := hk i hlt
    have hks := hs i hlt
    have hA : A.isSome = true := hr.isSome (by omega)
    have hat := (hr.elem (i * 14) 14).mono (hle.trans hle2)
    have hsu := rightS_succ (u := u) hlt
    rw [hright, Bool.true_and] at hsu
    obtain ⟨op, who, nop, nn, nwho, nA, nlen, nc, name, cop, cwho, cname, cA, cla, cca, cB, clb, ccb, A1, la, ca, B1, lb, cb, n, cond, thn, els, hc, hx, ho, hn, hcd, _, _⟩ := he.parts
    rw [hc] at hat hks
    rw [hx] at hks hsu
    have hkA := hks.1 _ rfl
    have hkB := hks.2 _ rfl
    clear hks
    have kle2 := Kept.mk hle2
    have hno : ∀ h', Le (mp h) (mp h') → rightE u (.mk op who n name cond thn els) = false → (Value.bool false = .bool (rightS u l) ∧ Le (mp h) (mp h')) := fun h' hl' hf => by
      refine ⟨?_, hl'⟩
      rw [← List.take_append_drop (i + 1) l, rightS_append, hsu, hf]
      rfl
    have hyes : ∀ h', Le (mp h) (mp h') → rightE u (.mk op who n name cond thn els) = true → i + 1 ≤ l.length ∧ rightS u (l.take (i + 1)) = true ∧ Le (mp h) (mp h') := fun h' hl' hf => ⟨by omega, by rw [hsu, hf], hl'⟩
    clear he hc hx hk hs hle2 hsu
    have hcase : op = 0 ∨ op = 1 ∨ op = 2 ∨ op = 3 ∨ op = 5 ∨ op = 8 ∨ (op ≠ 5 ∧ op ≠ 8 ∧ ¬ (0 ≤ op ∧ op ≤ 3)) := by omega
    rcases hcase with h0 | h0 | h0 | h0 | h0 | h0 | h0
    · subst h0
      have hE : rightE u (.mk 0 who n name cond thn els) = decide (joinP u (numL n) = 0) := by simp [rightE]
      refine T_seq ?_
      refine T_seq ?_
      refine T_region ?_
      refine V_pure (P_move rfl) rfl rfl rfl ?_
      refine V_pure (P_move rfl) rfl rfl rfl ?_
      refine V_pure (P_len il31 rfl) rfl rfl rfl ?_
      refine V_pure (dt (P_lss rfl rfl) (by first | assumption | rfl | omega | decide)) rfl rfl rfl ?_
      refine V_nil ?_
      refine thenQ_normal ?_
      refine T_true rfl ?_
      refine T_skip ?_
      refine thenQ_normal ?_
      refine T_seq ?_
      refine T_block ?_
      refine T_seq ?_
      refine T_region ?_
      refine V_pure (P_move rfl) rfl rfl rfl ?_
      refine V_pure (P_move rfl) rfl rfl rfl ?_
      refine V_pure (P_indexAddr ez31 rfl rfl hA (by omega) (by omega)) rfl rfl rfl ?_
      refine V_read (R_loadAt ag33 rfl rfl hat) rfl rfl rfl ?_
      refine V_step (E_alloc zl33 rfl (fun b1 h1 hn1 hb1 hl1 => ?_)) rfl
      replace hat := hat.mono hl1
      refine V_step (E_storeAgg ag33 rfl rfl rfl hb1 rfl rfl (fun h3 hb2 hl2 hn2 => ?_)) rfl
      refine V_nil ?_
      refine thenQ_normal ?_
      refine T_seq ?_
      refine T_region ?_
      refine V_pure (P_fieldAddr0 fo33_0 rfl) rfl rfl rfl ?_
      refine V_read (R_load sg22 rfl (mc_blk hb2 rfl)) rfl rfl rfl ?_
      refine V_nil ?_
      refine thenQ_normal ?_
      refine T_block ?_
      refine T_seq ?_
      refine T_region ?_
      refine V_pure (df (P_eql rfl rfl) (by first | assumption | omega | decide | exact fun hx => hx (by assumption))) rfl rfl rfl ?_
      refine V_pure (P_assign rfl) rfl rfl rfl ?_
      refine V_nil ?_
      refine thenQ_normal ?_
      refine T_false rfl ?_
      refine T_seq ?_
      refine T_region ?_
      refine V_pure (df (P_eql rfl rfl) (by first | assumption | omega | decide | exact fun hx => hx (by assumption))) rfl rfl rfl ?_
      refine V_pure (P_assign rfl) rfl rfl rfl ?_
      refine V_nil ?_
      refine thenQ_normal ?_
      refine T_false rfl ?_
      refine T_seq ?_
      refine T_seq ?_
      refine T_region ?_
      refine V_pure (dt (P_eql rfl rfl) (by first | assumption | rfl | omega | decide)) rfl rfl rfl ?_
      refine V_pure (P_assign rfl) rfl rfl rfl ?_
      refine V_nil ?_
      refine thenQ_normal ?_
      refine T_true rfl ?_
      refine T_skip ?_
      refine thenQ_normal ?_
      refine T_true rfl ?_
      refine T_seq ?_
      refine T_region ?_
      refine V_pure (P_move rfl) rfl rfl rfl ?_
      refine V_pure (P_fieldAddr0 fo33_2 rfl) rfl rfl rfl ?_
      have hl24 := kle2.out.trans (hl1.stored hn1 hl2)
      have hatN : At (mp h3) ⟨b1, 2, none⟩ [.int .i8 nop, .int .i64 nn, .int .i8 nwho, .slice nA nlen nc] := At.blkO (k := 4) hb2
      refine V_read (R_loadAt ag25 rfl rfl hatN) rfl rfl rfl ?_
      refine V_step (E_call cl10 rfl ((NumRef_ok hn _ (hle.trans hl24))) rfl ?_) rfl
      rintro _ h5 ⟨rfl, hl5⟩
      refine V_step (E_call cl14 rfl ((JoinR_ok h5 _ _)) rfl ?_) rfl
      rintro _ h5 ⟨rfl, rfl⟩
      by_cases hj : joinP u (numL n) = 0
      · refine V_pure (df (P_neq rfl rfl) (by first | assumption | omega | decide | exact fun hx => hx (by assumption))) rfl rfl rfl ?_
        refine V_nil ?_
        refine thenQ_normal ?_
        refine T_false rfl ?_
        refine T_skip ?_
        refine blockQ_normal ?_
        refine blockQ_normal ?_
        refine thenQ_normal ?_
        refine T_region ?_
        refine V_pure (P_move rfl) rfl rfl rfl ?_
        refine V_pure (P_add rfl rfl (w64 (by omega) (by omega))) rfl rfl rfl ?_
        refine V_pure (P_assign rfl) rfl rfl rfl ?_
        refine V_nil ?_
        exact ⟨i + 1, ⟨rfl, rfl, rfl, trivial⟩, hyes _ (hl24.trans hl5) (by rw [hE]; exact decide_eq_true hj), by show l.length - (i + 1) < l.length - i; omega⟩
      · refine V_pure (dt (P_neq rfl rfl) (by first | assumption | rfl | omega | decide)) rfl rfl rfl ?_
        refine V_nil ?_
        refine thenQ_normal ?_
        refine T_true rfl ?_
        refine T_seq ?_
        refine T_region ?_
        refine V_pure (P_assign rfl) rfl rfl rfl ?_
        refine V_nil ?_
        refine thenQ_normal ?_
        refine T_ret ?_
        refine blockQ_ret ?_
        refine blockQ_ret ?_
        refine thenQ_ret ?_
        refine roundQ_ret ?_
        refine blockQ_ret ?_
        refine thenQ_ret ?_
        refine retQ_ret1 rfl ?_
        exact hno _ (hl24.trans hl5) (by rw [hE]; exact decide_eq_false hj)
    · subst h0
      have hE : rightE u (.mk 1 who n name cond thn els) = decide (joinP u (numL n) = 0) := by simp [rightE]
      refine T_seq ?_
      refine T_seq ?_
      refine T_region ?_
      refine V_pure (P_move rfl) rfl rfl rfl ?_
      refine V_pure (P_move rfl) rfl rfl rfl ?_
      refine V_pure (P_len il31 rfl) rfl rfl rfl ?_
      refine V_pure (dt (P_lss rfl rfl) (by first | assumption | rfl | omega | decide)) rfl rfl rfl ?_
      refine V_nil ?_
      refine thenQ_normal ?_
      refine T_true rfl ?_
      refine T_skip ?_
      refine thenQ_normal ?_
      refine T_seq ?_
      refine T_block ?_
      refine T_seq ?_
      refine T_region ?_
      refine V_pure (P_move rfl) rfl rfl rfl ?_
      refine V_pure (P_move rfl) rfl rfl rfl ?_
      refine V_pure (P_indexAddr ez31 rfl rfl hA (by omega) (by omega)) rfl rfl rfl ?_
      refine V_read (R_loadAt ag33 rfl rfl hat) rfl rfl rfl ?_
      refine V_step (E_alloc zl33 rfl (fun b1 h1 hn1 hb1 hl1 => ?_)) rfl
      replace hat := hat.mono hl1
      refine V_step (E_storeAgg ag33 rfl rfl rfl hb1 rfl rfl (fun h3 hb2 hl2 hn2 => ?_)) rfl
      refine V_nil ?_
      refine thenQ_normal ?_
      refine T_seq ?_
      refine T_region ?_
      refine V_pure (P_fieldAddr0 fo33_0 rfl) rfl rfl rfl ?_
      refine V_read (R_load sg22 rfl (mc_blk hb2 rfl)) rfl rfl rfl ?_
      refine V_nil ?_
      refine thenQ_normal ?_
      refine T_block ?_
      refine T_seq ?_
      refine T_region ?_
      refine V_pure (df (P_eql rfl rfl) (by first | assumption | omega | decide | exact fun hx => hx (by assumption))) rfl rfl rfl ?_
      refine V_pure (P_assign rfl) rfl rfl rfl ?_
      refine V_nil ?_
      refine thenQ_normal ?_
      refine T_false rfl ?_
      refine T_seq ?_
      refine T_region ?_
      refine V_pure (df (P_eql rfl rfl) (by first | assumption | omega | decide | exact fun hx => hx (by assumption))) rfl rfl rfl ?_
      refine V_pure (P_assign rfl) rfl rfl rfl ?_
      refine V_nil ?_
      refine thenQ_normal ?_
      refine T_false rfl ?_
      refine T_seq ?_
      refine T_seq ?_
      refine T_region ?_
      refine V_pure (df (P_eql rfl rfl) (by first | assumption | omega | decide | exact fun hx => hx (by assumption))) rfl rfl rfl ?_
      refine V_pure (P_assign rfl) rfl rfl rfl ?_
      refine V_nil ?_
      refine thenQ_normal ?_
      refine T_false rfl ?_
      refine T_seq ?_
      refine T_region ?_
      refine V_pure (dt (P_eql rfl rfl) (by first | assumption | rfl | omega | decide)) rfl rfl rfl ?_
      refine V_pure (P_assign rfl) rfl rfl rfl ?_
      refine V_nil ?_
      refine thenQ_normal ?_
      refine T_true rfl ?_
      refine T_skip ?_
      refine thenQ_normal ?_
      refine T_true rfl ?_
      refine T_seq ?_
      refine T_region ?_
      refine V_pure (P_move rfl) rfl rfl rfl ?_
      refine V_pure (P_fieldAddr0 fo33_2 rfl) rfl rfl rfl ?_
      have hl24 := kle2.out.trans (hl1.stored hn1 hl2)
      have hatN : At (mp h3) ⟨b1, 2, none⟩ [.int .i8 nop, .int .i64 nn, .int .i8 nwho, .slice nA nlen nc] := At.blkO (k := 4) hb2
      refine V_read (R_loadAt ag25 rfl rfl hatN) rfl rfl rfl ?_
      refine V_step (E_call cl10 rfl ((NumRef_ok hn _ (hle.trans hl24))) rfl ?_) rfl
      rintro _ h5 ⟨rfl, hl5⟩
      refine V_step (E_call cl14 rfl ((JoinR_ok h5 _ _)) rfl ?_) rfl
      rintro _ h5 ⟨rfl, rfl⟩
      by_cases hj : joinP u (numL n) = 0
      · refine V_pure (df (P_neq rfl rfl) (by first | assumption | omega | decide | exact fun hx => hx (by assumption))) rfl rfl rfl ?_
        refine V_nil ?_
        refine thenQ_normal ?_
        refine T_false rfl ?_
        refine T_skip ?_
        refine blockQ_normal ?_
        refine blockQ_normal ?_
        refine thenQ_normal ?_
        refine T_region ?_
        refine V_pure (P_move rfl) rfl rfl rfl ?_
        refine V_pure (P_add rfl rfl (w64 (by omega) (by omega))) rfl rfl rfl ?_
        refine V_pure (P_assign rfl) rfl rfl rfl ?_
        refine V_nil ?_
        exact ⟨i + 1, ⟨rfl, rfl, rfl, trivial⟩, hyes _ (hl24.trans hl5) (by rw [hE]; exact decide_eq_true hj), by show l.length - (i + 1) < l.length - i; omega⟩
      · refine V_pure (dt (P_neq rfl rfl) (by first | assumption | rfl | omega | decide)) rfl rfl rfl ?_
        refine V_nil ?_
        refine thenQ_normal ?_
        refine T_true rfl ?_
        refine T_seq ?_
        refine T_region ?_
        refine V_pure (P_assign rfl) rfl rfl rfl ?_
        refine V_nil ?_
        refine thenQ_normal ?_
        refine T_ret ?_
        refine blockQ_ret ?_
        refine blockQ_ret ?_
        refine thenQ_ret ?_
        refine roundQ_ret ?_
        refine blockQ_ret ?_
        refine thenQ_ret ?_
        refine retQ_ret1 rfl ?_
        exact hno _ (hl24.trans hl5) (by rw [hE]; exact decide_eq_false hj)
    · subst h0
      have hE : rightE u (.mk 2 who n name cond thn els) = decide (joinP u (numL n) = 0) := by simp [rightE]
      refine T_seq ?_
      refine T_seq ?_
      refine T_region ?_
      refine V_pure (P_move rfl) rfl rfl rfl ?_
      refine V_pure (P_move rfl) rfl rfl rfl ?_
      refine V_pure (P_len il31 rfl) rfl rfl rfl ?_
      refine V_pure (dt (P_lss rfl rfl) (by first | assumption | rfl | omega | decide)) rfl rfl rfl ?_
      refine V_nil ?_
      refine thenQ_normal ?_
      refine T_true rfl ?_
      refine T_skip ?_
      refine thenQ_normal ?_
      refine T_seq ?_
      refine T_block ?_
      refine T_seq ?_
      refine T_region ?_
      refine V_pure (P_move rfl) rfl rfl rfl ?_
      refine V_pure (P_move rfl) rfl rfl rfl ?_
      refine V_pure (P_indexAddr ez31 rfl rfl hA (by omega) (by omega)) rfl rfl rfl ?_
      refine V_read (R_loadAt ag33 rfl rfl hat) rfl rfl rfl ?_
      refine V_step (E_alloc zl33 rfl (fun b1 h1 hn1 hb1 hl1 => ?_)) rfl
      replace hat := hat.mono hl1
      refine V_step (E_storeAgg ag33 rfl rfl rfl hb1 rfl rfl (fun h3 hb2 hl2 hn2 => ?_)) rfl
      refine V_nil ?_
      refine thenQ_normal ?_
      refine T_seq ?_
      refine T_region ?_
      refine V_pure (P_fieldAddr0 fo33_0 rfl) rfl rfl rfl ?_
      refine V_read (R_load sg22 rfl (mc_blk hb2 rfl)) rfl rfl rfl ?_
      refine V_nil ?_
      refine thenQ_normal ?_
      refine T_block ?_
      refine T_seq ?_
      refine T_region ?_
      refine V_pure (df (P_eql rfl rfl) (by first | assumption | omega | decide | exact fun hx => hx (by assumption))) rfl rfl rfl ?_
      refine V_pure (P_assign rfl) rfl rfl rfl ?_
      refine V_nil ?_
      refine thenQ_normal ?_
      refine T_false rfl ?_
      refine T_seq ?_
      refine T_region ?_
      refine V_pure (df (P_eql rfl rfl) (by first | assumption | omega | decide | exact fun hx => hx (by assumption))) rfl rfl rfl ?_
      refine V_pure (P_assign rfl) rfl rfl rfl ?_
      refine V_nil ?_
      refine thenQ_normal ?_
      refine T_false rfl ?_
      refine T_seq ?_
      refine T_seq ?_
      refine T_region ?_
      refine V_pure (df (P_eql rfl rfl) (by first | assumption | omega | decide | exact fun hx => hx (by assumption))) rfl rfl rfl ?_
      refine V_pure (P_assign rfl) rfl rfl rfl ?_
      refine V_nil ?_
      refine thenQ_normal ?_
      refine T_false rfl ?_
      refine T_seq ?_
      refine T_region ?_
      refine V_pure (df (P_eql rfl rfl) (by first | assumption | omega | decide | exact fun hx => hx (by assumption))) rfl rfl rfl ?_
      refine V_pure (P_assign rfl) rfl rfl rfl ?_
      refine V_nil ?_
      refine thenQ_normal ?_
      refine T_false rfl ?_
      refine T_seq ?_
      refine T_region ?_
      refine V_pure (dt (P_eql rfl rfl) (by first | assumption | rfl | omega | decide)) rfl rfl rfl ?_
      refine V_pure (P_assign rfl) rfl rfl rfl ?_
      refine V_nil ?_
      refine thenQ_normal ?_
      refine T_true rfl ?_
      refine T_skip ?_
      refine thenQ_normal ?_
      refine T_true rfl ?_
      refine T_seq ?_
      refine T_region ?_
      refine V_pure (P_move rfl) rfl rfl rfl ?_
      refine V_pure (P_fieldAddr0 fo33_2 rfl) rfl rfl rfl ?_
      have hl24 := kle2.out.trans (hl1.stored hn1 hl2)
      have hatN : At (mp h3) ⟨b1, 2, none⟩ [.int .i8 nop, .int .i64 nn, .int .i8 nwho, .slice nA nlen nc] := At.blkO (k := 4) hb2
      refine V_read (R_loadAt ag25 rfl rfl hatN) rfl rfl rfl ?_
      refine V_step (E_call cl10 rfl ((NumRef_ok hn _ (hle.trans hl24))) rfl ?_) rfl
      rintro _ h5 ⟨rfl, hl5⟩
      refine V_step (E_call cl14 rfl ((JoinR_ok h5 _ _)) rfl ?_) rfl
      rintro _ h5 ⟨rfl, rfl⟩
      by_cases hj : joinP u (numL n) = 0
      · refine V_pure (df (P_neq rfl rfl) (by first | assumption | omega | decide | exact fun hx => hx (by assumption))) rfl rfl rfl ?_
        refine V_nil ?_
        refine thenQ_normal ?_
        refine T_false rfl ?_
        refine T_skip ?_
        refine blockQ_normal ?_
        refine blockQ_normal ?_
        refine thenQ_normal ?_
        refine T_region ?_
        refine V_pure (P_move rfl) rfl rfl rfl ?_
        refine V_pure (P_add rfl rfl (w64 (by omega) (by omega))) rfl rfl rfl ?_
        refine V_pure (P_assign rfl) rfl rfl rfl ?_
        refine V_nil ?_
        exact ⟨i + 1, ⟨rfl, rfl, rfl, trivial⟩, hyes _ (hl24.trans hl5) (by rw [hE]; exact decide_eq_true hj), by show l.length - (i + 1) < l.length - i; omega⟩
      · refine V_pure (dt (P_neq rfl rfl) (by first | assumption | rfl | omega | decide)) rfl rfl rfl ?_
        refine V_nil ?_
        refine thenQ_normal ?_
        refine T_true rfl ?_
        refine T_seq ?_
        refine T_region ?_
        refine V_pure (P_assign rfl) rfl rfl rfl ?_
        refine V_nil ?_
        refine thenQ_normal ?_
        refine T_ret ?_
        refine blockQ_ret ?_
        refine blockQ_ret ?_
        refine thenQ_ret ?_
        refine roundQ_ret ?_
        refine blockQ_ret ?_
        refine thenQ_ret ?_
        refine retQ_ret1 rfl ?_
        exact hno _ (hl24.trans hl5) (by rw [hE]; exact decide_eq_false hj)
    · subst h0
      have hE : rightE u (.mk 3 who n name cond thn els) = decide (joinP u (numL n) = 0) := by simp [rightE]
      refine T_seq ?_
      refine T_seq ?_
      refine T_region ?_
      refine V_pure (P_move rfl) rfl rfl rfl ?_
      refine V_pure (P_move rfl) rfl rfl rfl ?_
      refine V_pure (P_len il31 rfl) rfl rfl rfl ?_
      refine V_pure (dt (P_lss rfl rfl) (by first | assumption | rfl | omega | decide)) rfl rfl rfl ?_
      refine V_nil ?_
      refine thenQ_normal ?_
      refine T_true rfl ?_
      refine T_skip ?_
      refine thenQ_normal ?_
      refine T_seq ?_
      refine T_block ?_
      refine T_seq ?_
      refine T_region ?_
      refine V_pure (P_move rfl) rfl rfl rfl ?_
      refine V_pure (P_move rfl) rfl rfl rfl ?_
      refine V_pure (P_indexAddr ez31 rfl rfl hA (by omega) (by omega)) rfl rfl rfl ?_
      refine V_read (R_loadAt ag33 rfl rfl hat) rfl rfl rfl ?_
      refine V_step (E_alloc zl33 rfl (fun b1 h1 hn1 hb1 hl1 => ?_)) rfl
      replace hat := hat.mono hl1
      refine V_step (E_storeAgg ag33 rfl rfl rfl hb1 rfl rfl (fun h3 hb2 hl2 hn2 => ?_)) rfl
      refine V_nil ?_
      refine thenQ_normal ?_
      refine T_seq ?_
      refine T_region ?_
      refine V_pure (P_fieldAddr0 fo33_0 rfl) rfl rfl rfl ?_
      refine V_read (R_load sg22 rfl (mc_blk hb2 rfl)) rfl rfl rfl ?_
      refine V_nil ?_
      refine thenQ_normal ?_
      refine T_block ?_
      refine T_seq ?_
      refine T_region ?_
      refine V_pure (df (P_eql rfl rfl) (by first | assumption | omega | decide | exact fun hx => hx (by assumption))) rfl rfl rfl ?_
      refine V_pure (P_assign rfl) rfl rfl rfl ?_
      refine V_nil ?_
      refine thenQ_normal ?_
      refine T_false rfl ?_
      refine T_seq ?_
      refine T_region ?_
      refine V_pure (df (P_eql rfl rfl) (by first | assumption | omega | decide | exact fun hx => hx (by assumption))) rfl rfl rfl ?_
      refine V_pure (P_assign rfl) rfl rfl rfl ?_
      refine V_nil ?_
      refine thenQ_normal ?_
      refine T_false rfl ?_
      refine T_seq ?_
      refine T_seq ?_
      refine T_region ?_
      refine V_pure (df (P_eql rfl rfl) (by first | assumption | omega | decide | exact fun hx => hx (by assumption))) rfl rfl rfl ?_
      refine V_pure (P_assign rfl) rfl rfl rfl ?_
      refine V_nil ?_
      refine thenQ_normal ?_
      refine T_false rfl ?_
      refine T_seq ?_
      refine T_region ?_
      refine V_pure (df (P_eql rfl rfl) (by first | assumption | omega | decide | exact fun hx => hx (by assumption))) rfl rfl rfl ?_
      refine V_pure (P_assign rfl) rfl rfl rfl ?_
      refine V_nil ?_
      refine thenQ_normal ?_
      refine T_false rfl ?_
      refine T_seq ?_
      refine T_region ?_
      refine V_pure (df (P_eql rfl rfl) (by first | assumption | omega | decide | exact fun hx => hx (by assumption))) rfl rfl rfl ?_
      refine V_pure (P_assign rfl) rfl rfl rfl ?_
      refine V_nil ?_
      refine thenQ_normal ?_
      refine T_false rfl ?_
      refine T_region ?_
      refine V_pure (dt (P_eql rfl rfl) (by first | assumption | rfl | omega | decide)) rfl rfl rfl ?_
      refine V_pure (P_assign rfl) rfl rfl rfl ?_
      refine V_nil ?_
      refine thenQ_normal ?_
      refine T_true rfl ?_
      refine T_seq ?_
      refine T_region ?_
      refine V_pure (P_move rfl) rfl rfl rfl ?_
      refine V_pure (P_fieldAddr0 fo33_2 rfl) rfl rfl rfl ?_
      have hl24 := kle2.out.trans (hl1.stored hn1 hl2)
      have hatN : At (mp h3) ⟨b1, 2, none⟩ [.int .i8 nop, .int .i64 nn, .int .i8 nwho, .slice nA nlen nc] := At.blkO (k := 4) hb2
      refine V_read (R_loadAt ag25 rfl rfl hatN) rfl rfl rfl ?_
      refine V_step (E_call cl10 rfl ((NumRef_ok hn _ (hle.trans hl24))) rfl ?_) rfl
      rintro _ h5 ⟨rfl, hl5⟩
      refine V_step (E_call cl14 rfl ((JoinR_ok h5 _ _)) rfl ?_) rfl
      rintro _ h5 ⟨rfl, rfl⟩
      by_cases hj : joinP u (numL n) = 0
      · refine V_pure (df (P_neq rfl rfl) (by first | assumption | omega | decide | exact fun hx => hx (by assumption))) rfl rfl rfl ?_
        refine V_nil ?_
        refine thenQ_normal ?_
        refine T_false rfl ?_
        refine T_skip ?_
        refine blockQ_normal ?_
        refine blockQ_normal ?_
        refine thenQ_normal ?_
        refine T_region ?_
        refine V_pure (P_move rfl) rfl rfl rfl ?_
        refine V_pure (P_add rfl rfl (w64 (by omega) (by omega))) rfl rfl rfl ?_
        refine V_pure (P_assign rfl) rfl rfl rfl ?_
        refine V_nil ?_
        exact ⟨i + 1, ⟨rfl, rfl, rfl, trivial⟩, hyes _ (hl24.trans hl5) (by rw [hE]; exact decide_eq_true hj), by show l.length - (i + 1) < l.length - i; omega⟩
      · refine V_pure (dt (P_neq rfl rfl) (by first | assumption | rfl | omega | decide)) rfl rfl rfl ?_
        refine V_nil ?_
        refine thenQ_normal ?_
        refine T_true rfl ?_
        refine T_seq ?_
        refine T_region ?_
        refine V_pure (P_assign rfl) rfl rfl rfl ?_
        refine V_nil ?_
        refine thenQ_normal ?_
        refine T_ret ?_
        refine blockQ_ret ?_
        refine blockQ_ret ?_
        refine thenQ_ret ?_
        refine roundQ_ret ?_
        refine blockQ_ret ?_
        refine thenQ_ret ?_
        refine retQ_ret1 rfl ?_
        exact hno _ (hl24.trans hl5) (by rw [hE]; exact decide_eq_false hj)
    · subst h0
      have hE : rightE u (.mk 5 who n name cond thn els) = flowsP (joinP u (numL n)) 1 := by simp [rightE]
      refine T_seq ?_
      refine T_seq ?_
      refine T_region ?_
      refine V_pure (P_move rfl) rfl rfl rfl ?_
      refine V_pure (P_move rfl) rfl rfl rfl ?_
      refine V_pure (P_len il31 rfl) rfl rfl rfl ?_
      refine V_pure (dt (P_lss rfl rfl) (by first | assumption | rfl | omega | decide)) rfl rfl rfl ?_
      refine V_nil ?_
      refine thenQ_normal ?_
      refine T_true rfl ?_
      refine T_skip ?_
      refine thenQ_normal ?_
      refine T_seq ?_
      refine T_block ?_
      refine T_seq ?_
      refine T_region ?_
      refine V_pure (P_move rfl) rfl rfl rfl ?_
      refine V_pure (P_move rfl) rfl rfl rfl ?_
      refine V_pure (P_indexAddr ez31 rfl rfl hA (by omega) (by omega)) rfl rfl rfl ?_
      refine V_read (R_loadAt ag33 rfl rfl hat) rfl rfl rfl ?_
      refine V_step (E_alloc zl33 rfl (fun b1 h1 hn1 hb1 hl1 => ?_)) rfl
      replace hat := hat.mono hl1
      refine V_step (E_storeAgg ag33 rfl rfl rfl hb1 rfl rfl (fun h3 hb2 hl2 hn2 => ?_)) rfl
      refine V_nil ?_
      refine thenQ_normal ?_
      refine T_seq ?_
      refine T_region ?_
      refine V_pure (P_fieldAddr0 fo33_0 rfl) rfl rfl rfl ?_
      refine V_read (R_load sg22 rfl (mc_blk hb2 rfl)) rfl rfl rfl ?_
      refine V_nil ?_
      refine thenQ_normal ?_
      refine T_block ?_
      refine T_seq ?_
      refine T_region ?_
      refine V_pure (dt (P_eql rfl rfl) (by first | assumption | rfl | omega | decide)) rfl rfl rfl ?_
      refine V_pure (P_assign rfl) rfl rfl rfl ?_
      refine V_nil ?_
      refine thenQ_normal ?_
      refine T_true rfl ?_
      refine T_seq ?_
      refine T_region ?_
      refine V_pure (P_move rfl) rfl rfl rfl ?_
      refine V_pure (P_fieldAddr0 fo33_2 rfl) rfl rfl rfl ?_
      have hl24 := kle2.out.trans (hl1.stored hn1 hl2)
      have hatN : At (mp h3) ⟨b1, 2, none⟩ [.int .i8 nop, .int .i64 nn, .int .i8 nwho, .slice nA nlen nc] := At.blkO (k := 4) hb2
      refine V_read (R_loadAt ag25 rfl rfl hatN) rfl rfl rfl ?_
      refine V_step (E_call cl10 rfl ((NumRef_ok hn _ (hle.trans hl24))) rfl ?_) rfl
      rintro _ h5 ⟨rfl, hl5⟩
      refine V_step (E_call cl14 rfl ((JoinR_ok h5 _ _)) rfl ?_) rfl
      rintro _ h5 ⟨rfl, rfl⟩
      refine V_step (E_call cl16 rfl ((FlowsR_ok h5 _ 1)) rfl ?_) rfl
      rintro _ h5 ⟨rfl, rfl⟩
      cases hre : flowsP (joinP u (numL n)) 1 with
      | true =>
        refine V_pure (P_not rfl) rfl rfl rfl ?_
        refine V_nil ?_
        refine thenQ_normal ?_
        refine T_false rfl ?_
        refine T_skip ?_
        refine blockQ_normal ?_
        refine blockQ_normal ?_
        refine thenQ_normal ?_
        refine T_region ?_
        refine V_pure (P_move rfl) rfl rfl rfl ?_
        refine V_pure (P_add rfl rfl (w64 (by omega) (by omega))) rfl rfl rfl ?_
        refine V_pure (P_assign rfl) rfl rfl rfl ?_
        refine V_nil ?_
        exact ⟨i + 1, ⟨rfl, rfl, rfl, trivial⟩, hyes _ (hl24.trans hl5) (by rw [hE]; exact hre), by show l.length - (i + 1) < l.length - i; omega⟩
      | false =>
        refine V_pure (P_not rfl) rfl rfl rfl ?_
        refine V_nil ?_
        refine thenQ_normal ?_
        refine T_true rfl ?_
        refine T_seq ?_
        refine T_region ?_
        refine V_pure (P_assign rfl) rfl rfl rfl ?_
        refine V_nil ?_
        refine thenQ_normal ?_
        refine T_ret ?_
        refine blockQ_ret ?_
        refine blockQ_ret ?_
        refine thenQ_ret ?_
        refine roundQ_ret ?_
        refine blockQ_ret ?_
        refine thenQ_ret ?_
        refine retQ_ret1 rfl ?_
        exact hno _ (hl24.trans hl5) (by rw [hE]; exact hre)
    · subst h0
      have hE : rightE u (.mk 8 who n name cond thn els) = (rightS (joinP u (condL cond)) thn && rightS (joinP u (condL cond)) els) := by simp [rightE]
      refine T_seq ?_
      refine T_seq ?_
      refine T_region ?_
      refine V_pure (P_move rfl) rfl rfl rfl ?_
      refine V_pure (P_move rfl) rfl rfl rfl ?_
      refine V_pure (P_len il31 rfl) rfl rfl rfl ?_
      refine V_pure (dt (P_lss rfl rfl) (by first | assumption | rfl | omega | decide)) rfl rfl rfl ?_
      refine V_nil ?_
      refine thenQ_normal ?_
      refine T_true rfl ?_
      refine T_skip ?_
      refine thenQ_normal ?_
      refine T_seq ?_
      refine T_block ?_
      refine T_seq ?_
      refine T_region ?_
      refine V_pure (P_move rfl) rfl rfl rfl ?_
      refine V_pure (P_move rfl) rfl rfl rfl ?_
      refine V_pure (P_indexAddr ez31 rfl rfl hA (by omega) (by omega)) rfl rfl rfl ?_
      refine V_read (R_loadAt ag33 rfl rfl hat) rfl rfl rfl ?_
      refine V_step (E_alloc zl33 rfl (fun b1 h1 hn1 hb1 hl1 => ?_)) rfl
      replace hat := hat.mono hl1
      refine V_step (E_storeAgg ag33 rfl rfl rfl hb1 rfl rfl (fun h3 hb2 hl2 hn2 => ?_)) rfl
      refine V_nil ?_
      refine thenQ_normal ?_
      refine T_seq ?_
      refine T_region ?_
      refine V_pure (P_fieldAddr0 fo33_0 rfl) rfl rfl rfl ?_
      refine V_read (R_load sg22 rfl (mc_blk hb2 rfl)) rfl rfl rfl ?_
      refine V_nil ?_
      refine thenQ_normal ?_
      refine T_block ?_
      refine T_seq ?_
      refine T_region ?_
      refine V_pure (df (P_eql rfl rfl) (by first | assumption | omega | decide | exact fun hx => hx (by assumption))) rfl rfl rfl ?_
      refine V_pure (P_assign rfl) rfl rfl rfl ?_
      refine V_nil ?_
      refine thenQ_normal ?_
      refine T_false rfl ?_
      refine T_seq ?_
      refine T_region ?_
      refine V_pure (dt (P_eql rfl rfl) (by first | assumption | rfl | omega | decide)) rfl rfl rfl ?_
      refine V_pure (P_assign rfl) rfl rfl rfl ?_
      refine V_nil ?_
      refine thenQ_normal ?_
      refine T_true rfl ?_
      refine T_seq ?_
      refine T_region ?_
      refine V_pure (P_move rfl) rfl rfl rfl ?_
      refine V_pure (P_fieldAddr0 fo33_4 rfl) rfl rfl rfl ?_
      have hl24 := kle2.out.trans (hl1.stored hn1 hl2)
      have hatC : At (mp h3) ⟨b1, 7, none⟩ [.int .i8 cop, .int .i8 cwho, .string (bs cname), .slice cA cla cca, .slice cB clb ccb] := At.blkO (k := 5) hb2
      refine V_read (R_loadAt ag28 rfl rfl hatC) rfl rfl rfl ?_
      refine V_step (E_call cl12 rfl ((CondRef_ok hcd _ (hle.trans hl24))) rfl ?_) rfl
      rintro _ h5 ⟨rfl, hl5⟩
      refine V_step (E_call cl14 rfl ((JoinR_ok h5 _ _)) rfl ?_) rfl
      rintro _ h5 ⟨rfl, rfl⟩
      have hb5 := hl5 _ _ hb2
      have hl25 := hl24.trans hl5
      clear hb2 hatC hat hl5
      generalize joinP u (condL cond) = j at *
      refine V_pure (P_assign rfl) rfl rfl rfl ?_
      refine V_nil ?_
      refine thenQ_normal ?_
      refine T_seq ?_
      refine T_region ?_
      refine V_pure (P_move rfl) rfl rfl rfl ?_
      refine V_pure (P_fieldAddr0 fo33_5 rfl) rfl rfl rfl ?_
      refine V_read (R_load sg31 rfl (mc_blk hb5 rfl)) rfl rfl rfl ?_
      refine V_step (E_call cl19 rfl ((hkA j h5 (hle.trans hl25))) rfl ?_) rfl
      rintro _ h6 ⟨rfl, hl6⟩
      have hb6 := hl6 _ _ hb5
      have hl26 := hl25.trans hl6
      clear hb5
      cases hr1 : rightS j thn with
      | false =>
        refine V_pure (P_not rfl) rfl rfl rfl ?_
        refine V_pure (P_move rfl) rfl rfl rfl ?_
        refine V_skip rfl rfl rfl ?_
        refine V_skip rfl rfl rfl ?_
        refine V_skip rfl rfl rfl ?_
        refine V_skip rfl rfl rfl ?_
        refine V_skip rfl rfl rfl ?_
        refine V_pure (P_pick_t rfl rfl) rfl rfl rfl ?_
        refine V_nil ?_
        refine thenQ_normal ?_
        refine T_true rfl ?_
        refine T_seq ?_
        refine T_region ?_
        refine V_pure (P_assign rfl) rfl rfl rfl ?_
        refine V_nil ?_
        refine thenQ_normal ?_
        refine T_ret ?_
        refine blockQ_ret ?_
        refine blockQ_ret ?_
        refine thenQ_ret ?_
        refine roundQ_ret ?_
        refine blockQ_ret ?_
        refine thenQ_ret ?_
        refine retQ_ret1 rfl ?_
        exact hno _ hl26 (by rw [hE, hr1]; rfl)
      | true =>
        refine V_pure (P_not rfl) rfl rfl rfl ?_
        refine V_pure (P_move rfl) rfl rfl rfl ?_
        refine V_pure (P_move rfl) rfl rfl rfl ?_
        refine V_pure (P_fieldAddr0 fo33_6 rfl) rfl rfl rfl ?_
        refine V_read (R_load sg31 rfl (mc_blk hb6 rfl)) rfl rfl rfl ?_
        refine V_step (E_call cl19 rfl ((hkB j h6 (hle.trans hl26))) rfl ?_) rfl
        rintro _ h7 ⟨rfl, hl7⟩
        cases hr2 : rightS j els with
        | false =>
          refine V_pure (P_not rfl) rfl rfl rfl ?_
          refine V_pure (P_pick_f rfl rfl) rfl rfl rfl ?_
          refine V_nil ?_
          refine thenQ_normal ?_
          refine T_true rfl ?_
          refine T_seq ?_
          refine T_region ?_
          refine V_pure (P_assign rfl) rfl rfl rfl ?_
          refine V_nil ?_
          refine thenQ_normal ?_
          refine T_ret ?_
          refine blockQ_ret ?_
          refine blockQ_ret ?_
          refine thenQ_ret ?_
          refine roundQ_ret ?_
          refine blockQ_ret ?_
          refine thenQ_ret ?_
          refine retQ_ret1 rfl ?_
          exact hno _ (hl26.trans hl7) (by rw [hE, hr1, hr2]; rfl)
        | true =>
          refine V_pure (P_not rfl) rfl rfl rfl ?_
          refine V_pure (P_pick_f rfl rfl) rfl rfl rfl ?_
          refine V_nil ?_
          refine thenQ_normal ?_
          refine T_false rfl ?_
          refine T_skip ?_
          refine blockQ_normal ?_
          refine blockQ_normal ?_
          refine thenQ_normal ?_
          refine T_region ?_
          refine V_pure (P_move rfl) rfl rfl rfl ?_
          refine V_pure (P_add rfl rfl (w64 (by omega) (by omega))) rfl rfl rfl ?_
          refine V_pure (P_assign rfl) rfl rfl rfl ?_
          refine V_nil ?_
          exact ⟨i + 1, ⟨rfl, rfl, rfl, trivial⟩, hyes _ (hl26.trans hl7) (by rw [hE, hr1, hr2]; rfl), by show l.length - (i + 1) < l.length - i; omega⟩
    · obtain ⟨h05, h08, h03⟩ := h0
      have hE : rightE u (.mk op who n name cond thn els) = decide (knownP u = 0) := by rw [rightE, if_neg h05, if_neg h08, if_neg h03]
      have g0 : ¬ op = 0 := by omega
      have g1 : ¬ op = 1 := by omega
      have g2 : ¬ op = 2 := by omega
      have g3 : ¬ op = 3 := by omega
      refine T_seq ?_
      refine T_seq ?_
      refine T_region ?_
      refine V_pure (P_move rfl) rfl rfl rfl ?_
      refine V_pure (P_move rfl) rfl rfl rfl ?_
      refine V_pure (P_len il31 rfl) rfl rfl rfl ?_
      refine V_pure (dt (P_lss rfl rfl) (by first | assumption | rfl | omega | decide)) rfl rfl rfl ?_
      refine V_nil ?_
      refine thenQ_normal ?_
      refine T_true rfl ?_
      refine T_skip ?_
      refine thenQ_normal ?_
      refine T_seq ?_
      refine T_block ?_
      refine T_seq ?_
      refine T_region ?_
      refine V_pure (P_move rfl) rfl rfl rfl ?_
      refine V_pure (P_move rfl) rfl rfl rfl ?_
      refine V_pure (P_indexAddr ez31 rfl rfl hA (by omega) (by omega)) rfl rfl rfl ?_
      refine V_read (R_loadAt ag33 rfl rfl hat) rfl rfl rfl ?_
      refine V_step (E_alloc zl33 rfl (fun b1 h1 hn1 hb1 hl1 => ?_)) rfl
      replace hat := hat.mono hl1
      refine V_step (E_storeAgg ag33 rfl rfl rfl hb1 rfl rfl (fun h3 hb2 hl2 hn2 => ?_)) rfl
      refine V_nil ?_
      refine thenQ_normal ?_
      refine T_seq ?_
      refine T_region ?_
      refine V_pure (P_fieldAddr0 fo33_0 rfl) rfl rfl rfl ?_
      refine V_read (R_load sg22 rfl (mc_blk hb2 rfl)) rfl rfl rfl ?_
      refine V_nil ?_
      refine thenQ_normal ?_
      refine T_block ?_
      refine T_seq ?_
      refine T_region ?_
      refine V_pure (df (P_eql rfl rfl) (by first | assumption | omega | decide | exact fun hx => hx (by assumption))) rfl rfl rfl ?_
      refine V_pure (P_assign rfl) rfl rfl rfl ?_
      refine V_nil ?_
      refine thenQ_normal ?_
      refine T_false rfl ?_
      refine T_seq ?_
      refine T_region ?_
      refine V_pure (df (P_eql rfl rfl) (by first | assumption | omega | decide | exact fun hx => hx (by assumption))) rfl rfl rfl ?_
      refine V_pure (P_assign rfl) rfl rfl rfl ?_
      refine V_nil ?_
      refine thenQ_normal ?_
      refine T_false rfl ?_
      refine T_seq ?_
      refine T_seq ?_
      refine T_region ?_
      refine V_pure (df (P_eql rfl rfl) (by first | assumption | omega | decide | exact fun hx => hx (by assumption))) rfl rfl rfl ?_
      refine V_pure (P_assign rfl) rfl rfl rfl ?_
      refine V_nil ?_
      refine thenQ_normal ?_
      refine T_false rfl ?_
      refine T_seq ?_
      refine T_region ?_
      refine V_pure (df (P_eql rfl rfl) (by first | assumption | omega | decide | exact fun hx => hx (by assumption))) rfl rfl rfl ?_
      refine V_pure (P_assign rfl) rfl rfl rfl ?_
      refine V_nil ?_
      refine thenQ_normal ?_
      refine T_false rfl ?_
      refine T_seq ?_
      refine T_region ?_
      refine V_pure (df (P_eql rfl rfl) (by first | assumption | omega | decide | exact fun hx => hx (by assumption))) rfl rfl rfl ?_
      refine V_pure (P_assign rfl) rfl rfl rfl ?_
      refine V_nil ?_
      refine thenQ_normal ?_
      refine T_false rfl ?_
      refine T_region ?_
      refine V_pure (df (P_eql rfl rfl) (by first | assumption | omega | decide | exact fun hx => hx (by assumption))) rfl rfl rfl ?_
      refine V_pure (P_assign rfl) rfl rfl rfl ?_
      refine V_nil ?_
      refine thenQ_normal ?_
      refine T_false rfl ?_
      refine T_seq ?_
      refine T_region ?_
      refine V_pure (P_move rfl) rfl rfl rfl ?_
      refine V_pure (P_move rfl) rfl rfl rfl ?_
      have hl24 := kle2.out.trans (hl1.stored hn1 hl2)
      refine V_step (E_call cl14 rfl ((JoinR_ok _ _ _)) rfl ?_) rfl
      rintro _ h5 ⟨rfl, rfl⟩
      rw [joinP_self]
      by_cases hj : knownP u = 0
      · refine V_pure (df (P_neq rfl rfl) (by first | assumption | omega | decide | exact fun hx => hx (by assumption))) rfl rfl rfl ?_
        refine V_nil ?_
        refine thenQ_normal ?_
        refine T_false rfl ?_
        refine T_skip ?_
        refine blockQ_normal ?_
        refine blockQ_normal ?_
        refine thenQ_normal ?_
        refine T_region ?_
        refine V_pure (P_move rfl) rfl rfl rfl ?_
        refine V_pure (P_add rfl rfl (w64 (by omega) (by omega))) rfl rfl rfl ?_
        refine V_pure (P_assign rfl) rfl rfl rfl ?_
        refine V_nil ?_
        exact ⟨i + 1, ⟨rfl, rfl, rfl, trivial⟩, hyes _ hl24 (by rw [hE]; exact decide_eq_true hj), by show l.length - (i + 1) < l.length - i; omega⟩
      · refine V_pure (dt (P_neq rfl rfl) (by first | assumption | rfl | omega | decide)) rfl rfl rfl ?_
        refine V_nil ?_
        refine thenQ_normal ?_
        refine T_true rfl ?_
        refine T_seq ?_
        refine T_region ?_
        refine V_pure (P_assign rfl) rfl rfl rfl ?_
        refine V_nil ?_
        refine thenQ_normal ?_
        refine T_ret ?_
        refine blockQ_ret ?_
        refine blockQ_ret ?_
        refine thenQ_ret ?_
        refine roundQ_ret ?_
        refine blockQ_ret ?_
        refine thenQ_ret ?_
        refine retQ_ret1 rfl ?_
        exact hno _ hl24 (by rw [hE]; exact decide_eq_false hj)
  · refine T_seq ?_
    refine T_seq ?_
    refine T_region ?_
    refine V_pure (P_move rfl) rfl rfl rfl ?_
    refine V_pure (P_move rfl) rfl rfl rfl ?_
    refine V_pure (P_len il31 rfl) rfl rfl rfl ?_
    refine V_pure (df (P_lss rfl rfl) (by first | assumption | omega | decide | exact fun hx => hx (by assumption))) rfl rfl rfl ?_
    refine V_nil ?_
    refine thenQ_normal ?_
    refine T_false rfl ?_
    refine T_exit ?_
    refine thenQ_exit ?_
    refine roundQ_exit ?_
    refine blockQ_here ?_
    refine thenQ_normal ?_
    refine T_seq ?_
    refine T_region ?_
    refine V_pure (P_assign rfl) rfl rfl rfl ?_
    refine V_nil ?_
    refine thenQ_normal ?_
    refine T_ret ?_
    refine retQ_ret1 rfl ?_
    rw [List.take_of_length_le (by omega)] at hright
    exact ⟨by rw [hright], hle2⟩
theorem eff_ref {m : Mp} {cs : List Value} {x : EffT} (hx : EffR m cs x) : RefKids m cs x := by
  induction hx with
  | @mk op who n name cond thn els ns cs A B la ca lb cb vs us ho hw hn hnm hc hla hma hra hva hka hlb hmb hrb hvb hkb ih1 ih2 =>
    obtain ⟨_, _, _, _, _, _, rfl⟩ := hn.form
    obtain ⟨_, _, _, _, _, _, _, _, _, rfl⟩ := hc.form
    subst hla hlb
    have hA := ref_step (c := ca) hma hra hva hka ih1
    have hB := ref_step (c := cb) hmb hrb hvb hkb ih2
    refine ⟨fun u hu => ?_, fun u hu => ?_⟩
    · simp at hu
      subst hu
      exact hA
    · simp at hu
      subst hu
      exact hB
theorem EffectsR_ok {m : Mp} {A : Option Addr} {len c : Nat} {l : List EffT} (h : EffsR m A len l) : RefOK m (.slice A len c) l := by
  obtain ⟨rfl, hm, vs, hr, hv, hk⟩ := h
  exact ref_step hm hr hv hk fun i hi => eff_ref (hk i hi)
end Go.Proofs.Ytigmehimficmlaa
