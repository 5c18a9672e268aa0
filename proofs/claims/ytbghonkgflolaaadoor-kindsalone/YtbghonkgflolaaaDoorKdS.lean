/- A part of the proof: contracts of functions of the program. No condition. -/
import Derived.Test.YtbghonkgflolaaaDoorKdF
import Derived.Test.YtbghonkgflolaaaDoorKdI
import Derived.Test.YtbghonkgflolaaaDoorKdR
namespace Go.Proofs.YtbghonkgflolaaaDoor
open Go.Eng Kd
set_option maxRecDepth 100000
theorem capW_le (n : Nat) : 0 ≤ capW n ∧ capW n ≤ 1073741824 := by unfold capW; omega
theorem capW_add (a b : Nat) : min (capW a + capW b) 1073741824 = capW (a + b) := by unfold capW; omega
set_option maxHeartbeats 8000000 in
theorem num25 {m0 : Mp} {cs : List Value} {x : NumT} (hx : NumR m0 cs x) : ∀ m, Le m0 m → CS Tryd.prog 25 [.agg cs.toArray] m [] (Gives (iV (capW (numW x)))) := by
  induction hx with
  | @mk op n who kids A len c vs ho hln hmx hr hv hkk ih =>
  subst hln
  intro m hm
  unfold maxLen at hmx
  refine CS_of [.tmp 2] Tryd.func25 rfl rfl rfl ?_
  refine TS_seq ?_
  refine TS_region ?_
  refine VS_step (S_box rfl rfl (fun b1 => ?_)) rfl
  refine VS_pure (P_assign rfl) rfl rfl rfl ?_
  refine VS_nil ?_
  refine QS_then ?_
  refine TS_seq ?_
  refine TS_region ?_
  refine VS_pure (P_assign rfl) rfl rfl rfl ?_
  refine VS_nil ?_
  refine QS_then ?_
  refine TS_seq ?_
  refine TS_seq ?_
  refine TS_region ?_
  refine VS_pure (P_assign rfl) rfl rfl rfl ?_
  refine VS_nil ?_
  refine QS_then ?_
  refine TS_block ?_
  refine TS_loop (α := Nat × Int) (fun y => [(1, .pointer (some ⟨b1, 0, none⟩)), (3, iV y.2), (4, .int .i64 (y.1 : Nat))]) (fun _ => [cel b1 [.int .i8 op, .int .i64 n, .int .i8 who, .slice A kids.length c] 42]) (fun y => y.1 ≤ kids.length ∧ y.2 = capW (1 + ((kids.take y.1).map numW).sum)) (fun y => kids.length - y.1) (0, 1) ⟨rfl, rfl, rfl, trivial⟩ (Pick.refl _) ⟨Nat.zero_le _, by simp [capW]; omega⟩ ?_
  rintro ⟨i, z⟩ ⟨hi, hz⟩
  dsimp only at hi hz
  dsimp only
  unfold iV
  by_cases hlt : i < kids.length
  · have hA : A.isSome = true := hr.isSome (by omega)
    have hc := fun m1 (hm1 : Le m m1) => ih i hlt m1 (hm.trans hm1)
    have hat := (hr.elem (i * 4) 4).mono hm
    have hl4 : ((vs.drop (i * 4)).take 4).length = 4 := (hkk i hlt).len
    generalize (vs.drop (i * 4)).take 4 = ks at hc hat hl4
    have hnn := capW_le (numW kids[i])
    have hzz : 0 ≤ z ∧ z ≤ 1073741824 := by rw [hz]; exact capW_le _
    refine TS_seq ?_
    refine TS_seq ?_
    refine TS_region ?_
    refine VS_pure (P_move rfl) rfl rfl rfl ?_
    refine VS_pure (P_fieldAddr0 fo42_3 rfl) rfl rfl rfl ?_
    refine VS_read (S_loadB sg40 rfl (.here) rfl) rfl rfl rfl ?_
    refine VS_pure (P_len il40 rfl) rfl rfl rfl ?_
    refine VS_pure (dt (P_lss rfl rfl) (by omega)) rfl rfl rfl ?_
    refine VS_nil ?_
    refine QS_then ?_
    refine TS_true rfl ?_
    refine TS_skip ?_
    refine QS_then ?_
    refine TS_seq ?_
    refine TS_block ?_
    refine TS_region ?_
    refine VS_pure (P_move rfl) rfl rfl rfl ?_
    refine VS_pure (P_fieldAddr0 fo42_3 rfl) rfl rfl rfl ?_
    refine VS_read (S_loadB sg40 rfl (.here) rfl) rfl rfl rfl ?_
    refine VS_pure (P_move rfl) rfl rfl rfl ?_
    refine VS_pure (P_indexAddrN ez40 rfl rfl hA (by omega)) rfl rfl rfl ?_
    refine VS_read ((S_loadAt ag42 rfl hl4 hat)) rfl rfl rfl ?_
    skip
    refine VS_step (S_callR cl25 rfl (fun m' hm he => (hc m' hm)) rfl ?_) rfl
    rintro _ rfl
    unfold iV
    skip
    refine VS_pure ((P_add rfl rfl (w64 (by omega) (by omega)))) rfl rfl rfl ?_
    refine VS_pure (P_min2 rfl rfl) rfl rfl rfl ?_
    refine VS_pure (P_assign rfl) rfl rfl rfl ?_
    refine VS_nil ?_
    refine QS_block ?_
    refine QS_then ?_
    refine TS_region ?_
    refine VS_pure (P_move rfl) rfl rfl rfl ?_
    refine VS_pure (P_add rfl rfl (w64 (by omega) (by omega))) rfl rfl rfl ?_
    refine VS_pure (P_assign rfl) rfl rfl rfl ?_
    refine VS_nil ?_
    exact QS_round (i + 1, min (z + capW (numW kids[i])) 1073741824) ⟨rfl, rfl, rfl, trivial⟩ (Pick.refl _) ⟨hlt, by dsimp only; rw [hz, sum_take _ hlt, capW_add, Nat.add_assoc]⟩ (by dsimp only; omega)
  · have hi2 : i = kids.length := by omega
    subst hi2
    rw [List.take_length] at hz
    subst hz
    refine TS_seq ?_
    refine TS_seq ?_
    refine TS_region ?_
    refine VS_pure (P_move rfl) rfl rfl rfl ?_
    refine VS_pure (P_fieldAddr0 fo42_3 rfl) rfl rfl rfl ?_
    refine VS_read (S_loadB sg40 rfl (.here) rfl) rfl rfl rfl ?_
    refine VS_pure (P_len il40 rfl) rfl rfl rfl ?_
    refine VS_pure (df (P_lss rfl rfl) (by omega)) rfl rfl rfl ?_
    refine VS_nil ?_
    refine QS_then ?_
    refine TS_false rfl ?_
    refine TS_exit ?_
    refine QS_then_exit ?_
    refine QS_round_exit ?_
    refine QS_block_here ?_
    refine QS_then ?_
    refine TS_seq ?_
    refine TS_region ?_
    refine VS_pure (P_move rfl) rfl rfl rfl ?_
    refine VS_pure (P_assign rfl) rfl rfl rfl ?_
    refine VS_nil ?_
    refine QS_then ?_
    refine TS_ret ?_
    exact QS_ret [_] ⟨rfl, trivial⟩ [] (Pick.nil _) ⟨by rw [numW_eq]; rfl, rfl⟩
set_option maxHeartbeats 8000000 in
theorem cond26 {m0 : Mp} {cs : List Value} {x : CondT} (hx : CondR m0 cs x) : ∀ m, Le m0 m → CS Tryd.prog 26 [.agg cs.toArray] m [] (Gives (iV (capW (condW x)))) := by
  induction hx with
  | @mk op who name nums kids A B la ca lb cb vs us ho hw hn hla hma hra hva hka hlb hmb hrb hvb hkb ih =>
  subst hla hlb
  intro m hm
  unfold maxLen at hma hmb
  refine CS_of [.tmp 2] Tryd.func26 rfl rfl rfl ?_
  refine TS_seq ?_
  refine TS_region ?_
  refine VS_step (S_box rfl rfl (fun b1 => ?_)) rfl
  refine VS_pure (P_assign rfl) rfl rfl rfl ?_
  refine VS_nil ?_
  refine QS_then ?_
  refine TS_seq ?_
  refine TS_region ?_
  refine VS_pure (P_assign rfl) rfl rfl rfl ?_
  refine VS_nil ?_
  refine QS_then ?_
  refine TS_seq ?_
  refine TS_seq ?_
  refine TS_region ?_
  refine VS_pure (P_assign rfl) rfl rfl rfl ?_
  refine VS_nil ?_
  refine QS_then ?_
  refine TS_block ?_
  refine TS_loop (α := Nat × Int) (fun y => [(1, .pointer (some ⟨b1, 0, none⟩)), (3, iV y.2), (4, .int .i64 (y.1 : Nat))]) (fun _ => [cel b1 [.int .i8 op, .int .i8 who, .string (bs name), .slice A nums.length ca, .slice B kids.length cb] 45]) (fun y => y.1 ≤ nums.length ∧ y.2 = capW (1 + ((nums.take y.1).map numW).sum)) (fun y => nums.length - y.1) (0, 1) ⟨rfl, rfl, rfl, trivial⟩ (Pick.refl _) ⟨Nat.zero_le _, by simp [capW]; omega⟩ ?_
  rintro ⟨i, z⟩ ⟨hi, hz⟩
  dsimp only at hi hz
  dsimp only
  unfold iV
  by_cases hlt : i < nums.length
  · have hA : A.isSome = true := hra.isSome (by omega)
    have hc := fun m1 (hm1 : Le m m1) => num25 (hka i hlt) m1 (hm.trans hm1)
    have hat := (hra.elem (i * 4) 4).mono hm
    have hl4 : ((vs.drop (i * 4)).take 4).length = 4 := (hka i hlt).len
    generalize (vs.drop (i * 4)).take 4 = ks at hc hat hl4
    have hnn := capW_le (numW nums[i])
    have hzz : 0 ≤ z ∧ z ≤ 1073741824 := by rw [hz]; exact capW_le _
    refine TS_seq ?_
    refine TS_seq ?_
    refine TS_region ?_
    refine VS_pure (P_move rfl) rfl rfl rfl ?_
    refine VS_pure (P_fieldAddr0 fo45_3 rfl) rfl rfl rfl ?_
    refine VS_read (S_loadB sg40 rfl (.here) rfl) rfl rfl rfl ?_
    refine VS_pure (P_len il40 rfl) rfl rfl rfl ?_
    refine VS_pure (dt (P_lss rfl rfl) (by omega)) rfl rfl rfl ?_
    refine VS_nil ?_
    refine QS_then ?_
    refine TS_true rfl ?_
    refine TS_skip ?_
    refine QS_then ?_
    refine TS_seq ?_
    refine TS_block ?_
    refine TS_region ?_
    refine VS_pure (P_move rfl) rfl rfl rfl ?_
    refine VS_pure (P_fieldAddr0 fo45_3 rfl) rfl rfl rfl ?_
    refine VS_read (S_loadB sg40 rfl (.here) rfl) rfl rfl rfl ?_
    refine VS_pure (P_move rfl) rfl rfl rfl ?_
    refine VS_pure (P_indexAddrN ez40 rfl rfl hA (by omega)) rfl rfl rfl ?_
    refine VS_read ((S_loadAt ag42 rfl hl4 hat)) rfl rfl rfl ?_
    skip
    refine VS_step (S_callR cl25 rfl (fun m' hm he => (hc m' hm)) rfl ?_) rfl
    rintro _ rfl
    unfold iV
    skip
    refine VS_pure ((P_add rfl rfl (w64 (by omega) (by omega)))) rfl rfl rfl ?_
    refine VS_pure (P_min2 rfl rfl) rfl rfl rfl ?_
    refine VS_pure (P_assign rfl) rfl rfl rfl ?_
    refine VS_nil ?_
    refine QS_block ?_
    refine QS_then ?_
    refine TS_region ?_
    refine VS_pure (P_move rfl) rfl rfl rfl ?_
    refine VS_pure (P_add rfl rfl (w64 (by omega) (by omega))) rfl rfl rfl ?_
    refine VS_pure (P_assign rfl) rfl rfl rfl ?_
    refine VS_nil ?_
    exact QS_round (i + 1, min (z + capW (numW nums[i])) 1073741824) ⟨rfl, rfl, rfl, trivial⟩ (Pick.refl _) ⟨hlt, by dsimp only; rw [hz, sum_take _ hlt, capW_add, Nat.add_assoc]⟩ (by dsimp only; omega)
  · have hi2 : i = nums.length := by omega
    subst hi2
    rw [List.take_length] at hz
    refine TS_seq ?_
    refine TS_seq ?_
    refine TS_region ?_
    refine VS_pure (P_move rfl) rfl rfl rfl ?_
    refine VS_pure (P_fieldAddr0 fo45_3 rfl) rfl rfl rfl ?_
    refine VS_read (S_loadB sg40 rfl (.here) rfl) rfl rfl rfl ?_
    refine VS_pure (P_len il40 rfl) rfl rfl rfl ?_
    refine VS_pure (df (P_lss rfl rfl) (by omega)) rfl rfl rfl ?_
    refine VS_nil ?_
    refine QS_then ?_
    refine TS_false rfl ?_
    refine TS_exit ?_
    refine QS_then_exit ?_
    refine QS_round_exit ?_
    refine QS_block_here ?_
    refine QS_then ?_
    refine TS_seq ?_
    refine TS_seq ?_
    refine TS_region ?_
    refine VS_pure (P_assign rfl) rfl rfl rfl ?_
    refine VS_nil ?_
    refine QS_then ?_
    refine TS_block ?_
    refine TS_loop (α := Nat × Int) (fun y => [(1, .pointer (some ⟨b1, 0, none⟩)), (3, iV y.2), (5, .int .i64 (y.1 : Nat))]) (fun _ => [cel b1 [.int .i8 op, .int .i8 who, .string (bs name), .slice A nums.length ca, .slice B kids.length cb] 45]) (fun y => y.1 ≤ kids.length ∧ y.2 = capW (1 + (nums.map numW).sum + ((kids.take y.1).map condW).sum)) (fun y => kids.length - y.1) (0, z) ⟨rfl, rfl, rfl, trivial⟩ (Pick.refl _) ⟨Nat.zero_le _, by dsimp only; rw [hz]; simp⟩ ?_
    clear hz hlt hi
    rintro ⟨i, z⟩ ⟨hi, hz⟩
    dsimp only at hi hz
    dsimp only
    unfold iV
    by_cases hlt : i < kids.length
    · have hA : B.isSome = true := hrb.isSome (by omega)
      have hc := fun m1 (hm1 : Le m m1) => ih i hlt m1 (hm.trans hm1)
      have hat := (hrb.elem (i * 5) 5).mono hm
      have hl4 : ((us.drop (i * 5)).take 5).length = 5 := (hkb i hlt).len
      generalize (us.drop (i * 5)).take 5 = ks at hc hat hl4
      have hnn := capW_le (condW kids[i])
      have hzz : 0 ≤ z ∧ z ≤ 1073741824 := by rw [hz]; exact capW_le _
      refine TS_seq ?_
      refine TS_seq ?_
      refine TS_region ?_
      refine VS_pure (P_move rfl) rfl rfl rfl ?_
      refine VS_pure (P_fieldAddr0 fo45_4 rfl) rfl rfl rfl ?_
      refine VS_read (S_loadB sg43 rfl (.here) rfl) rfl rfl rfl ?_
      refine VS_pure (P_len il43 rfl) rfl rfl rfl ?_
      refine VS_pure (dt (P_lss rfl rfl) (by omega)) rfl rfl rfl ?_
      refine VS_nil ?_
      refine QS_then ?_
      refine TS_true rfl ?_
      refine TS_skip ?_
      refine QS_then ?_
      refine TS_seq ?_
      refine TS_block ?_
      refine TS_region ?_
      refine VS_pure (P_move rfl) rfl rfl rfl ?_
      refine VS_pure (P_fieldAddr0 fo45_4 rfl) rfl rfl rfl ?_
      refine VS_read (S_loadB sg43 rfl (.here) rfl) rfl rfl rfl ?_
      refine VS_pure (P_move rfl) rfl rfl rfl ?_
      refine VS_pure (P_indexAddrN ez43 rfl rfl hA (by omega)) rfl rfl rfl ?_
      refine VS_read ((S_loadAt ag45 rfl hl4 hat)) rfl rfl rfl ?_
      skip
      refine VS_step (S_callR cl26 rfl (fun m' hm he => (hc m' hm)) rfl ?_) rfl
      rintro _ rfl
      unfold iV
      skip
      refine VS_pure ((P_add rfl rfl (w64 (by omega) (by omega)))) rfl rfl rfl ?_
      refine VS_pure (P_min2 rfl rfl) rfl rfl rfl ?_
      refine VS_pure (P_assign rfl) rfl rfl rfl ?_
      refine VS_nil ?_
      refine QS_block ?_
      refine QS_then ?_
      refine TS_region ?_
      refine VS_pure (P_move rfl) rfl rfl rfl ?_
      refine VS_pure (P_add rfl rfl (w64 (by omega) (by omega))) rfl rfl rfl ?_
      refine VS_pure (P_assign rfl) rfl rfl rfl ?_
      refine VS_nil ?_
      exact QS_round (i + 1, min (z + capW (condW kids[i])) 1073741824) ⟨rfl, rfl, rfl, trivial⟩ (Pick.refl _) ⟨hlt, by dsimp only; rw [hz, sum_take _ hlt, capW_add, Nat.add_assoc]⟩ (by dsimp only; omega)
    · have hi2 : i = kids.length := by omega
      subst hi2
      rw [List.take_length] at hz
      subst hz
      refine TS_seq ?_
      refine TS_seq ?_
      refine TS_region ?_
      refine VS_pure (P_move rfl) rfl rfl rfl ?_
      refine VS_pure (P_fieldAddr0 fo45_4 rfl) rfl rfl rfl ?_
      refine VS_read (S_loadB sg43 rfl (.here) rfl) rfl rfl rfl ?_
      refine VS_pure (P_len il43 rfl) rfl rfl rfl ?_
      refine VS_pure (df (P_lss rfl rfl) (by omega)) rfl rfl rfl ?_
      refine VS_nil ?_
      refine QS_then ?_
      refine TS_false rfl ?_
      refine TS_exit ?_
      refine QS_then_exit ?_
      refine QS_round_exit ?_
      refine QS_block_here ?_
      refine QS_then ?_
      refine TS_seq ?_
      refine TS_region ?_
      refine VS_pure (P_move rfl) rfl rfl rfl ?_
      refine VS_pure (P_assign rfl) rfl rfl rfl ?_
      refine VS_nil ?_
      refine QS_then ?_
      refine TS_ret ?_
      exact QS_ret [_] ⟨rfl, trivial⟩ [] (Pick.nil _) ⟨by rw [condW_eq]; rfl, rfl⟩
def EW (l : List EffT) : Prop := ∀ (m : Mp) (A : Option Addr) (cap : Nat), EffsR m A l.length l → CS Tryd.prog 14 [.slice A l.length cap] m [] (Gives (iV (capW (effsW l))))
set_option maxHeartbeats 16000000 in
theorem effs14_step {l : List EffT} (ih : ∀ (i : Nat) (h : i < l.length) (op who : Int) (n : NumT) (name : List UInt8) (c : CondT) (a e : List EffT), l[i] = .mk op who n name c a e → EW a ∧ EW e) : EW l := by
  rintro m A cap ⟨-, hml, vs, hrd, hvl, hel⟩
  unfold maxLen at hml
  refine CS_of [.tmp 2] Tryd.func14 rfl rfl rfl ?_
  refine TS_seq ?_
  refine TS_region ?_
  refine VS_pure (P_assign rfl) rfl rfl rfl ?_
  refine VS_nil ?_
  refine QS_then ?_
  refine TS_seq ?_
  refine TS_region ?_
  refine VS_pure (P_assign rfl) rfl rfl rfl ?_
  refine VS_nil ?_
  refine QS_then ?_
  refine TS_seq ?_
  refine TS_seq ?_
  refine TS_region ?_
  refine VS_pure (P_assign rfl) rfl rfl rfl ?_
  refine VS_nil ?_
  refine QS_then ?_
  refine TS_block ?_
  refine TS_loop (α := Nat × Int) (fun y => [(0, .slice A l.length cap), (3, iV y.2), (4, .int .i64 (y.1 : Nat))]) (fun _ => []) (fun y => y.1 ≤ l.length ∧ y.2 = capW ((l.take y.1).map effW).sum) (fun y => l.length - y.1) (0, 0) ⟨rfl, rfl, rfl, trivial⟩ (Pick.refl _) ⟨Nat.zero_le _, by simp [capW]; omega⟩ ?_
  rintro ⟨i, z⟩ ⟨hi, hz⟩
  dsimp only at hi hz
  dsimp only
  unfold iV
  by_cases hlt : i < l.length
  rotate_left
  · have hi2 : i = l.length := by omega
    subst hi2
    rw [List.take_length] at hz
    subst hz
    refine TS_seq ?_
    refine TS_seq ?_
    refine TS_region ?_
    refine VS_pure (P_move rfl) rfl rfl rfl ?_
    refine VS_pure (P_move rfl) rfl rfl rfl ?_
    refine VS_pure (P_len il29 rfl) rfl rfl rfl ?_
    refine VS_pure (df (P_lss rfl rfl) (by omega)) rfl rfl rfl ?_
    refine VS_nil ?_
    refine QS_then ?_
    refine TS_false rfl ?_
    refine TS_exit ?_
    refine QS_then_exit ?_
    refine QS_round_exit ?_
    refine QS_block_here ?_
    refine QS_then ?_
    refine TS_seq ?_
    refine TS_region ?_
    refine VS_pure (P_move rfl) rfl rfl rfl ?_
    refine VS_pure (P_assign rfl) rfl rfl rfl ?_
    refine VS_nil ?_
    refine QS_then ?_
    refine TS_ret ?_
    exact QS_ret [_] ⟨rfl, trivial⟩ [] (Pick.nil _) ⟨rfl, rfl⟩
  have hA : A.isSome = true := hrd.isSome (by omega)
  have hx := hel i hlt
  have hat := hrd.elem (i * 14) 14
  have hih := ih i hlt
  have hstep := sum_take effW hlt
  generalize l[i] = x at hx hih hstep
  generalize (vs.drop (i * 14)).take 14 = cs at hx hat
  obtain ⟨op, who, nop, nn, nwho, nA, nlen, nc, name, cop, cwho, cname, cA, cla, cca, cB, clb, ccb, TA, la, ca, EB, lb, cb, n, cond, thn, els, rfl, rfl, -, hn, hc, hthn, hels⟩ := EffR.parts hx
  obtain ⟨ihT, ihE⟩ := hih _ _ _ _ _ _ _ rfl
  have elen := hthn.1
  have elen2 := hels.1
  subst elen elen2
  have hatn := hat.sub 2 4
  have hatc := hat.sub 7 5
  dsimp only [List.drop, List.take] at hatn hatc
  have hzz : 0 ≤ z ∧ z ≤ 1073741824 := by rw [hz]; exact capW_le _
  have hz1 : min (z + 1) 1073741824 = capW (((l.take i).map effW).sum + 1) := by rw [hz, ← capW_add]; unfold capW; omega
  rw [effW_eq] at hstep
  clear hx
  generalize ((l.take i).map effW).sum = s0 at hstep hz1
  generalize hs1 : ((l.take (i + 1)).map effW).sum = s1 at hstep
  clear hz ih hel
  refine TS_seq ?_
  refine TS_seq ?_
  refine TS_region ?_
  refine VS_pure (P_move rfl) rfl rfl rfl ?_
  refine VS_pure (P_move rfl) rfl rfl rfl ?_
  refine VS_pure (P_len il29 rfl) rfl rfl rfl ?_
  refine VS_pure (dt (P_lss rfl rfl) (by omega)) rfl rfl rfl ?_
  refine VS_nil ?_
  refine QS_then ?_
  refine TS_true rfl ?_
  refine TS_skip ?_
  refine QS_then ?_
  refine TS_seq ?_
  refine TS_block ?_
  refine TS_seq ?_
  refine TS_region ?_
  refine VS_pure (P_move rfl) rfl rfl rfl ?_
  refine VS_pure ((P_add rfl rfl (w64 (by omega) (by omega)))) rfl rfl rfl ?_
  refine VS_pure (P_min2 rfl rfl) rfl rfl rfl ?_
  refine VS_pure (P_assign rfl) rfl rfl rfl ?_
  refine VS_nil ?_
  refine QS_then ?_
  refine TS_seq ?_
  refine TS_seq ?_
  rw [hz1]
  have hb1 := capW_le (s0 + 1)
  refine TS_cut3 (α := Int) (fun z => [(0, .slice A l.length cap), (3, iV z), (4, .int .i64 (i : Nat))]) (fun _ => []) (fun z => z = capW (s0 + 1 + if countsB op then numW n else 0)) ?_ ?_
  · refine TS_region ?_
    refine VS_pure (P_move rfl) rfl rfl rfl ?_
    refine VS_pure (P_move rfl) rfl rfl rfl ?_
    refine VS_pure (P_indexAddrN ez29 rfl rfl hA (by omega)) rfl rfl rfl ?_
    refine VS_pure (P_fieldAddr fo47_0 rfl) rfl rfl rfl ?_
    refine VS_read (S_load sg39 rfl (hat.at_ rfl)) rfl rfl rfl ?_
    refine VS_step (S_callR cl24 rfl (fun m' hm he => (counts24 op)) rfl ?_) rfl
    rintro _ rfl
    cases hcb : countsB op with
    | true =>
      have hnn := capW_le (numW n)
      have e := capW_add (s0 + 1) (numW n)
      refine VS_nil ?_
      refine QS_then ?_
      refine TS_true rfl ?_
      refine TS_region ?_
      iterate 3 (refine VS_pure (P_move rfl) rfl rfl rfl ?_)
      refine VS_pure (P_indexAddrN ez29 rfl rfl hA (by omega)) rfl rfl rfl ?_
      refine VS_pure (P_fieldAddr fo47_2 rfl) rfl rfl rfl ?_
      refine VS_read (S_loadAt ag42 rfl rfl hatn) rfl rfl rfl ?_
      refine VS_step (S_callR cl25 rfl (fun m' hm he => (num25 hn m' hm)) rfl ?_) rfl
      rintro _ rfl
      unfold iV
      skip
      refine VS_pure ((P_add rfl rfl (w64 (by omega) (by omega)))) rfl rfl rfl ?_
      refine VS_pure (P_min2 rfl rfl) rfl rfl rfl ?_
      refine VS_pure (P_assign rfl) rfl rfl rfl ?_
      refine VS_nil ?_
      exact QS_round (min (capW (s0 + 1) + capW (numW n)) 1073741824) ⟨rfl, rfl, rfl, trivial⟩ (Pick.refl _) (by rw [e, if_pos rfl]) (by decide)
    | false =>
      refine VS_nil ?_
      refine QS_then ?_
      refine TS_false rfl ?_
      refine TS_skip ?_
      exact QS_round (capW (s0 + 1)) ⟨rfl, rfl, rfl, trivial⟩ (Pick.refl _) (by rw [if_neg (by decide), Nat.add_zero]) (by decide)
  rintro _ rfl
  generalize hs2 : s0 + 1 + (if countsB op then numW n else 0) = s2
  have hb2 := capW_le s2
  unfold iV
  by_cases h8 : op = 8
  · rw [if_pos h8] at hstep
    have hk1 := capW_le (condW cond)
    have hk2 := capW_le (effsW thn)
    have hk3 := capW_le (effsW els)
    have e : min (capW s2 + capW (condW cond) + capW (effsW thn) + capW (effsW els)) 1073741824 = capW s1 := by
      have h1 : s1 = s2 + condW cond + effsW thn + effsW els := by unfold effsW; omega
      rw [h1]
      unfold capW
      omega
    refine TS_seq ?_
    refine TS_region ?_
    refine VS_pure (P_move rfl) rfl rfl rfl ?_
    refine VS_pure (P_move rfl) rfl rfl rfl ?_
    refine VS_pure (P_indexAddrN ez29 rfl rfl hA (by omega)) rfl rfl rfl ?_
    refine VS_pure (P_fieldAddr fo47_0 rfl) rfl rfl rfl ?_
    refine VS_read (S_load sg39 rfl (hat.at_ rfl)) rfl rfl rfl ?_
    refine VS_pure (dt (P_eql rfl rfl) (by assumption)) rfl rfl rfl ?_
    refine VS_nil ?_
    refine QS_then ?_
    refine TS_true rfl ?_
    refine TS_draw (.step 0 .pure (.step 1 .pure (.step 2 .pure (.step 3 .pure (.step 4 .pure (.step 8 .pure (.step 9 .pure (.step 10 .pure (.step 11 .pure (.step 15 .pure (.step 16 .pure (.step 17 .pure (.step 18 .pure (.step 5 .read (.step 12 .read (.step 19 .read (.step 6 .kept (.step 7 .pure (.step 13 .kept (.step 14 .pure (.step 20 .kept (.step 21 .pure (.step 22 .pure (.step 23 .pure (.done))))))))))))))))))))))))) mixed (by kernel_rfl) (fun _ _ _ _ hq => hq) ?_
    iterate 3 (refine VTS_pure rfl (P_move rfl) rfl rfl rfl ?_)
    refine VTS_pure rfl (P_indexAddrN ez29 rfl rfl hA (by omega)) rfl rfl rfl ?_
    refine VTS_pure rfl (P_fieldAddr fo47_4 rfl) rfl rfl rfl ?_
    refine VTS_pure rfl (P_move rfl) rfl rfl rfl ?_
    refine VTS_pure rfl (P_move rfl) rfl rfl rfl ?_
    refine VTS_pure rfl (P_indexAddrN ez29 rfl rfl hA (by omega)) rfl rfl rfl ?_
    refine VTS_pure rfl (P_fieldAddr fo47_5 rfl) rfl rfl rfl ?_
    refine VTS_pure rfl (P_move rfl) rfl rfl rfl ?_
    refine VTS_pure rfl (P_move rfl) rfl rfl rfl ?_
    refine VTS_pure rfl (P_indexAddrN ez29 rfl rfl hA (by omega)) rfl rfl rfl ?_
    refine VTS_pure rfl (P_fieldAddr fo47_6 rfl) rfl rfl rfl ?_
    refine VTS_read rfl (S_loadAt ag45 rfl rfl hatc) rfl rfl rfl ?_
    refine VTS_read rfl (S_load sg29 rfl (hat.at_ rfl)) rfl rfl rfl ?_
    refine VTS_read rfl (S_load sg29 rfl (hat.at_ rfl)) rfl rfl rfl ?_
    refine VTS_kept rfl (S_callR cl26 rfl (fun m' hm he => (cond26 hc m' hm)) rfl ?_) rfl
    rintro _ rfl
    unfold iV
    skip
    refine VTS_pure rfl ((P_add rfl rfl (w64 (by omega) (by omega)))) rfl rfl rfl ?_
    skip
    refine VTS_kept rfl (S_callR cl14 rfl (fun m' hm he => (ihT m' TA ca (hthn.mono hm))) rfl ?_) rfl
    rintro _ rfl
    unfold iV
    skip
    refine VTS_pure rfl ((P_add rfl rfl (w64 (by omega) (by omega)))) rfl rfl rfl ?_
    skip
    refine VTS_kept rfl (S_callR cl14 rfl (fun m' hm he => (ihE m' EB cb (hels.mono hm))) rfl ?_) rfl
    rintro _ rfl
    unfold iV
    skip
    refine VTS_pure rfl ((P_add rfl rfl (w64 (by omega) (by omega)))) rfl rfl rfl ?_
    refine VTS_pure rfl (P_min2 rfl rfl) rfl rfl rfl ?_
    refine VTS_pure rfl (P_assign rfl) rfl rfl rfl ?_
    refine VTS_nil ?_
    refine QS_block ?_
    refine QS_then ?_
    refine TS_region ?_
    refine VS_pure (P_move rfl) rfl rfl rfl ?_
    refine VS_pure (P_add rfl rfl (w64 (by omega) (by omega))) rfl rfl rfl ?_
    refine VS_pure (P_assign rfl) rfl rfl rfl ?_
    refine VS_nil ?_
    rw [e]
    exact QS_round (i + 1, capW s1) ⟨rfl, rfl, rfl, trivial⟩ (Pick.refl _) ⟨hlt, by dsimp only; rw [hs1]⟩ (by dsimp only; omega)
  · rw [if_neg h8] at hstep
    have e : s2 = s1 := by omega
    subst e
    refine TS_seq ?_
    refine TS_region ?_
    refine VS_pure (P_move rfl) rfl rfl rfl ?_
    refine VS_pure (P_move rfl) rfl rfl rfl ?_
    refine VS_pure (P_indexAddrN ez29 rfl rfl hA (by omega)) rfl rfl rfl ?_
    refine VS_pure (P_fieldAddr fo47_0 rfl) rfl rfl rfl ?_
    refine VS_read (S_load sg39 rfl (hat.at_ rfl)) rfl rfl rfl ?_
    refine VS_pure (df (P_eql rfl rfl) (by assumption)) rfl rfl rfl ?_
    refine VS_nil ?_
    refine QS_then ?_
    refine TS_false rfl ?_
    refine TS_skip ?_
    refine QS_block ?_
    refine QS_then ?_
    refine TS_region ?_
    refine VS_pure (P_move rfl) rfl rfl rfl ?_
    refine VS_pure (P_add rfl rfl (w64 (by omega) (by omega))) rfl rfl rfl ?_
    refine VS_pure (P_assign rfl) rfl rfl rfl ?_
    refine VS_nil ?_
    exact QS_round (i + 1, capW s2) ⟨rfl, rfl, rfl, trivial⟩ (Pick.refl _) ⟨hlt, by dsimp only; rw [hs1]⟩ (by dsimp only; omega)
theorem effs14 (l : List EffT) : EW l := effs14_step fun i h op who n name c a e he => ⟨effs14 a, effs14 e⟩
termination_by SizeOf.sizeOf l
decreasing_by
  all_goals
    have h1 := List.sizeOf_lt_of_mem (List.getElem_mem h)
    rw [he] at h1
    simp only [EffT.mk.sizeOf_spec] at h1
    omega
def cardW (x : CardT) : Nat := effsW x.played + effsW x.dead + effsW x.dawn
theorem cardW_flat {x : CardT} {l : List PartT} (h : FlatL (kidsC x) l) : l.length = cardW x := by
  rw [flatL_len h]
  unfold kidsC cardW effsW
  rw [List.map_append, List.map_append, map_eff, map_eff, map_eff, List.sum_append, List.sum_append]
set_option maxHeartbeats 4000000 in
theorem Weight8 {m : Mp} {cs : List Value} {x : CardT} (hx : CardR m cs x) : CS Tryd.prog 8 [.agg cs.toArray] m [] (Gives (iV (capW (cardW x)))) := by
  obtain ⟨A, la, ca, B, lb, cb, D, ld, cd, rfl, hnl, hP, hD, hW, -⟩ := hx
  have e1 := hP.1
  have e2 := hD.1
  have e3 := hW.1
  subst e1 e2 e3
  have hk1 := capW_le (effsW x.played)
  have hk2 := capW_le (effsW x.dead)
  have hk3 := capW_le (effsW x.dawn)
  have e : min (capW (effsW x.played) + capW (effsW x.dead) + capW (effsW x.dawn)) 1073741824 = capW (cardW x) := by
    unfold cardW capW
    omega
  refine CS_of [.tmp 2] Tryd.func8 rfl rfl rfl ?_
  refine TS_seq ?_
  refine TS_region ?_
  refine VS_step (S_box rfl rfl (fun b1 => ?_)) rfl
  refine VS_pure (P_assign rfl) rfl rfl rfl ?_
  refine VS_nil ?_
  refine QS_then ?_
  refine TS_seq ?_
  refine TS_draw (.step 0 .pure (.step 3 .pure (.step 7 .pure (.step 1 .read (.step 4 .read (.step 8 .read (.step 2 .kept (.step 5 .kept (.step 6 .pure (.step 9 .kept (.step 10 .pure (.step 11 .pure (.step 12 .pure (.done)))))))))))))) mixed (by kernel_rfl) (fun _ _ _ _ hq => hq) ?_
  refine VTS_pure rfl (P_fieldAddr0 fo31_8 rfl) rfl rfl rfl ?_
  refine VTS_pure rfl (P_fieldAddr0 fo31_9 rfl) rfl rfl rfl ?_
  refine VTS_pure rfl (P_fieldAddr0 fo31_10 rfl) rfl rfl rfl ?_
  iterate 3 (refine VTS_read rfl (S_loadB sg29 rfl (.here) rfl) rfl rfl rfl ?_)
  refine VTS_kept rfl (S_callR cl14 rfl (fun m' hm he => (effs14 _ m' A ca (hP.mono hm))) rfl ?_) rfl
  rintro _ rfl
  skip
  refine VTS_kept rfl (S_callR cl14 rfl (fun m' hm he => (effs14 _ m' B cb (hD.mono hm))) rfl ?_) rfl
  rintro _ rfl
  unfold iV
  skip
  refine VTS_pure rfl ((P_add rfl rfl (w64 (by omega) (by omega)))) rfl rfl rfl ?_
  skip
  refine VTS_kept rfl (S_callR cl14 rfl (fun m' hm he => (effs14 _ m' D cd (hW.mono hm))) rfl ?_) rfl
  rintro _ rfl
  unfold iV
  skip
  refine VTS_pure rfl ((P_add rfl rfl (w64 (by omega) (by omega)))) rfl rfl rfl ?_
  refine VTS_pure rfl (P_min2 rfl rfl) rfl rfl rfl ?_
  refine VTS_pure rfl (P_assign rfl) rfl rfl rfl ?_
  refine VTS_nil ?_
  refine QS_then ?_
  refine TS_ret ?_
  rw [e]
  exact QS_ret [_] ⟨rfl, trivial⟩ [] (Pick.nil _) ⟨rfl, rfl⟩
end Go.Proofs.YtbghonkgflolaaaDoor
