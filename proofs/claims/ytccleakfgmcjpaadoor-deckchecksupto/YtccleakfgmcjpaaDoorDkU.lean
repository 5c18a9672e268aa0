/- A part of the proof: contracts of functions of the program. No condition. -/
import Derived.Test.YtccleakfgmcjpaaDoorDkI
namespace Go.Proofs.YtccleakfgmcjpaaDoor
open Go.Eng Dk
set_option maxRecDepth 100000
set_option maxHeartbeats 8000000 in
theorem positive_ok : ∀ (f u : Nat), u < f → u < 18446744073709551616 → ∀ m : Mp, CS Tryd.prog 45 [.int .u64 (u : Nat)] m [] (Gives (sV (Lib.decDigits u))) := by
  intro f
  induction f with
  | zero => intro u h; omega
  | succ f ih =>
    intro u hu h64 m
    refine CS_of [.tmp 2] Tryd.func45 rfl rfl rfl ?_
    by_cases h10 : u < 10
    · rw [show Lib.decDigits u = [UInt8.ofNat (48 + u)] by rw [Lib.decDigits, dif_pos h10]]
      have e2 : (48 + (u : Int)) = ((UInt8.ofNat (48 + u)).toNat : Int) := by
        simp
        omega
      refine TS_seq ?_
      refine TS_region ?_
      refine VS_pure (P_assign rfl) rfl rfl rfl ?_
      refine VS_nil ?_
      refine QS_then ?_
      refine TS_seq ?_
      refine TS_seq ?_
      refine TS_region ?_
      refine VS_pure (P_move rfl) rfl rfl rfl ?_
      refine VS_pure (dt (P_lss rfl rfl) (by omega)) rfl rfl rfl ?_
      refine VS_nil ?_
      refine QS_then ?_
      refine TS_true rfl ?_
      refine TS_seq ?_
      refine TS_region ?_
      refine VS_pure (P_move rfl) rfl rfl rfl ?_
      refine VS_pure (P_add rfl rfl (wu64 (by omega) (by omega))) rfl rfl rfl ?_
      refine VS_pure (P_conv_int us91 ik5 rfl (wu8 (by omega) (by omega))) rfl rfl rfl ?_
      refine VS_step (S_buildSlice sl81 rfl rfl rfl rfl (fun b1 => ?_)) rfl
      rw [e2]
      refine VS_read (fun h hs => R_bstr (l := [UInt8.ofNat (48 + u)]) bt81 st9 rfl rfl (Rd.blk (hs.get .here))) rfl rfl rfl ?_
      refine VS_pure (P_assign rfl) rfl rfl rfl ?_
      refine VS_nil ?_
      refine QS_then ?_
      refine TS_ret ?_
      refine QS_then_ret ?_
      exact QS_ret [_] ⟨rfl, trivial⟩ [] (Pick.nil _) ⟨rfl, rfl⟩
    · have I := ih (u / 10) (by omega) (by omega)
      rw [show Lib.decDigits u = Lib.decDigits (u / 10) ++ [UInt8.ofNat (48 + u % 10)] by rw [Lib.decDigits, dif_neg h10]]
      have hdl : (Lib.decDigits (u / 10)).length ≤ 20 := by
        rw [Lib.decDigits_length]
        exact Lib.nDigits_le20 _ (by omega)
      have e1 : IntKind.u64.wrap ((u : Int).tdiv 10) = ((u / 10 : Nat) : Int) := by
        show IntKind.u64.wrap ((u / 10 : Nat) : Int) = _
        rw [IntKind.wrap_u64]
        omega
      have e2 : IntKind.u8.wrap (IntKind.u64.wrap (48 + (u : Int).tmod 10)) = ((UInt8.ofNat (48 + u % 10)).toNat : Int) := by
        rw [show (u : Int).tmod 10 = ((u % 10 : Nat) : Int) from rfl, IntKind.wrap_u64, IntKind.wrap_u8]
        simp
      refine TS_seq ?_
      refine TS_region ?_
      refine VS_pure (P_assign rfl) rfl rfl rfl ?_
      refine VS_nil ?_
      refine QS_then ?_
      refine TS_seq ?_
      refine TS_seq ?_
      refine TS_region ?_
      refine VS_pure (P_move rfl) rfl rfl rfl ?_
      refine VS_pure (df (P_lss rfl rfl) (by omega)) rfl rfl rfl ?_
      refine VS_nil ?_
      refine QS_then ?_
      refine TS_false rfl ?_
      refine TS_skip ?_
      refine QS_then ?_
      refine TS_seq ?_
      refine TS_draw (.step 0 .pure (.step 1 .pure (.step 3 .pure (.step 4 .pure (.step 5 .pure (.step 6 .read (.fork (.step 2 .kept (.step 7 .kept (.step 8 .read (.step 9 .pure (.step 10 .pure (.done)))))) (.step 7 .kept (.step 8 .read (.step 2 .kept (.step 9 .pure (.step 10 .pure (.done))))))))))))) mixed (by kernel_rfl) (fun _ _ _ _ hq => hq) ?_
      refine VTS_pure rfl (P_move rfl) rfl rfl rfl ?_
      refine VTS_pure rfl (P_quo rfl rfl (by omega) rfl) rfl rfl rfl ?_
      refine VTS_pure rfl (P_move rfl) rfl rfl rfl ?_
      refine VTS_pure rfl (P_rem rfl rfl (by omega) rfl) rfl rfl rfl ?_
      refine VTS_pure rfl (P_add rfl rfl rfl) rfl rfl rfl ?_
      refine VTS_readp rfl (P_conv_int us91 ik5 rfl rfl) rfl rfl rfl ?_
      refine VTS_fork ?_ ?_
      · rw [e1, e2]
        refine VTS_kept rfl (S_callR cl45 rfl (fun m' hm he => (I _)) rfl ?_) rfl
        rintro _ rfl
        refine VTS_kept rfl (S_buildSlice sl81 rfl rfl rfl rfl (fun b1 => ?_)) rfl
        refine VTS_read rfl (fun h hs => R_bstr (l := [UInt8.ofNat (48 + u % 10)]) bt81 st9 rfl rfl (Rd.blk (hs.get .here))) rfl rfl rfl ?_
        refine VTS_pure rfl (P_sadd rfl rfl (by simp <;> omega)) rfl rfl rfl ?_
        refine VTS_pure rfl (P_assign rfl) rfl rfl rfl ?_
        refine VTS_nil ?_
        refine QS_then ?_
        refine TS_ret ?_
        exact QS_ret [_] ⟨rfl, trivial⟩ [] (Pick.nil _) ⟨rfl, rfl⟩
      · rw [e1, e2]
        refine VTS_kept rfl (S_buildSlice sl81 rfl rfl rfl rfl (fun b1 => ?_)) rfl
        refine VTS_read rfl (fun h hs => R_bstr (l := [UInt8.ofNat (48 + u % 10)]) bt81 st9 rfl rfl (Rd.blk (hs.get .here))) rfl rfl rfl ?_
        skip
        refine VTS_kept rfl (S_callR cl45 rfl (fun m' hm he => (I _)) rfl ?_) rfl
        rintro _ rfl
        refine VTS_pure rfl (P_sadd rfl rfl (by simp <;> omega)) rfl rfl rfl ?_
        refine VTS_pure rfl (P_assign rfl) rfl rfl rfl ?_
        refine VTS_nil ?_
        refine QS_then ?_
        refine TS_ret ?_
        exact QS_ret [_] ⟨rfl, trivial⟩ [] (Pick.nil _) ⟨rfl, rfl⟩
set_option maxHeartbeats 8000000 in
theorem Digits_ok {m : Mp} {n : Int} (h0 : -9223372036854775808 ≤ n) (h1 : n ≤ 9223372036854775807) : CS Tryd.prog 32 [iV n] m [] (Gives (sV (Lib.itoa n))) := by
  refine CS_of [.tmp 2] Tryd.func32 rfl rfl rfl ?_
  by_cases hn : n < 0
  · have e1 : IntKind.u64.wrap (IntKind.i64.wrap (0 - n)) = ((n.natAbs : Nat) : Int) := by
      rw [IntKind.wrap_u64, IntKind.wrap_i64]
      omega
    have hl : (Lib.decDigits n.natAbs).length ≤ 20 := by
      rw [Lib.decDigits_length]
      exact Lib.nDigits_le20 _ (by omega)
    rw [show Lib.itoa n = [45] ++ Lib.decDigits n.natAbs by rw [Lib.itoa, if_pos hn]; rfl]
    unfold iV
    refine TS_seq ?_
    refine TS_region ?_
    refine VS_pure (P_assign rfl) rfl rfl rfl ?_
    refine VS_nil ?_
    refine QS_then ?_
    refine TS_seq ?_
    refine TS_seq ?_
    refine TS_region ?_
    refine VS_pure (P_move rfl) rfl rfl rfl ?_
    refine VS_pure (dt (P_lss rfl rfl) (by assumption)) rfl rfl rfl ?_
    refine VS_nil ?_
    refine QS_then ?_
    refine TS_true rfl ?_
    refine TS_seq ?_
    refine TS_region ?_
    refine VS_pure (P_move rfl) rfl rfl rfl ?_
    refine VS_pure (P_neg rfl rfl) rfl rfl rfl ?_
    refine VS_pure (P_conv_int us3 ik91 rfl rfl) rfl rfl rfl ?_
    rw [e1]
    refine VS_step (S_callR cl45 rfl (fun m' hm he => (positive_ok (n.natAbs + 1) n.natAbs (by omega) (by omega) m')) rfl ?_) rfl
    rintro _ rfl
    refine VS_pure (P_sadd rfl rfl (by simp <;> omega)) rfl rfl rfl ?_
    refine VS_pure (P_assign rfl) rfl rfl rfl ?_
    refine VS_nil ?_
    refine QS_then ?_
    refine TS_ret ?_
    refine QS_then_ret ?_
    exact QS_ret [_] ⟨rfl, trivial⟩ [] (Pick.nil _) ⟨rfl, rfl⟩
  · obtain ⟨k, rfl⟩ : ∃ k : Nat, n = k := ⟨n.toNat, by omega⟩
    rw [show Lib.itoa (k : Int) = Lib.decDigits k by rw [Lib.itoa, if_neg hn]; rfl]
    unfold iV
    refine TS_seq ?_
    refine TS_region ?_
    refine VS_pure (P_assign rfl) rfl rfl rfl ?_
    refine VS_nil ?_
    refine QS_then ?_
    refine TS_seq ?_
    refine TS_seq ?_
    refine TS_region ?_
    refine VS_pure (P_move rfl) rfl rfl rfl ?_
    refine VS_pure (df (P_lss rfl rfl) (by assumption)) rfl rfl rfl ?_
    refine VS_nil ?_
    refine QS_then ?_
    refine TS_false rfl ?_
    refine TS_skip ?_
    refine QS_then ?_
    refine TS_seq ?_
    refine TS_region ?_
    refine VS_pure (P_move rfl) rfl rfl rfl ?_
    refine VS_pure (P_conv_int us3 ik91 rfl (wu64 (by omega) (by omega))) rfl rfl rfl ?_
    refine VS_step (S_callR cl45 rfl (fun m' hm he => (positive_ok (k + 1) k (by omega) (by omega) m')) rfl ?_) rfl
    rintro _ rfl
    refine VS_pure (P_assign rfl) rfl rfl rfl ?_
    refine VS_nil ?_
    refine QS_then ?_
    refine TS_ret ?_
    exact QS_ret [_] ⟨rfl, trivial⟩ [] (Pick.nil _) ⟨rfl, rfl⟩
end Go.Proofs.YtccleakfgmcjpaaDoor
